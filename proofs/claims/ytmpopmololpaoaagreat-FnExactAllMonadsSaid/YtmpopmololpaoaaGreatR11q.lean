/- Functor categories, by the reference: the place of a transformation, identities, composites. -/
import Derived.Test.YtmpopmololpaoaaGreatN35q
import Derived.Test.YtmpopmololpaoaaGreatKsx
import Derived.Test.YtmpopmololpaoaaGreatR10q
set_option linter.unusedSimpArgs false
set_option linter.unusedVariables false
set_option maxRecDepth 100000
set_option maxHeartbeats 16000000
namespace Go.Eng
open Go Go.Proofs Go.Cats
theorem cal_l05Place : Callable Tryz.prog 123:=⟨_,Tryz.func123,rfl,rfl⟩
theorem sp_l05Place {l : List (List Int)} {r : List Int} (hl : l.length ≤ 1048576) (hr : r.length ≤ 1048576) (hk : ∀ i,i < l.length → (l.getD i []).length ≤ 1048576) : Spec Tryz.prog 123 [.bor [] (intss l),.bor [] (ints r)] [] (iv (fnd l r)) []:=by
  refine spec_of_V (E:=TE) 0 Tryz.func123 rfl (by simp [Tryz.f123]) fun X hn hX=>?_
  repeat' (first|(with_reducible first|refine V_seq ?_|refine V_block ?_|refine V_skip ?_|refine V_ret ?_|refine V_exit ?_)|((with_reducible refine V_cond ?_);simp only [go_sem,simprocAttr])|((refine V_region (by rw [hn];rfl) ?_);intro K hK)|((first|with_reducible refine evOps_n ?_|((with_reducible apply evOps_g);rfl));intro K hK;simp (contextual:=true) only [go_sem,simprocAttr])|with_reducible refine evOps_nil ?_|((with_reducible refine hK _ ?_);clear hK K)|(with_reducible first|refine And.intro ?_ ?_|refine nxt_n ?_|refine nxt_r ?_|refine nxt_e ?_|refine blk_n ?_|refine blk_r ?_|refine blk_same ?_|refine blk_other (by decide) ?_|refine noG_n ?_|refine noG_r ?_|refine noG_e ?_|refine inR_mk ?_ ?_)|(refine fun (hc : (_ : Bool) = _)=>?_;try simp only [hcS] at hc))
  all_goals try exact om_
  refine V_loopK (G:={i : Nat // i ≤ l.length ∧ (scan i (fndO l r) = none)}) (fun ⟨i,_⟩=>[(5,iv i)]) [0,1] (fun ⟨i,_⟩=>[]) [] (fun zz=>l.length - zz.1) ⟨0,Nat.zero_le _,by rfl⟩ ?_ ?_
  · exact Imp.au hX
  rintro ⟨i,hii,hwi⟩
  simp only [go_sem,simprocAttr]
  have hki:=hk i
  repeat' (first|(with_reducible first|refine V_seq ?_|refine V_block ?_|refine V_skip ?_|refine V_ret ?_|refine V_exit ?_)|((with_reducible refine V_cond ?_);simp only [go_sem,simprocAttr])|((refine V_region (by rw [hn];rfl) ?_);intro K hK)|((first|with_reducible refine evOps_n ?_|((with_reducible apply evOps_g);rfl));intro K hK;simp (contextual:=true) only [go_sem,simprocAttr])|with_reducible refine evOps_nil ?_|((with_reducible refine hK _ ?_);clear hK K)|(with_reducible first|refine And.intro ?_ ?_|refine nxt_n ?_|refine nxt_r ?_|refine nxt_e ?_|refine blk_n ?_|refine blk_r ?_|refine blk_same ?_|refine blk_other (by decide) ?_|refine noG_n ?_|refine noG_r ?_|refine noG_e ?_|refine inR_mk ?_ ?_)|((with_reducible refine evCall_at 122 ?_);refine EvCall.rq (a:=(sp_l01Same ?_ ?_)) (b:=cal_l01Same) (c:=?_);all_goals try simp only [go_sem,simprocAttr])|(refine fun (hc : (_ : Bool) = _)=>?_;try simp only [hcS] at hc))
  all_goals try exact om_
  · (first|refine ret_auto ?_|refine ret_auto' ?_);simp only [go_sem,simprocAttr,Tryz.f123]
    rw [fnd_hit hwi (by omega) hc]
  · refine ⟨⟨i + 1,by omega,(by exact scan_next hwi (fndO_f hc))⟩,by simp only;omega,Imp.ao hX⟩
  · (first|refine ret_auto ?_|refine ret_auto' ?_);simp only [go_sem,simprocAttr,Tryz.f123]
    rw [fnd_none (by rw [show l.length = i by omega];exact hwi)]
theorem cal_l08Arrow : Callable Tryz.prog 66:=⟨_,Tryz.func66,rfl,rfl⟩
theorem sp_l08Arrow {ob i j : Int} {fr to id p : List Int} {co L : List (List Int)} {F : List Fun} (hL : L.length ≤ 1048576) (hr : ∀ i,i < L.length → (L.getD i []).length ≤ 1048576) (hp : p.length ≤ 4096) : Spec Tryz.prog 66 [.agg [iv ob,.bor [] (ints fr),.bor [] (ints to),.bor [] (ints id),.bor [] (intss co),.bor [] (funsD F),.bor [] (intss L)],iv i,iv j,.bor [] (ints p)] [] (iv (fnd L (i :: j :: p))) []:=by
  refine spec_of_V (E:=TE) 0 Tryz.func66 rfl (by simp [Tryz.f66]) fun X hn hX=>?_
  have hpl:=sp_l05Place (l:=L) (r:=i :: j :: p) hL (by simp;omega) hr
  repeat' (first|(with_reducible first|refine V_seq ?_|refine V_skip ?_|refine V_ret ?_)|((with_reducible refine V_cond ?_);simp only [go_sem,simprocAttr])|((first|refine V_region (by rw [hn];rfl) ?_|refine V_drawn hmix (by rw [hn];rfl) ?_);intro K hK)|((first|with_reducible refine evOps_n ?_|((with_reducible apply evOps_g);rfl)|with_reducible refine evOpsD_n ?_|((with_reducible apply evOpsD_g);rfl));intro K hK;simp (contextual:=true) only [go_sem,simprocAttr])|with_reducible refine evOps_nil ?_|((with_reducible refine evOpsD_nil ?_ ?_);kernel_rfl)|((with_reducible refine hK _ ?_);clear hK K)|(with_reducible first|refine And.intro ?_ ?_|refine nxt_n ?_|refine nxt_r ?_|refine inR_mk ?_ ?_)|((with_reducible refine evCall_at 123 ?_);refine EvCall.mk (hpl) cal_l05Place [] [2] (by simp [go_sem] <;> (repeat' (first|rfl|constructor))) (by simp [go_sem] <;> (repeat' (first|rfl|constructor))) ?_;all_goals try simp only [go_sem,simprocAttr])|(refine fun (hc : (_ : Bool) = _)=>?_;try simp only [hcS] at hc))
  all_goals try exact om_
  · (first|refine ret_auto ?_|refine ret_auto' ?_);simp only [go_sem,simprocAttr,Tryz.f66]
theorem cal_l07Self : Callable Tryz.prog 109:=⟨_,Tryz.func109,rfl,rfl⟩
theorem sp_l07Self {f : Fun} (sc : Shape f.src) (sd : Shape f.tgt) (hf : Fits f) : Spec Tryz.prog 109 [funV f] [] (.sl 0) [(0,⟨1,.arr (ints (unitL f))⟩)]:=by
  refine spec_of_V (E:=TE) 0 Tryz.func109 rfl (by simp [Tryz.f109]) fun X hn hX=>?_
  have h1:=hf.obl
  have h2:=hf.obw
  have h3:=sc.ob8
  have h4:=sd.ob8
  have h5:=sd.idl
  have hth:=sp_l01Then (f:=f.obs) (g:=f.tgt.id) (by omega) (by omega) (fun i hi=>by have:=h2 i hi;omega)
  rw [show thn f.obs f.tgt.id = unitL f from rfl] at hth
  repeat' (first|(with_reducible first|refine V_seq ?_|refine V_skip ?_|refine V_ret ?_)|((with_reducible refine V_cond ?_);simp only [go_sem,simprocAttr])|((refine V_region (by rw [hn];rfl) ?_);intro K hK)|((first|with_reducible refine evOps_n ?_|((with_reducible apply evOps_g);rfl));intro K hK;simp (contextual:=true) only [go_sem,simprocAttr])|with_reducible refine evOps_nil ?_|((with_reducible refine hK _ ?_);clear hK K)|(with_reducible first|refine And.intro ?_ ?_|refine nxt_n ?_|refine nxt_r ?_|refine inR_mk ?_ ?_)|((with_reducible refine evCall_at 74 ?_);refine EvCall.mk (hth) cal_l01Then [(0,2)] [] (by simp [go_sem] <;> (repeat' (first|rfl|constructor))) (by simp [go_sem] <;> (repeat' (first|rfl|constructor))) ?_;all_goals try simp only [go_sem,simprocAttr])|(refine fun (hc : (_ : Bool) = _)=>?_;try simp only [hcS] at hc))
  all_goals try exact om_
  · (first|refine ret_auto ?_|refine ret_auto' ?_);simp only [go_sem,simprocAttr,Tryz.f109]
theorem cmpT_zero (d : Cat) (s t : List Int) : (cmpL d s t).take 0 = []:=List.take_zero
theorem cmp_succ {d : Cat} {s t : List Int} {x : Nat} (hx : x < s.length) : (cmpL d s t).take (x + 1) = (cmpL d s t).take x ++ [d.C (s.getD x 0) (t.getD x 0)]:=by
  rw [List.take_succ_eq_append_getElem (by rw [cmpL_len];exact hx),← cmpL_at hx,List.getD_eq_getElem?_getD,List.getElem?_eq_getElem (by rw [cmpL_len];exact hx)];rfl
attribute [local go_sem] cmpT_zero
theorem cal_l07Then : Callable Tryz.prog 110:=⟨_,Tryz.func110,rfl,rfl⟩
theorem sp_l07Then {d : Cat} {s t : List Int} (sd : Shape d) (hs : Within s d.fr.length) (ht : Within t d.fr.length) (hl : s.length ≤ 4096) (hst : t.length = s.length) : Spec Tryz.prog 110 [catV d,.bor [] (ints s),.bor [] (ints t)] [] (.sl 0) [(0,⟨1,.arr (ints (cmpL d s t))⟩)]:=by
  refine spec_of_V (E:=TE) 0 Tryz.func110 rfl (by simp [Tryz.f110]) fun X hn hX=>?_
  have col:=sd.col
  have m40:=sd.m40
  repeat' (first|(with_reducible first|refine V_seq ?_|refine V_block ?_|refine V_skip ?_|refine V_ret ?_|refine V_exit ?_)|((with_reducible refine V_cond ?_);simp only [go_sem,simprocAttr])|((first|refine V_region (by rw [hn];rfl) ?_|refine V_drawn hmix (by rw [hn];rfl) ?_);intro K hK)|((first|with_reducible refine evOps_n ?_|((with_reducible apply evOps_g);rfl)|with_reducible refine evOpsD_n ?_|((with_reducible apply evOpsD_g);rfl));intro K hK;simp (contextual:=true) only [go_sem,simprocAttr])|with_reducible refine evOps_nil ?_|((with_reducible refine evOpsD_nil ?_ ?_);kernel_rfl)|((with_reducible refine hK _ ?_);clear hK K)|(with_reducible first|refine And.intro ?_ ?_|refine nxt_n ?_|refine nxt_r ?_|refine nxt_e ?_|refine blk_n ?_|refine blk_r ?_|refine blk_same ?_|refine blk_other (by decide) ?_|refine noG_n ?_|refine noG_r ?_|refine noG_e ?_|refine inR_mk ?_ ?_)|(refine fun (hc : (_ : Bool) = _)=>?_;try simp only [hcS] at hc))
  all_goals try exact om_
  refine V_loopK (G:={x : Nat // x ≤ s.length ∧ (True)}) (fun ⟨x,_⟩=>[(8,iv x),(7,.sl 1)]) [1,2,3,6] (fun ⟨x,_⟩=>[(1,⟨1,.arr (ints ((cmpL d s t).take x))⟩)]) [1] (fun zz=>s.length - zz.1) ⟨0,Nat.zero_le _,by first|trivial|simp⟩ ?_ ?_
  · exact Imp.au hX
  rintro ⟨x,hix,hwx⟩
  simp only [go_sem,simprocAttr]
  have hcl : ((cmpL d s t).take x).length ≤ x:=by rw [List.length_take];omega
  rcases Nat.lt_or_ge x s.length with hlt | hge
  · have h1:=hs x hlt
    have h2:=ht x (by omega)
    have r1:=rows_len sd h1.1 h1.2
    have e1:=cmp_succ (d:=d) (t:=t) hlt
    repeat' (first|(with_reducible first|refine V_seq ?_|refine V_block ?_|refine V_skip ?_|refine V_ret ?_|refine V_exit ?_)|((with_reducible refine V_cond ?_);simp only [go_sem,simprocAttr])|((first|refine V_region (by rw [hn];rfl) ?_|refine V_drawn hmix (by rw [hn];rfl) ?_);intro K hK)|((first|with_reducible refine evOps_n ?_|((with_reducible apply evOps_g);rfl)|with_reducible refine evOpsD_n ?_|((with_reducible apply evOpsD_g);rfl));intro K hK;simp (contextual:=true) only [go_sem,simprocAttr])|with_reducible refine evOps_nil ?_|((with_reducible refine evOpsD_nil ?_ ?_);kernel_rfl)|((with_reducible refine hK _ ?_);clear hK K)|(with_reducible first|refine And.intro ?_ ?_|refine nxt_n ?_|refine nxt_r ?_|refine nxt_e ?_|refine blk_n ?_|refine blk_r ?_|refine blk_same ?_|refine blk_other (by decide) ?_|refine noG_n ?_|refine noG_r ?_|refine noG_e ?_|refine inR_mk ?_ ?_)|(refine fun (hc : (_ : Bool) = _)=>?_;try simp only [hcS] at hc))
    all_goals try exact om_
    · refine ⟨⟨x + 1,by omega,(by trivial)⟩,by simp only;omega,Imp.auto hX (by simp only [go_sem,simprocAttr,e1])⟩
  · have ex : (cmpL d s t).take x = cmpL d s t:=by rw [List.take_of_length_le (by rw [cmpL_len];exact hge)]
    repeat' (first|(with_reducible first|refine V_seq ?_|refine V_block ?_|refine V_skip ?_|refine V_ret ?_|refine V_exit ?_)|((with_reducible refine V_cond ?_);simp only [go_sem,simprocAttr])|((first|refine V_region (by rw [hn];rfl) ?_|refine V_drawn hmix (by rw [hn];rfl) ?_);intro K hK)|((first|with_reducible refine evOps_n ?_|((with_reducible apply evOps_g);rfl)|with_reducible refine evOpsD_n ?_|((with_reducible apply evOpsD_g);rfl));intro K hK;simp (contextual:=true) only [go_sem,simprocAttr])|with_reducible refine evOps_nil ?_|((with_reducible refine evOpsD_nil ?_ ?_);kernel_rfl)|((with_reducible refine hK _ ?_);clear hK K)|(with_reducible first|refine And.intro ?_ ?_|refine nxt_n ?_|refine nxt_r ?_|refine nxt_e ?_|refine blk_n ?_|refine blk_r ?_|refine blk_same ?_|refine blk_other (by decide) ?_|refine noG_n ?_|refine noG_r ?_|refine noG_e ?_|refine inR_mk ?_ ?_)|(refine fun (hc : (_ : Bool) = _)=>?_;try simp only [hcS] at hc))
    all_goals try exact om_
    · (first|refine ret_auto ?_|refine ret_auto' ?_);simp only [go_sem,simprocAttr,Tryz.f110]
      rw [ex]
end Go.Eng
