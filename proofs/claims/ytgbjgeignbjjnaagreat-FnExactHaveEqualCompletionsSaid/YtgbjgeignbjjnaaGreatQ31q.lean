/- Inverses and isomorphic objects, by the program and by the reference; the classes of isomorphic objects and their least ones. -/
import Derived.Test.YtgbjgeignbjjnaaGreatQ30q
import Derived.Test.YtgbjgeignbjjnaaGreatKvx
import Derived.Test.YtgbjgeignbjjnaaGreatQ09q
set_option linter.unusedSimpArgs false
set_option linter.unusedVariables false
set_option maxRecDepth 100000
set_option maxHeartbeats 16000000
namespace Go.Eng
open Go Go.Proofs Go.Cats
theorem skO_zero (c : Cat) : skO c 0 = []:=rfl
theorem sp_l02Unit_i {c : Cat} {f : Int} (hs : Shape c) (h0 : 0 ≤ f) (h1 : f < c.fr.length) : Spec Tryz.prog 69 [catV c,iv f] [] (bv (decide (c.I (c.F f) = f))) []:=by
  obtain ⟨m,rfl⟩ : ∃ m : Nat,f = m:=⟨f.toNat,by omega⟩
  exact sp_l02Unit (c:=c) (f:=m) hs (by omega)
theorem jnK_nil (n : Nat) (ps : List (List Int)) : jnK n ps 0 = nums n:=rfl
attribute [local go_sem] List.set_cons_zero List.set_cons_succ jnK_nil skO_zero isoP_zero alkP_zero alkR_zero selP_zero
theorem hom_at {c : Cat} {x y : Int} {i : Nat} (hi : i < (c.hom x y).length) : 0 ≤ (c.hom x y).getD i 0 ∧ (c.hom x y).getD i 0 < c.fr.length ∧ c.F ((c.hom x y).getD i 0) = x ∧ c.T ((c.hom x y).getD i 0) = y:=Cat.mem_hom.1 (getD_mem hi)
theorem row_len {c : Cat} (s : Shape c) {g : Int} (h0 : 0 ≤ g) (h1 : g < c.fr.length) : (c.co.getD g.toNat []).length = c.fr.length:=(s.coe g.toNat (by omega)).1
theorem cal_Category_inverse : Callable Tryz.prog 93:=⟨_,Tryz.func93,rfl,rfl⟩
theorem sp_Category_inverse {c : Cat} {f : Nat} (s : IsCat c) (hf : f < c.fr.length) : Spec Tryz.prog 93 [.bptr [] (catD c),iv f] [] (iv (c.inv f)) []:=by
  refine spec_of_V (E:=TE) 0 Tryz.func93 rfl (by simp [Tryz.f93]) fun X hn hX=>?_
  have hI : c.inv f = fndP (c.InvP f) (c.hom (c.to.getD f 0) (c.fr.getD f 0)):=rfl
  have hF:=s.toShape.frw f hf
  have h1:=s.toShape.tol
  have hT:=s.toShape.tow f (by omega)
  have h2:=s.toShape.idl
  have h3:=s.toShape.col
  have h4:=s.toShape.m40
  have h5:=(s.toShape.coe f hf).1
  have hl:=c.homI_len (c.to.getD f 0) (c.fr.getD f 0) c.fr.length
  have hl : (c.hom (c.to.getD f 0) (c.fr.getD f 0)).length ≤ c.fr.length:=hl
  rw [hI]
  repeat' (first|(with_reducible first|refine V_seq ?_|refine V_block ?_|refine V_skip ?_|refine V_ret ?_|refine V_exit ?_)|((with_reducible refine V_cond ?_);simp only [go_sem,simprocAttr])|((first|refine V_region (by rw [hn];rfl) ?_|refine V_drawn hmix (by rw [hn];rfl) ?_);intro K hK)|((first|with_reducible refine evOps_n ?_|((with_reducible apply evOps_g);rfl)|with_reducible refine evOpsD_n ?_|((with_reducible apply evOpsD_g);rfl));intro K hK;simp (contextual:=true) only [go_sem,simprocAttr])|with_reducible refine evOps_nil ?_|((with_reducible refine evOpsD_nil ?_ ?_);kernel_rfl)|((with_reducible refine hK _ ?_);clear hK K)|(with_reducible first|refine And.intro ?_ ?_|refine nxt_n ?_|refine nxt_r ?_|refine nxt_e ?_|refine blk_n ?_|refine blk_r ?_|refine blk_same ?_|refine blk_other (by decide) ?_|refine noG_n ?_|refine noG_r ?_|refine noG_e ?_|refine inR_mk ?_ ?_)|((with_reducible refine evCall_at 32 ?_);refine EvCall.rq (a:=(sp_Category_hom ?_ ?_)) (b:=cal_Category_hom) (c:=?_);all_goals try simp only [go_sem,simprocAttr])|(refine fun (hc : (_ : Bool) = _)=>?_;try simp only [hcS] at hc))
  all_goals try exact om_
  refine V_loopK (G:={i : Nat // i ≤ (c.hom (c.to.getD f 0) (c.fr.getD f 0)).length ∧ (scan i (fpO (c.InvP f) (c.hom (c.to.getD f 0) (c.fr.getD f 0))) = none)}) (fun ⟨i,_⟩=>[(28,iv i),(26,.sl 0)]) [0,1,5,6,27] (fun ⟨i,_⟩=>[(0,⟨1,.arr (ints (c.hom (c.to.getD f 0) (c.fr.getD f 0)))⟩)]) [0] (fun zz=>(c.hom (c.to.getD f 0) (c.fr.getD f 0)).length - zz.1) ⟨0,Nat.zero_le _,by rfl⟩ ?_ ?_
  · exact Imp.au hX
  rintro ⟨i,hii,hwi⟩
  simp only [go_sem,simprocAttr]
  rcases Nat.lt_or_ge i (c.hom (c.to.getD f 0) (c.fr.getD f 0)).length with hlt | hge
  · obtain ⟨g0,g1,g2,g3⟩:=hom_at hlt
    have h6:=row_len s.toShape g0 g1
    repeat' (first|(with_reducible first|refine V_seq ?_|refine V_block ?_|refine V_skip ?_|refine V_ret ?_|refine V_exit ?_)|((with_reducible refine V_cond ?_);simp only [go_sem,simprocAttr])|((first|refine V_region (by rw [hn];rfl) ?_|refine V_drawn hmix (by rw [hn];rfl) ?_);intro K hK)|((first|with_reducible refine evOps_n ?_|((with_reducible apply evOps_g);rfl)|with_reducible refine evOpsD_n ?_|((with_reducible apply evOpsD_g);rfl));intro K hK;simp (contextual:=true) only [go_sem,simprocAttr])|with_reducible refine evOps_nil ?_|((with_reducible refine evOpsD_nil ?_ ?_);kernel_rfl)|((with_reducible refine hK _ ?_);clear hK K)|(with_reducible first|refine And.intro ?_ ?_|refine nxt_n ?_|refine nxt_r ?_|refine nxt_e ?_|refine blk_n ?_|refine blk_r ?_|refine blk_same ?_|refine blk_other (by decide) ?_|refine noG_n ?_|refine noG_r ?_|refine noG_e ?_|refine inR_mk ?_ ?_)|((with_reducible refine evCall_at 33 ?_);refine EvCall.rq (a:=(sp_Category_then ?_ ?_ ?_ ?_)) (b:=cal_Category_then) (c:=?_);all_goals try simp only [go_sem,simprocAttr])|(refine fun (hc : (_ : Bool) = _)=>?_;try simp only [hcS] at hc))
    all_goals try exact om_
    · (first|refine ret_auto ?_|refine ret_auto' ?_);simp only [go_sem,simprocAttr,Tryz.f93]
      rw [fndP_hit hwi hlt ⟨by assumption,by assumption⟩]
    all_goals (refine ⟨⟨i + 1,by omega,(by exact scan_next hwi (fpO_f fun q=>by first|(exact absurd q.1 (by assumption))|(exact absurd q.2 (by assumption))))⟩,by simp only;omega,Imp.ao hX⟩)
  · have ei : i = (c.hom (c.to.getD f 0) (c.fr.getD f 0)).length:=by omega
    repeat' (first|(with_reducible first|refine V_seq ?_|refine V_block ?_|refine V_skip ?_|refine V_ret ?_|refine V_exit ?_)|((with_reducible refine V_cond ?_);simp only [go_sem,simprocAttr])|((first|refine V_region (by rw [hn];rfl) ?_|refine V_drawn hmix (by rw [hn];rfl) ?_);intro K hK)|((first|with_reducible refine evOps_n ?_|((with_reducible apply evOps_g);rfl)|with_reducible refine evOpsD_n ?_|((with_reducible apply evOpsD_g);rfl));intro K hK;simp (contextual:=true) only [go_sem,simprocAttr])|with_reducible refine evOps_nil ?_|((with_reducible refine evOpsD_nil ?_ ?_);kernel_rfl)|((with_reducible refine hK _ ?_);clear hK K)|(with_reducible first|refine And.intro ?_ ?_|refine nxt_n ?_|refine nxt_r ?_|refine nxt_e ?_|refine blk_n ?_|refine blk_r ?_|refine blk_same ?_|refine blk_other (by decide) ?_|refine noG_n ?_|refine noG_r ?_|refine noG_e ?_|refine inR_mk ?_ ?_)|(refine fun (hc : (_ : Bool) = _)=>?_;try simp only [hcS] at hc))
    all_goals try exact om_
    · (first|refine ret_auto ?_|refine ret_auto' ?_);simp only [go_sem,simprocAttr,Tryz.f93]
      rw [fndP_none (by rw [← ei];exact hwi)]
theorem cal_l02Inverse : Callable Tryz.prog 80:=⟨_,Tryz.func80,rfl,rfl⟩
theorem sp_l02Inverse {c : Cat} {f : Nat} (s : IsCat c) (hf : f < c.fr.length) : Spec Tryz.prog 80 [catV c,iv f] [] (iv (c.inv f)) []:=by
  refine spec_of_V (E:=TE) 0 Tryz.func80 rfl (by simp [Tryz.f80]) fun X hn hX=>?_
  have hsh:=s.toShape
  have hI : c.inv f = fndP (c.InvP f) (c.hom (c.to.getD f 0) (c.fr.getD f 0)):=rfl
  have hF:=s.toShape.frw f hf
  have h1:=s.toShape.tol
  have hT:=s.toShape.tow f (by omega)
  have h2:=s.toShape.idl
  have h3:=s.toShape.col
  have h4:=s.toShape.m40
  have h5:=(s.toShape.coe f hf).1
  have hl:=c.homI_len (c.to.getD f 0) (c.fr.getD f 0) c.fr.length
  have hl : (c.hom (c.to.getD f 0) (c.fr.getD f 0)).length ≤ c.fr.length:=hl
  rw [hI]
  repeat' (first|(with_reducible first|refine V_seq ?_|refine V_block ?_|refine V_skip ?_|refine V_ret ?_|refine V_exit ?_)|((with_reducible refine V_cond ?_);simp only [go_sem,simprocAttr])|((first|refine V_region (by rw [hn];rfl) ?_|refine V_drawn hmix (by rw [hn];rfl) ?_);intro K hK)|((first|with_reducible refine evOps_n ?_|((with_reducible apply evOps_g);rfl)|with_reducible refine evOpsD_n ?_|((with_reducible apply evOpsD_g);rfl));intro K hK;simp (contextual:=true) only [go_sem,simprocAttr])|with_reducible refine evOps_nil ?_|((with_reducible refine evOpsD_nil ?_ ?_);kernel_rfl)|((with_reducible refine hK _ ?_);clear hK K)|(with_reducible first|refine And.intro ?_ ?_|refine nxt_n ?_|refine nxt_r ?_|refine nxt_e ?_|refine blk_n ?_|refine blk_r ?_|refine blk_same ?_|refine blk_other (by decide) ?_|refine noG_n ?_|refine noG_r ?_|refine noG_e ?_|refine inR_mk ?_ ?_)|((with_reducible refine evCall_at 24 ?_);refine EvCall.rq (a:=(sp_l02Hom ?_ ?_)) (b:=cal_l02Hom) (c:=?_);all_goals try simp only [go_sem,simprocAttr])|(refine fun (hc : (_ : Bool) = _)=>?_;try simp only [hcS] at hc))
  all_goals try exact om_
  refine V_loopK (G:={i : Nat // i ≤ (c.hom (c.to.getD f 0) (c.fr.getD f 0)).length ∧ (scan i (fpO (c.InvP f) (c.hom (c.to.getD f 0) (c.fr.getD f 0))) = none)}) (fun ⟨i,_⟩=>[(6,iv i),(5,.sl 1)]) [1,2] (fun ⟨i,_⟩=>[(1,⟨1,.arr (ints (c.hom (c.to.getD f 0) (c.fr.getD f 0)))⟩)]) [1] (fun zz=>(c.hom (c.to.getD f 0) (c.fr.getD f 0)).length - zz.1) ⟨0,Nat.zero_le _,by rfl⟩ ?_ ?_
  · exact Imp.au hX
  rintro ⟨i,hii,hwi⟩
  simp only [go_sem,simprocAttr]
  rcases Nat.lt_or_ge i (c.hom (c.to.getD f 0) (c.fr.getD f 0)).length with hlt | hge
  · obtain ⟨g0,g1,g2,g3⟩:=hom_at hlt
    have h6:=row_len s.toShape g0 g1
    have f0 : (0 : Int) ≤ f:=by omega
    have f1 : (f : Int) < c.fr.length:=by omega
    have g2' : c.T (f : Int) = c.F ((c.hom (c.to.getD f 0) (c.fr.getD f 0)).getD i 0):=by rw [g2];rfl
    have g3' : c.T ((c.hom (c.to.getD f 0) (c.fr.getD f 0)).getD i 0) = c.F (f : Int):=by rw [g3];rfl
    have hiu:=s.inv_unit f0 f1 (g:=(c.hom (c.to.getD f 0) (c.fr.getD f 0)).getD i 0) (getD_mem hlt)
    obtain ⟨a0,a1,a2,a3⟩:=s.toShape.compI f0 f1 g0 g1 g2'
    obtain ⟨b0,b1,b2,b3⟩:=s.toShape.compI g0 g1 f0 f1 g3'
    repeat' (first|(with_reducible first|refine V_seq ?_|refine V_block ?_|refine V_skip ?_|refine V_ret ?_|refine V_exit ?_)|((with_reducible refine V_cond ?_);simp only [go_sem,simprocAttr])|((first|refine V_region (by rw [hn];rfl) ?_|refine V_drawn hmix (by rw [hn];rfl) ?_);intro K hK)|((first|with_reducible refine evOps_n ?_|((with_reducible apply evOps_g);rfl)|with_reducible refine evOpsD_n ?_|((with_reducible apply evOpsD_g);rfl));intro K hK;simp (contextual:=true) only [go_sem,simprocAttr])|with_reducible refine evOps_nil ?_|((with_reducible refine evOpsD_nil ?_ ?_);kernel_rfl)|((with_reducible refine hK _ ?_);clear hK K)|(with_reducible first|refine And.intro ?_ ?_|refine nxt_n ?_|refine nxt_r ?_|refine nxt_e ?_|refine blk_n ?_|refine blk_r ?_|refine blk_same ?_|refine blk_other (by decide) ?_|refine noG_n ?_|refine noG_r ?_|refine noG_e ?_|refine inR_mk ?_ ?_)|((with_reducible refine evCall_at 25 ?_);refine EvCall.rq (a:=(sp_l02Then ?_ ?_ ?_ ?_)) (b:=cal_l02Then) (c:=?_);all_goals try simp only [go_sem,simprocAttr])|((with_reducible refine evCall_at 69 ?_);refine EvCall.rq (a:=(sp_l02Unit_i (by first|omega|assumption|rfl) (by first|omega|assumption|rfl) (by first|omega|assumption|rfl))) (b:=cal_l02Unit) (c:=?_);all_goals try simp only [go_sem,simprocAttr])|(refine fun (hc : (_ : Bool) = _)=>?_;try simp only [hcS] at hc))
    all_goals try exact om_
    · (first|refine ret_auto ?_|refine ret_auto' ?_);simp only [go_sem,simprocAttr,Tryz.f80]
      rw [fndP_hit hwi hlt (hiu.2 ⟨by assumption,by assumption⟩)]
    all_goals (refine ⟨⟨i + 1,by omega,(by exact scan_next hwi (fpO_f fun q=>by first|(exact absurd (hiu.1 q).1 (by assumption))|(exact absurd (hiu.1 q).2 (by assumption))))⟩,by simp only;omega,Imp.ao hX⟩)
  · have ei : i = (c.hom (c.to.getD f 0) (c.fr.getD f 0)).length:=by omega
    repeat' (first|(with_reducible first|refine V_seq ?_|refine V_block ?_|refine V_skip ?_|refine V_ret ?_|refine V_exit ?_)|((with_reducible refine V_cond ?_);simp only [go_sem,simprocAttr])|((first|refine V_region (by rw [hn];rfl) ?_|refine V_drawn hmix (by rw [hn];rfl) ?_);intro K hK)|((first|with_reducible refine evOps_n ?_|((with_reducible apply evOps_g);rfl)|with_reducible refine evOpsD_n ?_|((with_reducible apply evOpsD_g);rfl));intro K hK;simp (contextual:=true) only [go_sem,simprocAttr])|with_reducible refine evOps_nil ?_|((with_reducible refine evOpsD_nil ?_ ?_);kernel_rfl)|((with_reducible refine hK _ ?_);clear hK K)|(with_reducible first|refine And.intro ?_ ?_|refine nxt_n ?_|refine nxt_r ?_|refine nxt_e ?_|refine blk_n ?_|refine blk_r ?_|refine blk_same ?_|refine blk_other (by decide) ?_|refine noG_n ?_|refine noG_r ?_|refine noG_e ?_|refine inR_mk ?_ ?_)|(refine fun (hc : (_ : Bool) = _)=>?_;try simp only [hcS] at hc))
    all_goals try exact om_
    · (first|refine ret_auto ?_|refine ret_auto' ?_);simp only [go_sem,simprocAttr,Tryz.f80]
      rw [fndP_none (by rw [← ei];exact hwi)]
theorem cal_l06Alike : Callable Tryz.prog 67:=⟨_,Tryz.func67,rfl,rfl⟩
theorem sp_l06Alike {c : Cat} {x y : Int} (s : IsCat c) : Spec Tryz.prog 67 [catV c,iv x,iv y] [] (bv (dec (c.IsoO x y))) []:=by
  refine spec_of_V (E:=TE) 0 Tryz.func67 rfl (by simp [Tryz.f67]) fun X hn hX=>?_
  have h1:=s.toShape.tol
  have h4:=s.toShape.m40
  have hl:=c.homI_len x y c.fr.length
  have hl : (c.hom x y).length ≤ c.fr.length:=hl
  repeat' (first|(with_reducible first|refine V_seq ?_|refine V_block ?_|refine V_skip ?_|refine V_ret ?_|refine V_exit ?_)|((with_reducible refine V_cond ?_);simp only [go_sem,simprocAttr])|((first|refine V_region (by rw [hn];rfl) ?_|refine V_drawn hmix (by rw [hn];rfl) ?_);intro K hK)|((first|with_reducible refine evOps_n ?_|((with_reducible apply evOps_g);rfl)|with_reducible refine evOpsD_n ?_|((with_reducible apply evOpsD_g);rfl));intro K hK;simp (contextual:=true) only [go_sem,simprocAttr])|with_reducible refine evOps_nil ?_|((with_reducible refine evOpsD_nil ?_ ?_);kernel_rfl)|((with_reducible refine hK _ ?_);clear hK K)|(with_reducible first|refine And.intro ?_ ?_|refine nxt_n ?_|refine nxt_r ?_|refine nxt_e ?_|refine blk_n ?_|refine blk_r ?_|refine blk_same ?_|refine blk_other (by decide) ?_|refine noG_n ?_|refine noG_r ?_|refine noG_e ?_|refine inR_mk ?_ ?_)|((with_reducible refine evCall_at 24 ?_);refine EvCall.rq (a:=(sp_l02Hom ?_ ?_)) (b:=cal_l02Hom) (c:=?_);all_goals try simp only [go_sem,simprocAttr])|(refine fun (hc : (_ : Bool) = _)=>?_;try simp only [hcS] at hc))
  all_goals try exact om_
  refine V_loopK (G:={i : Nat // i ≤ (c.hom x y).length ∧ (∀ j,j < i → ¬ 0 ≤ c.inv ((c.hom x y).getD j 0))}) (fun ⟨i,_⟩=>[(8,iv i),(7,.sl 1)]) [3] (fun ⟨i,_⟩=>[(1,⟨1,.arr (ints (c.hom x y))⟩)]) [1] (fun zz=>(c.hom x y).length - zz.1) ⟨0,Nat.zero_le _,(fun j hj=>absurd hj (Nat.not_lt_zero j))⟩ ?_ ?_
  · exact Imp.au hX
  rintro ⟨i,hii,hwi⟩
  simp only [go_sem,simprocAttr]
  rcases Nat.lt_or_ge i (c.hom x y).length with hlt | hge
  · obtain ⟨g0,g1,g2,g3⟩:=hom_at hlt
    obtain ⟨m,hm⟩ : ∃ m : Nat,(c.hom x y).getD i 0 = m:=⟨((c.hom x y).getD i 0).toNat,by omega⟩
    have hin:=sp_l02Inverse (c:=c) (f:=m) s (by omega)
    rw [← hm] at hin
    repeat' (first|(with_reducible first|refine V_seq ?_|refine V_block ?_|refine V_skip ?_|refine V_ret ?_|refine V_exit ?_)|((with_reducible refine V_cond ?_);simp only [go_sem,simprocAttr])|((first|refine V_region (by rw [hn];rfl) ?_|refine V_drawn hmix (by rw [hn];rfl) ?_);intro K hK)|((first|with_reducible refine evOps_n ?_|((with_reducible apply evOps_g);rfl)|with_reducible refine evOpsD_n ?_|((with_reducible apply evOpsD_g);rfl));intro K hK;simp (contextual:=true) only [go_sem,simprocAttr])|with_reducible refine evOps_nil ?_|((with_reducible refine evOpsD_nil ?_ ?_);kernel_rfl)|((with_reducible refine hK _ ?_);clear hK K)|(with_reducible first|refine And.intro ?_ ?_|refine nxt_n ?_|refine nxt_r ?_|refine nxt_e ?_|refine blk_n ?_|refine blk_r ?_|refine blk_same ?_|refine blk_other (by decide) ?_|refine noG_n ?_|refine noG_r ?_|refine noG_e ?_|refine inR_mk ?_ ?_)|((with_reducible refine evCall_at 80 ?_);refine EvCall.mk (hin) cal_l02Inverse [] [] (by simp [go_sem] <;> (repeat' (first|rfl|constructor))) (by simp [go_sem] <;> (repeat' (first|rfl|constructor))) ?_;all_goals try simp only [go_sem,simprocAttr])|(refine fun (hc : (_ : Bool) = _)=>?_;try simp only [hcS] at hc))
    all_goals try exact om_
    · (first|refine ret_auto ?_|refine ret_auto' ?_);simp only [go_sem,simprocAttr,Tryz.f67]
      rw [show dec (c.IsoO x y) = true from dec_t ⟨_,getD_mem hlt,by assumption⟩]
    · refine ⟨⟨i + 1,by omega,(by exact all_succ hwi (by omega))⟩,by simp only;omega,Imp.ao hX⟩
  · have ei : i = (c.hom x y).length:=by omega
    repeat' (first|(with_reducible first|refine V_seq ?_|refine V_block ?_|refine V_skip ?_|refine V_ret ?_|refine V_exit ?_)|((with_reducible refine V_cond ?_);simp only [go_sem,simprocAttr])|((first|refine V_region (by rw [hn];rfl) ?_|refine V_drawn hmix (by rw [hn];rfl) ?_);intro K hK)|((first|with_reducible refine evOps_n ?_|((with_reducible apply evOps_g);rfl)|with_reducible refine evOpsD_n ?_|((with_reducible apply evOpsD_g);rfl));intro K hK;simp (contextual:=true) only [go_sem,simprocAttr])|with_reducible refine evOps_nil ?_|((with_reducible refine evOpsD_nil ?_ ?_);kernel_rfl)|((with_reducible refine hK _ ?_);clear hK K)|(with_reducible first|refine And.intro ?_ ?_|refine nxt_n ?_|refine nxt_r ?_|refine nxt_e ?_|refine blk_n ?_|refine blk_r ?_|refine blk_same ?_|refine blk_other (by decide) ?_|refine noG_n ?_|refine noG_r ?_|refine noG_e ?_|refine inR_mk ?_ ?_)|(refine fun (hc : (_ : Bool) = _)=>?_;try simp only [hcS] at hc))
    all_goals try exact om_
    · (first|refine ret_auto ?_|refine ret_auto' ?_);simp only [go_sem,simprocAttr,Tryz.f67]
      rw [show dec (c.IsoO x y) = false from dec_f (fun q=>by
        obtain ⟨f,hf,hi⟩:=q
        obtain ⟨j,hj,e⟩:=mem_getD (d:=(0 : Int)) hf
        exact hwi j (by omega) (by rw [e];exact hi))]
theorem isoP_ok {c : Cat} (s : IsCat c) {i : Nat} (hi : i ≤ c.fr.length) : PrsOk c.ob.toNat (isoP c i):=fun k hk=>by
  obtain ⟨f,hf,h0,e⟩:=mem_isoP.1 (getD_mem (d:=[]) hk)
  have:=s.toShape.frw f (by omega)
  have:=s.toShape.tow f (by rw [s.toShape.tol];omega)
  rw [e]
  refine ⟨rfl,⟨?_,?_⟩,?_,?_⟩ <;> simp only [List.getD_cons_zero,List.getD_cons_succ] <;> omega
theorem cal_Category_isoClasses : Callable Tryz.prog 78:=⟨_,Tryz.func78,rfl,rfl⟩
theorem sp_Category_isoClasses {c : Cat} (s : IsCat c) : Spec Tryz.prog 78 [.bptr [] (catD c)] [] (.sl 0) [(0,⟨1,.arr (ints (isoC c))⟩)]:=by
  refine spec_of_V (E:=TE) 0 Tryz.func78 rfl (by simp [Tryz.f78]) fun X hn hX=>?_
  have h0:=s.toShape.ob0
  have h8:=s.toShape.ob8
  have h1:=s.toShape.tol
  have h4:=s.toShape.m40
  have hjof:=sp_joinerOf (n:=c.ob.toNat) (by omega)
  rw [Int.toNat_of_nonneg h0] at hjof
  repeat' (first|(with_reducible first|refine V_seq ?_|refine V_block ?_|refine V_skip ?_|refine V_ret ?_|refine V_exit ?_)|((with_reducible refine V_cond ?_);simp only [go_sem,simprocAttr])|((first|refine V_region (by rw [hn];rfl) ?_|refine V_drawn hmix (by rw [hn];rfl) ?_);intro K hK)|((first|with_reducible refine evOps_n ?_|((with_reducible apply evOps_g);rfl)|with_reducible refine evOpsD_n ?_|((with_reducible apply evOpsD_g);rfl));intro K hK;simp (contextual:=true) only [go_sem,simprocAttr])|with_reducible refine evOps_nil ?_|((with_reducible refine evOpsD_nil ?_ ?_);kernel_rfl)|((with_reducible refine hK _ ?_);clear hK K)|(with_reducible first|refine And.intro ?_ ?_|refine nxt_n ?_|refine nxt_r ?_|refine nxt_e ?_|refine blk_n ?_|refine blk_r ?_|refine blk_same ?_|refine blk_other (by decide) ?_|refine noG_n ?_|refine noG_r ?_|refine noG_e ?_|refine inR_mk ?_ ?_)|((with_reducible refine evCall_at 92 ?_);refine EvCall.mk (hjof) cal_joinerOf [(0,0)] [] (by simp [go_sem] <;> (repeat' (first|rfl|constructor))) (by simp [go_sem] <;> (repeat' (first|rfl|constructor))) ?_;all_goals try simp only [go_sem,simprocAttr])|(refine fun (hc : (_ : Bool) = _)=>?_;try simp only [hcS] at hc))
  all_goals try exact om_
  refine V_loopK (G:={i : Nat // i ≤ c.fr.length ∧ (True)}) (fun ⟨i,_⟩=>[(15,iv i),(3,.sl 0)]) [0,2,14] (fun ⟨i,_⟩=>[(0,⟨1,.arr (ints (jnK c.ob.toNat (isoP c i) (isoP c i).length))⟩)]) [0] (fun zz=>c.fr.length - zz.1) ⟨0,Nat.zero_le _,by first|trivial|simp⟩ ?_ ?_
  · exact Imp.au hX
  rintro ⟨i,hii,hwi⟩
  simp only [go_sem,simprocAttr]
  obtain ⟨u1,u2,_⟩:=jnK_ok (isoP_ok s (show i ≤ c.fr.length by omega)) (isoP c i).length (Nat.le_refl _)
  rcases Nat.lt_or_ge i c.fr.length with hlt | hge
  · have hF:=s.toShape.frw i hlt
    have hT:=s.toShape.tow i (by omega)
    have hjn:=sp_joiner_join (J:=jnK c.ob.toNat (isoP c i) (isoP c i).length) (x:=(c.fr.getD i 0).toNat) (y:=(c.to.getD i 0).toNat) u1 (by omega) (by omega) (by omega)
    rw [Int.toNat_of_nonneg hF.1,Int.toNat_of_nonneg hT.1,← jnK_snoc] at hjn
    have hin:=sp_Category_inverse (c:=c) (f:=i) s hlt
    repeat' (first|(with_reducible first|refine V_seq ?_|refine V_block ?_|refine V_skip ?_|refine V_ret ?_|refine V_exit ?_)|((with_reducible refine V_cond ?_);simp only [go_sem,simprocAttr])|((first|refine V_region (by rw [hn];rfl) ?_|refine V_drawn hmix (by rw [hn];rfl) ?_);intro K hK)|((first|with_reducible refine evOps_n ?_|((with_reducible apply evOps_g);rfl)|with_reducible refine evOpsD_n ?_|((with_reducible apply evOpsD_g);rfl));intro K hK;simp (contextual:=true) only [go_sem,simprocAttr])|with_reducible refine evOps_nil ?_|((with_reducible refine evOpsD_nil ?_ ?_);kernel_rfl)|((with_reducible refine hK _ ?_);clear hK K)|(with_reducible first|refine And.intro ?_ ?_|refine nxt_n ?_|refine nxt_r ?_|refine nxt_e ?_|refine blk_n ?_|refine blk_r ?_|refine blk_same ?_|refine blk_other (by decide) ?_|refine noG_n ?_|refine noG_r ?_|refine noG_e ?_|refine inR_mk ?_ ?_)|((with_reducible refine evCall_at 93 ?_);refine EvCall.mk (hin) cal_Category_inverse [] [] (by simp [go_sem] <;> (repeat' (first|rfl|constructor))) (by simp [go_sem] <;> (repeat' (first|rfl|constructor))) ?_;all_goals try simp only [go_sem,simprocAttr])|((with_reducible refine evCall_at 94 ?_);refine EvCall.mk (hjn) cal_joiner_join [(0,0)] [] (by simp [go_sem] <;> (repeat' (first|rfl|constructor))) (by simp [go_sem] <;> (repeat' (first|rfl|constructor))) ?_;all_goals try simp only [go_sem,simprocAttr])|(refine fun (hc : (_ : Bool) = _)=>?_;try simp only [hcS] at hc))
    all_goals try exact om_
    · have e1:=isoP_yes (c:=c) (i:=i) (by assumption)
      refine ⟨⟨i + 1,by omega,(by trivial)⟩,by simp only;omega,Imp.auto hX (by simp only [go_sem,simprocAttr,e1])⟩
    · have e1:=isoP_no (c:=c) (i:=i) (by omega)
      refine ⟨⟨i + 1,by omega,(by trivial)⟩,by simp only;omega,Imp.auto hX (by simp only [go_sem,simprocAttr,e1])⟩
  · have ei : i = c.fr.length:=by omega
    subst ei
    have hpt:=sp_joiner_partition (J:=jnK c.ob.toNat (isoP c c.fr.length) (isoP c c.fr.length).length) u1 (by omega)
    rw [u2] at hpt
    have hce : (clsI (rtL (jnK c.ob.toNat (isoP c c.fr.length) (isoP c c.fr.length).length) c.ob.toNat) c.ob.toNat).1 = isoC c:=cls_eq (isoP_ok s (Nat.le_refl _))
    rw [hce] at hpt
    repeat' (first|(with_reducible first|refine V_seq ?_|refine V_block ?_|refine V_skip ?_|refine V_ret ?_|refine V_exit ?_)|((with_reducible refine V_cond ?_);simp only [go_sem,simprocAttr])|((first|refine V_region (by rw [hn];rfl) ?_|refine V_drawn hmix (by rw [hn];rfl) ?_);intro K hK)|((first|with_reducible refine evOps_n ?_|((with_reducible apply evOps_g);rfl)|with_reducible refine evOpsD_n ?_|((with_reducible apply evOpsD_g);rfl));intro K hK;simp (contextual:=true) only [go_sem,simprocAttr])|with_reducible refine evOps_nil ?_|((with_reducible refine evOpsD_nil ?_ ?_);kernel_rfl)|((with_reducible refine hK _ ?_);clear hK K)|(with_reducible first|refine And.intro ?_ ?_|refine nxt_n ?_|refine nxt_r ?_|refine nxt_e ?_|refine blk_n ?_|refine blk_r ?_|refine blk_same ?_|refine blk_other (by decide) ?_|refine noG_n ?_|refine noG_r ?_|refine noG_e ?_|refine inR_mk ?_ ?_)|((with_reducible refine evCall_at 95 ?_);refine EvCall.mk (hpt) cal_joiner_partition [(0,0),(1,1)] [] (by simp [go_sem] <;> (repeat' (first|rfl|constructor))) (by simp [go_sem] <;> (repeat' (first|rfl|constructor))) ?_;all_goals try simp only [go_sem,simprocAttr])|(refine fun (hc : (_ : Bool) = _)=>?_;try simp only [hcS] at hc))
    all_goals try exact om_
    · (first|refine ret_auto ?_|refine ret_auto' ?_);simp only [go_sem,simprocAttr,Tryz.f78]
theorem cal_l11Classes : Callable Tryz.prog 56:=⟨_,Tryz.func56,rfl,rfl⟩
theorem sp_l11Classes {c : Cat} (s : IsCat c) : Spec Tryz.prog 56 [catV c] [] (.sl 0) [(0,⟨1,.arr (ints (isoC c))⟩)]:=by
  refine spec_of_V (E:=TE) 0 Tryz.func56 rfl (by simp [Tryz.f56]) fun X hn hX=>?_
  have h0:=s.toShape.ob0
  have h8:=s.toShape.ob8
  obtain ⟨n,hn0⟩ : ∃ n : Nat,c.ob = n:=⟨c.ob.toNat,by omega⟩
  have hg:=(alkP_gen s).ok
  have hia:=isoC_alk s
  have hpl:=alkP_len c c.ob.toNat
  rw [hn0,Int.toNat_natCast] at hg hia hpl
  have hp2 : n * n ≤ 64:=Nat.mul_le_mul (show n ≤ 8 by omega) (show n ≤ 8 by omega)
  have hjo:=sp_l01Join (n:=n) (ps:=alkP c n) (by omega) (by omega) hg
  rw [hia] at hjo
  rw [← hn0] at hjo
  repeat' (first|(with_reducible first|refine V_seq ?_|refine V_block ?_|refine V_skip ?_|refine V_ret ?_|refine V_exit ?_)|((with_reducible refine V_cond ?_);simp only [go_sem,simprocAttr])|((refine V_region (by rw [hn];rfl) ?_);intro K hK)|((first|with_reducible refine evOps_n ?_|((with_reducible apply evOps_g);rfl));intro K hK;simp (contextual:=true) only [go_sem,simprocAttr])|with_reducible refine evOps_nil ?_|((with_reducible refine hK _ ?_);clear hK K)|(with_reducible first|refine And.intro ?_ ?_|refine nxt_n ?_|refine nxt_r ?_|refine nxt_e ?_|refine blk_n ?_|refine blk_r ?_|refine blk_same ?_|refine blk_other (by decide) ?_|refine noG_n ?_|refine noG_r ?_|refine noG_e ?_|refine inR_mk ?_ ?_)|(refine fun (hc : (_ : Bool) = _)=>?_;try simp only [hcS] at hc))
  all_goals try exact om_
  refine V_loopK (G:={x : Nat // x ≤ n ∧ (True)}) (fun ⟨x,_⟩=>[(4,iv x),(3,.sl 1)]) [1,2] (fun ⟨x,_⟩=>[(1,⟨1,.arr (intss (alkP c x))⟩)]) [1] (fun zz=>n - zz.1) ⟨0,Nat.zero_le _,by first|trivial|simp⟩ ?_ ?_
  · exact Imp.au hX
  rintro ⟨x,hix,hwx⟩
  simp only [go_sem,simprocAttr]
  have hpx:=alkP_len c x
  have hp3 : x * x ≤ 64:=Nat.mul_le_mul (show x ≤ 8 by omega) (show x ≤ 8 by omega)
  rcases Nat.lt_or_ge x n with hlt | hge
  · have e1:=alkP_succ c x
    repeat' (first|(with_reducible first|refine V_seq ?_|refine V_block ?_|refine V_skip ?_|refine V_ret ?_|refine V_exit ?_)|((with_reducible refine V_cond ?_);simp only [go_sem,simprocAttr])|((refine V_region (by rw [hn];rfl) ?_);intro K hK)|((first|with_reducible refine evOps_n ?_|((with_reducible apply evOps_g);rfl));intro K hK;simp (contextual:=true) only [go_sem,simprocAttr])|with_reducible refine evOps_nil ?_|((with_reducible refine hK _ ?_);clear hK K)|(with_reducible first|refine And.intro ?_ ?_|refine nxt_n ?_|refine nxt_r ?_|refine nxt_e ?_|refine blk_n ?_|refine blk_r ?_|refine blk_same ?_|refine blk_other (by decide) ?_|refine noG_n ?_|refine noG_r ?_|refine noG_e ?_|refine inR_mk ?_ ?_)|(refine fun (hc : (_ : Bool) = _)=>?_;try simp only [hcS] at hc))
    all_goals try exact om_
    refine V_loopK (G:={y : Nat // y ≤ x ∧ (True)}) (fun ⟨y,_⟩=>[(5,iv y),(3,.sl 1)]) [1,2,4] (fun ⟨y,_⟩=>[(1,⟨1,.arr (intss (alkP c x ++ alkR c x y))⟩)]) [1] (fun zz=>x - zz.1) ⟨0,Nat.zero_le _,by first|trivial|simp⟩ ?_ ?_
    · exact Imp.au hX
    rintro ⟨y,hiy,hwy⟩
    simp only [go_sem,simprocAttr]
    have hry:=alkR_len c x y
    have hil : (alkP c x ++ alkR c x y).length ≤ 100:=by rw [List.length_append];omega
    rcases Nat.lt_or_ge y x with hlt2 | hge2
    · have hal:=sp_l06Alike (c:=c) (x:=x) (y:=y) s
      repeat' (first|(with_reducible first|refine V_seq ?_|refine V_block ?_|refine V_skip ?_|refine V_ret ?_|refine V_exit ?_)|((with_reducible refine V_cond ?_);simp only [go_sem,simprocAttr])|((refine V_region (by rw [hn];rfl) ?_);intro K hK)|((first|with_reducible refine evOps_n ?_|((with_reducible apply evOps_g);rfl));intro K hK;simp (contextual:=true) only [go_sem,simprocAttr])|with_reducible refine evOps_nil ?_|((with_reducible refine hK _ ?_);clear hK K)|(with_reducible first|refine And.intro ?_ ?_|refine nxt_n ?_|refine nxt_r ?_|refine nxt_e ?_|refine blk_n ?_|refine blk_r ?_|refine blk_same ?_|refine blk_other (by decide) ?_|refine noG_n ?_|refine noG_r ?_|refine noG_e ?_|refine inR_mk ?_ ?_)|((with_reducible refine evCall_at 67 ?_);refine EvCall.mk (hal) cal_l06Alike [] [] (by simp [go_sem] <;> (repeat' (first|rfl|constructor))) (by simp [go_sem] <;> (repeat' (first|rfl|constructor))) ?_;all_goals try simp only [go_sem,simprocAttr])|(refine fun (hc : (_ : Bool) = _)=>?_;try simp only [hcS] at hc))
      all_goals try exact om_
      · have e2:=alkR_yes (c:=c) (x:=x) (y:=y) (by assumption)
        have e3 : alkP c x ++ alkR c x (y + 1) = (alkP c x ++ alkR c x y) ++ [[(y : Int),(x : Int)]]:=by rw [e2,List.append_assoc]
        refine ⟨⟨y + 1,by omega,(by trivial)⟩,by simp only;omega,Imp.auto hX (by simp only [go_sem,simprocAttr,e3])⟩
      · have e2:=alkR_no (c:=c) (x:=x) (y:=y) (by assumption)
        refine ⟨⟨y + 1,by omega,(by trivial)⟩,by simp only;omega,Imp.auto hX (by simp only [go_sem,simprocAttr,e2])⟩
    · have ey : x = y:=by omega
      subst ey
      repeat' (first|(with_reducible first|refine V_seq ?_|refine V_block ?_|refine V_skip ?_|refine V_ret ?_|refine V_exit ?_)|((with_reducible refine V_cond ?_);simp only [go_sem,simprocAttr])|((refine V_region (by rw [hn];rfl) ?_);intro K hK)|((first|with_reducible refine evOps_n ?_|((with_reducible apply evOps_g);rfl));intro K hK;simp (contextual:=true) only [go_sem,simprocAttr])|with_reducible refine evOps_nil ?_|((with_reducible refine hK _ ?_);clear hK K)|(with_reducible first|refine And.intro ?_ ?_|refine nxt_n ?_|refine nxt_r ?_|refine nxt_e ?_|refine blk_n ?_|refine blk_r ?_|refine blk_same ?_|refine blk_other (by decide) ?_|refine noG_n ?_|refine noG_r ?_|refine noG_e ?_|refine inR_mk ?_ ?_)|(refine fun (hc : (_ : Bool) = _)=>?_;try simp only [hcS] at hc))
      all_goals try exact om_
      · refine ⟨⟨x + 1,by omega,(by (trivial))⟩,by simp only;omega,Imp.auto hX (by simp only [go_sem,simprocAttr,e1])⟩
  · have ex : x = n:=by omega
    subst ex
    repeat' (first|(with_reducible first|refine V_seq ?_|refine V_block ?_|refine V_skip ?_|refine V_ret ?_|refine V_exit ?_)|((with_reducible refine V_cond ?_);simp only [go_sem,simprocAttr])|((refine V_region (by rw [hn];rfl) ?_);intro K hK)|((first|with_reducible refine evOps_n ?_|((with_reducible apply evOps_g);rfl));intro K hK;simp (contextual:=true) only [go_sem,simprocAttr])|with_reducible refine evOps_nil ?_|((with_reducible refine hK _ ?_);clear hK K)|(with_reducible first|refine And.intro ?_ ?_|refine nxt_n ?_|refine nxt_r ?_|refine nxt_e ?_|refine blk_n ?_|refine blk_r ?_|refine blk_same ?_|refine blk_other (by decide) ?_|refine noG_n ?_|refine noG_r ?_|refine noG_e ?_|refine inR_mk ?_ ?_)|((with_reducible refine evCall_at 68 ?_);refine EvCall.mk (hjo) cal_l01Join [(0,2)] [1] (by simp [go_sem] <;> (repeat' (first|rfl|constructor))) (by simp [go_sem] <;> (repeat' (first|rfl|constructor))) ?_;all_goals try simp only [go_sem,simprocAttr])|(refine fun (hc : (_ : Bool) = _)=>?_;try simp only [hcS] at hc))
    all_goals try exact om_
    · (first|refine ret_auto ?_|refine ret_auto' ?_);simp only [go_sem,simprocAttr,Tryz.f56]
theorem cal_partition_leaders : Callable Tryz.prog 79:=⟨_,Tryz.func79,rfl,rfl⟩
theorem sp_partition_leaders {l : List Int} {n : Nat} (hn1 : n ≤ 1048576) : Spec Tryz.prog 79 [.bor [] (ints (clsI l n).1)] [] (.sl 0) [(0,⟨1,.arr (ints (selP (Fst (clsI l n).1) n))⟩)]:=by
  refine spec_of_V (E:=TE) 0 Tryz.func79 rfl (by simp [Tryz.f79]) fun X hn hX=>?_
  have hl:=(clsI_facts l n).1
  repeat' (first|(with_reducible first|refine V_seq ?_|refine V_block ?_|refine V_skip ?_|refine V_ret ?_|refine V_exit ?_)|((with_reducible refine V_cond ?_);simp only [go_sem,simprocAttr])|((refine V_region (by rw [hn];rfl) ?_);intro K hK)|((first|with_reducible refine evOps_n ?_|((with_reducible apply evOps_g);rfl));intro K hK;simp (contextual:=true) only [go_sem,simprocAttr])|with_reducible refine evOps_nil ?_|((with_reducible refine hK _ ?_);clear hK K)|(with_reducible first|refine And.intro ?_ ?_|refine nxt_n ?_|refine nxt_r ?_|refine nxt_e ?_|refine blk_n ?_|refine blk_r ?_|refine blk_same ?_|refine blk_other (by decide) ?_|refine noG_n ?_|refine noG_r ?_|refine noG_e ?_|refine inR_mk ?_ ?_)|(refine fun (hc : (_ : Bool) = _)=>?_;try simp only [hcS] at hc))
  all_goals try exact om_
  refine V_loopK (G:={i : Nat // i ≤ n ∧ (True)}) (fun ⟨i,_⟩=>[(9,iv i),(3,.sl 0)]) [2,7,8] (fun ⟨i,_⟩=>[(0,⟨1,.arr (ints (selP (Fst (clsI l n).1) i))⟩)]) [0] (fun zz=>n - zz.1) ⟨0,Nat.zero_le _,by first|trivial|simp⟩ ?_ ?_
  · exact Imp.au hX
  rintro ⟨i,hii,hwi⟩
  simp only [go_sem,simprocAttr]
  have hsl:=selP_len (Fst (clsI l n).1) i
  rcases Nat.lt_or_ge i n with hlt | hge
  · have hld:=cls_lead l hlt
    repeat' (first|(with_reducible first|refine V_seq ?_|refine V_block ?_|refine V_skip ?_|refine V_ret ?_|refine V_exit ?_)|((with_reducible refine V_cond ?_);simp only [go_sem,simprocAttr])|((refine V_region (by rw [hn];rfl) ?_);intro K hK)|((first|with_reducible refine evOps_n ?_|((with_reducible apply evOps_g);rfl));intro K hK;simp (contextual:=true) only [go_sem,simprocAttr])|with_reducible refine evOps_nil ?_|((with_reducible refine hK _ ?_);clear hK K)|(with_reducible first|refine And.intro ?_ ?_|refine nxt_n ?_|refine nxt_r ?_|refine nxt_e ?_|refine blk_n ?_|refine blk_r ?_|refine blk_same ?_|refine blk_other (by decide) ?_|refine noG_n ?_|refine noG_r ?_|refine noG_e ?_|refine inR_mk ?_ ?_)|(refine fun (hc : (_ : Bool) = _)=>?_;try simp only [hcS] at hc))
    all_goals try exact om_
    · have e1:=selP_yes (hld.1 (by assumption))
      refine ⟨⟨i + 1,by omega,(by trivial)⟩,by simp only;omega,Imp.auto hX (by simp only [go_sem,simprocAttr,e1])⟩
    · have e1:=selP_no fun q=>absurd (hld.2 q) (by assumption)
      refine ⟨⟨i + 1,by omega,(by trivial)⟩,by simp only;omega,Imp.auto hX (by simp only [go_sem,simprocAttr,e1])⟩
  · have ei : i = n:=by omega
    subst ei
    repeat' (first|(with_reducible first|refine V_seq ?_|refine V_block ?_|refine V_skip ?_|refine V_ret ?_|refine V_exit ?_)|((with_reducible refine V_cond ?_);simp only [go_sem,simprocAttr])|((refine V_region (by rw [hn];rfl) ?_);intro K hK)|((first|with_reducible refine evOps_n ?_|((with_reducible apply evOps_g);rfl));intro K hK;simp (contextual:=true) only [go_sem,simprocAttr])|with_reducible refine evOps_nil ?_|((with_reducible refine hK _ ?_);clear hK K)|(with_reducible first|refine And.intro ?_ ?_|refine nxt_n ?_|refine nxt_r ?_|refine nxt_e ?_|refine blk_n ?_|refine blk_r ?_|refine blk_same ?_|refine blk_other (by decide) ?_|refine noG_n ?_|refine noG_r ?_|refine noG_e ?_|refine inR_mk ?_ ?_)|(refine fun (hc : (_ : Bool) = _)=>?_;try simp only [hcS] at hc))
    all_goals try exact om_
    · (first|refine ret_auto ?_|refine ret_auto' ?_);simp only [go_sem,simprocAttr,Tryz.f79]
theorem cal_l11Skeleton : Callable Tryz.prog 43:=⟨_,Tryz.func43,rfl,rfl⟩
theorem sp_l11Skeleton {c : Cat} (s : IsCat c) : Spec Tryz.prog 43 [catV c] [] (.sl 0) [(0,⟨1,.arr (ints (skO c c.ob.toNat))⟩)]:=by
  refine spec_of_V (E:=TE) 0 Tryz.func43 rfl (by simp [Tryz.f43]) fun X hn hX=>?_
  have h0:=s.toShape.ob0
  have h8:=s.toShape.ob8
  obtain ⟨n,hn0⟩ : ∃ n : Nat,c.ob = n:=⟨c.ob.toNat,by omega⟩
  have hl:=isoC_len c
  rw [hn0,Int.toNat_natCast] at hl ⊢
  have hcl:=sp_l11Classes s
  repeat' (first|(with_reducible first|refine V_seq ?_|refine V_block ?_|refine V_skip ?_|refine V_ret ?_|refine V_exit ?_)|((with_reducible refine V_cond ?_);simp only [go_sem,simprocAttr])|((refine V_region (by rw [hn];rfl) ?_);intro K hK)|((first|with_reducible refine evOps_n ?_|((with_reducible apply evOps_g);rfl));intro K hK;simp (contextual:=true) only [go_sem,simprocAttr])|with_reducible refine evOps_nil ?_|((with_reducible refine hK _ ?_);clear hK K)|(with_reducible first|refine And.intro ?_ ?_|refine nxt_n ?_|refine nxt_r ?_|refine nxt_e ?_|refine blk_n ?_|refine blk_r ?_|refine blk_same ?_|refine blk_other (by decide) ?_|refine noG_n ?_|refine noG_r ?_|refine noG_e ?_|refine inR_mk ?_ ?_)|((with_reducible refine evCall_at 56 ?_);refine EvCall.mk (hcl) cal_l11Classes [(0,1)] [] (by simp [go_sem] <;> (repeat' (first|rfl|constructor))) (by simp [go_sem] <;> (repeat' (first|rfl|constructor))) ?_;all_goals try simp only [go_sem,simprocAttr])|(refine fun (hc : (_ : Bool) = _)=>?_;try simp only [hcS] at hc))
  all_goals try exact om_
  refine V_loopK (G:={x : Nat // x ≤ n ∧ (True)}) (fun ⟨x,_⟩=>[(5,iv x),(3,.sl 1),(4,.sl 2)]) [1,2] (fun ⟨x,_⟩=>[(1,⟨1,.arr (ints (isoC c))⟩),(2,⟨1,.arr (ints (skO c x))⟩)]) [1,2] (fun zz=>n - zz.1) ⟨0,Nat.zero_le _,by first|trivial|simp⟩ ?_ ?_
  · exact Imp.au hX
  rintro ⟨x,hix,hwx⟩
  simp only [go_sem,simprocAttr]
  have hsl:=selP_len (Fst (isoC c)) x
  have hsl : (skO c x).length ≤ x:=hsl
  rcases Nat.lt_or_ge x n with hlt | hge
  · have hfi:=fst_idx (L:=isoC c) (x:=x) (by omega)
    repeat' (first|(with_reducible first|refine V_seq ?_|refine V_block ?_|refine V_skip ?_|refine V_ret ?_|refine V_exit ?_)|((with_reducible refine V_cond ?_);simp only [go_sem,simprocAttr])|((refine V_region (by rw [hn];rfl) ?_);intro K hK)|((first|with_reducible refine evOps_n ?_|((with_reducible apply evOps_g);rfl));intro K hK;simp (contextual:=true) only [go_sem,simprocAttr])|with_reducible refine evOps_nil ?_|((with_reducible refine hK _ ?_);clear hK K)|(with_reducible first|refine And.intro ?_ ?_|refine nxt_n ?_|refine nxt_r ?_|refine nxt_e ?_|refine blk_n ?_|refine blk_r ?_|refine blk_same ?_|refine blk_other (by decide) ?_|refine noG_n ?_|refine noG_r ?_|refine noG_e ?_|refine inR_mk ?_ ?_)|((with_reducible refine evCall_at 55 ?_);refine EvCall.rq (a:=(sp_l01Index ?_)) (b:=cal_l01Index) (c:=?_);all_goals try simp only [go_sem,simprocAttr])|(refine fun (hc : (_ : Bool) = _)=>?_;try simp only [hcS] at hc))
    all_goals try exact om_
    · have e1 : skO c (x + 1) = skO c x ++ [(x : Int)]:=selP_yes (hfi.1 (by assumption))
      refine ⟨⟨x + 1,by omega,(by trivial)⟩,by simp only;omega,Imp.auto hX (by simp only [go_sem,simprocAttr,e1])⟩
    · have e1 : skO c (x + 1) = skO c x:=selP_no fun q=>absurd (hfi.2 q) (by assumption)
      refine ⟨⟨x + 1,by omega,(by trivial)⟩,by simp only;omega,Imp.auto hX (by simp only [go_sem,simprocAttr,e1])⟩
  · have ex : x = n:=by omega
    subst ex
    repeat' (first|(with_reducible first|refine V_seq ?_|refine V_block ?_|refine V_skip ?_|refine V_ret ?_|refine V_exit ?_)|((with_reducible refine V_cond ?_);simp only [go_sem,simprocAttr])|((refine V_region (by rw [hn];rfl) ?_);intro K hK)|((first|with_reducible refine evOps_n ?_|((with_reducible apply evOps_g);rfl));intro K hK;simp (contextual:=true) only [go_sem,simprocAttr])|with_reducible refine evOps_nil ?_|((with_reducible refine hK _ ?_);clear hK K)|(with_reducible first|refine And.intro ?_ ?_|refine nxt_n ?_|refine nxt_r ?_|refine nxt_e ?_|refine blk_n ?_|refine blk_r ?_|refine blk_same ?_|refine blk_other (by decide) ?_|refine noG_n ?_|refine noG_r ?_|refine noG_e ?_|refine inR_mk ?_ ?_)|(refine fun (hc : (_ : Bool) = _)=>?_;try simp only [hcS] at hc))
    all_goals try exact om_
    · (first|refine ret_auto ?_|refine ret_auto' ?_);simp only [go_sem,simprocAttr,Tryz.f43]
end Go.Eng
