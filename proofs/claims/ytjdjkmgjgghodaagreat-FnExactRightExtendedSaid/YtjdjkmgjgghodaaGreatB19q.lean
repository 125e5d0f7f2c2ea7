/- Set functors along functors, and counits of right extensions, by the program. -/
import Derived.Test.YtjdjkmgjgghodaaGreatKmx
import Derived.Test.YtjdjkmgjgghodaaGreatKdx
import Derived.Test.YtjdjkmgjgghodaaGreatB16q
import Derived.Test.YtjdjkmgjgghodaaGreatH03q
set_option linter.unusedSimpArgs false
set_option linter.unusedVariables false
set_option maxRecDepth 100000
set_option maxHeartbeats 16000000
namespace Go.Eng
open Go Go.Proofs Go.Cats
attribute [local go_sem] alSz_zero alAc_zero cuR_zero one_nilSl5 List.getD_cons_zero List.getD_cons_succ List.set_cons_zero List.set_cons_succ goneL
theorem cal_then : Callable Tryz.prog 68:=⟨_,Tryz.func68,rfl,rfl⟩
theorem sp_then {f g : List Int} (hf : f.length ≤ 1048576) (hg : g.length ≤ 1048576) (hw : Within f g.length) : Spec Tryz.prog 68 [.bor [] (ints f),.bor [] (ints g)] [] (.sl 0) [(0,⟨1,.arr (ints (f.map fun y=>g.getD y.toNat 0))⟩)]:=by
  refine spec_of_V (E:=TE) 0 Tryz.func68 rfl (by simp [Tryz.f68]) fun X hn hX=>?_
  obtain ⟨p,hp⟩ : ∃ p,f.map (fun y=>g.getD y.toNat 0) = p:=⟨_,rfl⟩
  have hpl : p.length = f.length:=by rw [← hp]; simp
  have hpa : ∀ i,i < f.length → p.getD i 0 = g.getD (f.getD i 0).toNat 0:=fun i hi=>by
    rw [← hp,List.getD_eq_getElem?_getD,List.getElem?_map,List.getElem?_eq_getElem hi,List.getD_eq_getElem?_getD (l:=f),List.getElem?_eq_getElem hi]; rfl
  rw [hp]
  repeat' (first | (with_reducible first | refine V_seq ?_ | refine V_block ?_ | refine V_skip ?_ | refine V_ret ?_ | refine V_exit ?_) | ((with_reducible refine V_cond ?_); simp only [go_sem,simprocAttr]) | ((refine V_region (by rw [hn]; rfl) ?_); intro K hK) | ((first | with_reducible refine evOps_n ?_ | ((with_reducible apply evOps_g); rfl)); intro K hK; simp (contextual:=true) only [go_sem,simprocAttr]) | with_reducible refine evOps_nil ?_ | ((with_reducible refine hK _ ?_); clear hK K) | (with_reducible first | refine And.intro ?_ ?_ | refine nxt_n ?_ | refine nxt_r ?_ | refine nxt_e ?_ | refine blk_n ?_ | refine blk_r ?_ | refine blk_same ?_ | refine blk_other (by decide) ?_ | refine noG_n ?_ | refine noG_r ?_ | refine noG_e ?_ | refine inR_mk ?_ ?_) | (refine fun (hc : (_ : Bool) = _)=>?_; try simp only [hcS] at hc))
  all_goals try (first | (with_reducible assumption) | ((try simp only [Cat.F,Cat.T,Cat.I,Cat.C,Fun.O,Fun.A,Cat.Entry,Int.toNat_natCast] at *); omega))
  refine V_loopK (G:={i : Nat // i ≤ f.length ∧ (True)}) (fun ⟨i,_⟩=>[(13,iv i),(5,.sl 0)]) [1,4,11,12] (fun ⟨i,_⟩=>[(0,⟨1,.arr (ints (p.take i ++ List.replicate (f.length - i) 0))⟩)]) [0] (fun zz=>f.length - zz.1) ⟨0,Nat.zero_le _,by first | trivial | simp⟩ ?_ ?_
  · exact Imp.auto hX (by simp [go_sem,simprocAttr])
  rintro ⟨i,hii,hwi⟩
  simp only [go_sem,simprocAttr]
  have h1:=hw i
  have h2:=hpa i
  have h3:=fill_step p i
  rw [hpl] at h3
  repeat' (first | (with_reducible first | refine V_seq ?_ | refine V_block ?_ | refine V_skip ?_ | refine V_ret ?_ | refine V_exit ?_) | ((with_reducible refine V_cond ?_); simp only [go_sem,simprocAttr]) | ((refine V_region (by rw [hn]; rfl) ?_); intro K hK) | ((first | with_reducible refine evOps_n ?_ | ((with_reducible apply evOps_g); rfl)); intro K hK; simp (contextual:=true) only [go_sem,simprocAttr]) | with_reducible refine evOps_nil ?_ | ((with_reducible refine hK _ ?_); clear hK K) | (with_reducible first | refine And.intro ?_ ?_ | refine nxt_n ?_ | refine nxt_r ?_ | refine nxt_e ?_ | refine blk_n ?_ | refine blk_r ?_ | refine blk_same ?_ | refine blk_other (by decide) ?_ | refine noG_n ?_ | refine noG_r ?_ | refine noG_e ?_ | refine inR_mk ?_ ?_) | (refine fun (hc : (_ : Bool) = _)=>?_; try simp only [hcS] at hc))
  all_goals try (first | (with_reducible assumption) | ((try simp only [Cat.F,Cat.T,Cat.I,Cat.C,Fun.O,Fun.A,Cat.Entry,Int.toNat_natCast] at *); omega))
  · refine ⟨⟨i + 1,by omega,(by trivial)⟩,by simp only; omega,Imp.auto hX (by simp only [go_sem,simprocAttr,← h2 (by omega),h3 (show i < f.length by omega)])⟩
  · (first | refine ret_auto ?_ | refine ret_auto' ?_); simp only [go_sem,simprocAttr,Tryz.f68]
    rw [show i = f.length by omega]; simp [← hpl]
theorem cal_along : Callable Tryz.prog 39:=⟨_,Tryz.func39,rfl,rfl⟩
theorem sp_along {k : Fun} {g : SF} (hkb : FunB k) (hgb : SFB g) (ho : Within k.obs g.sizes.length) (ha : Within k.ars g.acts.length) : Spec Tryz.prog 39 [.bptr [] (funD k),.bptr [] (sfD g)] [] (.agg [iv k.src.ob,.sl 0,.sl 1,.sl 2,.sl 3,.sl 4,.sl 5]) [(0,⟨1,.arr (ints k.src.fr)⟩),(1,⟨1,.arr (ints k.src.to)⟩),(2,⟨1,.arr (ints k.src.id)⟩),(3,⟨1,.arr (intss k.src.co)⟩),(4,⟨1,.arr (ints (alF k g).sizes)⟩),(5,⟨1,.arr (intss (alF k g).acts)⟩)]:=by
  refine spec_of_V (E:=TE) 0 Tryz.func39 rfl (by simp [Tryz.f39]) fun X hn hX=>?_
  obtain ⟨b1,b2,b3,b4⟩:=hkb
  obtain ⟨c1,c2,c3,c4⟩:=hgb
  have hZ : (alF k g).sizes = k.obs.map fun y=>g.sizes.getD y.toNat 0:=by show alSz k g k.obs.length = _; unfold alSz; rw [List.take_length]
  have hC : (alF k g).acts = alAc k g k.ars.length:=rfl
  rw [hZ,hC]
  repeat' (first | (with_reducible first | refine V_seq ?_ | refine V_block ?_ | refine V_skip ?_ | refine V_ret ?_ | refine V_exit ?_) | ((with_reducible refine V_cond ?_); simp only [go_sem,simprocAttr]) | ((first | refine V_region (by rw [hn]; rfl) ?_ | refine V_drawn hmix (by rw [hn]; rfl) ?_); intro K hK) | ((first | with_reducible refine evOps_n ?_ | ((with_reducible apply evOps_g); rfl) | with_reducible refine evOpsD_n ?_ | ((with_reducible apply evOpsD_g); rfl)); intro K hK; simp (contextual:=true) only [go_sem,simprocAttr]) | with_reducible refine evOps_nil ?_ | ((with_reducible refine evOpsD_nil ?_ ?_); kernel_rfl) | ((with_reducible refine hK _ ?_); clear hK K) | (with_reducible first | refine And.intro ?_ ?_ | refine nxt_n ?_ | refine nxt_r ?_ | refine nxt_e ?_ | refine blk_n ?_ | refine blk_r ?_ | refine blk_same ?_ | refine blk_other (by decide) ?_ | refine noG_n ?_ | refine noG_r ?_ | refine noG_e ?_ | refine inR_mk ?_ ?_) | ((with_reducible refine evCall_at 65 ?_); refine EvCall.rq (a:=(sp_Category_copy (c:=k.src) ?_)) (b:=cal_Category_copy) (c:=?_); all_goals try simp only [go_sem,simprocAttr]) | ((with_reducible refine evCall_at 68 ?_); refine EvCall.rq (a:=(sp_then (f:=k.obs) (g:=g.sizes) ?_ ?_ ?_)) (b:=cal_then) (c:=?_); all_goals try simp only [go_sem,simprocAttr]) | (refine fun (hc : (_ : Bool) = _)=>?_; try simp only [hcS] at hc))
  all_goals try (first | (with_reducible assumption) | ((try simp only [Cat.F,Cat.T,Cat.I,Cat.C,Fun.O,Fun.A,Cat.Entry,Int.toNat_natCast] at *); omega))
  refine V_imp (Imp.adoptBs 6 6 _ _ rfl rfl rfl (by rw [hX]; rfl)) ?_
  simp only [List.set_cons_zero,List.set_cons_succ]
  refine V_loopK (G:={b : Nat // b ≤ k.ars.length ∧ (True)}) (fun ⟨b,_⟩=>[(27,iv b),(4,.ptr 0 0),(5,.ptr 6 0)]) [1,25,26] (fun ⟨b,_⟩=>[(6,⟨1,.box [iv k.src.ob,.sl 1,.sl 2,.sl 3,.sl 4,.sl 5,.sl 7]⟩),(7,⟨1,.arr (intss (alAc k g b))⟩)]) [6,7] (fun zz=>k.ars.length - zz.1) ⟨0,Nat.zero_le _,by first | trivial | simp⟩ ?_ ?_
  · exact Imp.auto hX (by simp [go_sem,simprocAttr])
  rintro ⟨b,hib,hwb⟩
  simp only [go_sem,simprocAttr]
  have h1:=ha b
  have h2:=c4 (k.ars.getD b 0).toNat
  have h3:=alAc_succ (k:=k) (g:=g) (n:=b)
  have h4:=alAc_len (k:=k) (g:=g) (n:=b)
  repeat' (first | (with_reducible first | refine V_seq ?_ | refine V_block ?_ | refine V_skip ?_ | refine V_ret ?_ | refine V_exit ?_) | ((with_reducible refine V_cond ?_); simp only [go_sem,simprocAttr]) | ((first | refine V_region (by rw [hn]; rfl) ?_ | refine V_drawn hmix (by rw [hn]; rfl) ?_); intro K hK) | ((first | with_reducible refine evOps_n ?_ | ((with_reducible apply evOps_g); rfl) | with_reducible refine evOpsD_n ?_ | ((with_reducible apply evOpsD_g); rfl)); intro K hK; simp (contextual:=true) only [go_sem,simprocAttr]) | with_reducible refine evOps_nil ?_ | ((with_reducible refine evOpsD_nil ?_ ?_); kernel_rfl) | ((with_reducible refine hK _ ?_); clear hK K) | (with_reducible first | refine And.intro ?_ ?_ | refine nxt_n ?_ | refine nxt_r ?_ | refine nxt_e ?_ | refine blk_n ?_ | refine blk_r ?_ | refine blk_same ?_ | refine blk_other (by decide) ?_ | refine noG_n ?_ | refine noG_r ?_ | refine noG_e ?_ | refine inR_mk ?_ ?_) | ((with_reducible refine evCall_at 69 ?_); refine EvCall.rq (a:=(sp_clone ?_)) (b:=cal_clone) (c:=?_); all_goals try simp only [go_sem,simprocAttr]) | (refine fun (hc : (_ : Bool) = _)=>?_; try simp only [hcS] at hc))
  all_goals try (first | (with_reducible assumption) | ((try simp only [Cat.F,Cat.T,Cat.I,Cat.C,Fun.O,Fun.A,Cat.Entry,Int.toNat_natCast] at *); omega))
  · refine ⟨⟨b + 1,by omega,(by trivial)⟩,by simp only; omega,Imp.auto hX (by simp only [go_sem,simprocAttr,h3 (show b < k.ars.length by omega)])⟩
  · (first | refine ret_auto ?_ | refine ret_auto' ?_); simp only [go_sem,simprocAttr,Tryz.f39]
    rw [show b = k.ars.length by omega]
end Go.Eng
