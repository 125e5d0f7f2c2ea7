/- Several texts in one: R33, R34. -/
import Derived.Test.YtmpopmololpaoaaGreatKajx
import Derived.Test.YtmpopmololpaoaaGreatN37q
set_option linter.unusedSimpArgs false
set_option linter.unusedVariables false
set_option maxRecDepth 100000
set_option maxHeartbeats 16000000
section
namespace Go.Eng
open Go Go.Proofs Go.Cats
def UnB (a b d : Cat) (g : Fun) : Prop:=(IsCat a ∧ IsCat b ∧ IsCat d) ∧ IsFun g
noncomputable def unF (a b d : Cat) (g : Fun) : Fun:=⟨prC a b,d,unO (fcL b d) g.obs g.obs.length,unP (unE a b d (fcL b d) (fcA (fcL b d)) g.obs g.ars) b.fr.length g.ars.length 0⟩
def UnOut (a b d : Cat) (g r : Fun) (code : Int) : Prop :=
  (¬ UnB a b d g ∧ r = nilF ∧ code = 1) ∨ (UnB a b d g ∧ ((¬ a = g.src ∧ r = nilF ∧ code = 5) ∨ (a = g.src ∧ ((¬ FcY b d ∧ r = nilF ∧ code = 3) ∨ (FcY b d ∧ ((¬ fcK d (fcL b d) = g.tgt ∧ r = nilF ∧ code = 5) ∨ (fcK d (fcL b d) = g.tgt ∧ ((¬ PrS a b ∧ r = nilF ∧ code = 3) ∨ (PrS a b ∧ r = unF a b d g ∧ code = 0)))))))))
theorem UnOut.ex (a b d : Cat) (g : Fun) : ∃ r code,UnOut a b d g r code:=by
  by_cases h : UnB a b d g
  · by_cases h1 : a = g.src
    · by_cases h2 : FcY b d
      · by_cases h3 : fcK d (fcL b d) = g.tgt
        · by_cases h4 : PrS a b
          · exact ⟨_,_,.inr ⟨h,.inr ⟨h1,.inr ⟨h2,.inr ⟨h3,.inr ⟨h4,rfl,rfl⟩⟩⟩⟩⟩⟩
          · exact ⟨_,_,.inr ⟨h,.inr ⟨h1,.inr ⟨h2,.inr ⟨h3,.inl ⟨h4,rfl,rfl⟩⟩⟩⟩⟩⟩
        · exact ⟨_,_,.inr ⟨h,.inr ⟨h1,.inr ⟨h2,.inl ⟨h3,rfl,rfl⟩⟩⟩⟩⟩
      · exact ⟨_,_,.inr ⟨h,.inr ⟨h1,.inl ⟨h2,rfl,rfl⟩⟩⟩⟩
    · exact ⟨_,_,.inr ⟨h,.inl ⟨h1,rfl,rfl⟩⟩⟩
  · exact ⟨_,_,.inl ⟨h,rfl,rfl⟩⟩
theorem un_w {a b d : Cat} {g : Fun} (h : UnB a b d g) (h1 : a = g.src) (hy : FcY b d) (h3 : fcK d (fcL b d) = g.tgt) : UnW a b d (fcL b d) g :=
  ⟨h.1.1,h.1.2.1,h.1.2.2,h.2,h1.symm,h3.symm,FL.of_funX,hy.2.1,hy.2.2⟩
theorem un_len {a b d : Cat} {L : List Fun} {g : Fun} (h : UnW a b d L g) {k : Nat} (hk : k ≤ g.obs.length) : (unO L g.obs k).length ≤ 64:=by
  have e:=unO_len (L:=L) (p:=g.obs) (n:=b.ob.toNat) (k:=k) (fun i hi=>by
    have:=(h.fl _ (h.ob hi).2)
    have h2:=this.2.2.obl
    rw [this.1] at h2
    omega) hk
  have a8:=h.sa.toShape.ob8
  have b8:=h.sb.toShape.ob8
  have ol:=h.ol
  rw [e]
  exact Nat.mul_le_mul (show k ≤ 8 by omega) (show b.ob.toNat ≤ 8 by omega)
theorem un_len2 {a b d : Cat} {L : List Fun} {g : Fun} (h : UnW a b d L g) {e : Nat → Nat → Int} {u v : Nat} (hu : u ≤ a.fr.length) (hv : v ≤ b.fr.length) : (unP e b.fr.length u v).length ≤ 1680:=by
  rw [unP_len]
  have:=Nat.mul_le_mul (show u ≤ 40 from Nat.le_trans hu h.sa.toShape.m40) h.sb.toShape.m40
  have:=h.sb.toShape.m40
  omega
theorem unF_b {a b d : Cat} {g : Fun} (hd : CatB d) (h : UnB a b d g) (h1 : a = g.src) (hy : FcY b d) (h3 : fcK d (fcL b d) = g.tgt) : FunB (unF a b d g):=by
  have w:=un_w h h1 hy h3
  refine ⟨prC_b w.sa.toShape w.sb.toShape,hd,?_,?_⟩
  · show (unO _ _ _).length ≤ 1048576
    have:=un_len w (Nat.le_refl g.obs.length)
    omega
  · show (unP _ _ _ _).length ≤ 1048576
    have:=un_len2 w (e:=unE a b d (fcL b d) (fcA (fcL b d)) g.obs g.ars) (u:=g.ars.length) (v:=0) (by rw [w.al];exact Nat.le_refl _) (Nat.zero_le _)
    omega
theorem three_all {A : Type} {a0 a b c : A} {P : A → Prop} : (∀ i,i < [a,b,c].length → P ([a,b,c].getD i a0)) ↔ P a ∧ P b ∧ P c:=by
  constructor
  · intro h;exact ⟨h 0 (by simp),h 1 (by simp),h 2 (by simp)⟩
  · intro h i hi
    have : i = 0 ∨ i = 1 ∨ i = 2:=by simp at hi;omega
    rcases this with rfl | rfl | rfl
    · exact h.1
    · exact h.2.1
    · exact h.2.2
theorem sp_areCategories_three {a b d : Cat} (ha : CatB a) (hb : CatB b) (hd : CatB d) : Spec Tryz.prog 55 [.bor [] (.sl 1 (.pt (catD a)) [.pt (catD a),.pt (catD b),.pt (catD d)])] [] (bv (dec (IsCat a ∧ IsCat b ∧ IsCat d))) []:=by
  have:=sp_areCategories (f0:=a) (l:=[a,b,d]) (by simp) (three_all.2 ⟨ha,hb,hd⟩)
  rw [dec_congr three_all] at this
  exact this
attribute [local go_sem] List.set_cons_zero List.set_cons_succ unO_zero unP_zero
theorem cal_UncurryFunctor : Callable Tryz.prog 39:=⟨_,Tryz.func39,rfl,rfl⟩
theorem sp_UncurryFunctor_bad {a b d : Cat} {g : Fun} (ha : CatB a) (hb : CatB b) (hd : CatB d) (hg : FunB g) (h : ¬ UnB a b d g) : Spec Tryz.prog 39 [catV a,catV b,catV d,funV g] [] (.tup [.agg [iv 0,.v (.slice none 0 0),.v (.slice none 0 0),.v (.slice none 0 0),.v (.slice none 0 0),iv 0,.v (.slice none 0 0),.v (.slice none 0 0),.v (.slice none 0 0),.v (.slice none 0 0),.v (.slice none 0 0),.v (.slice none 0 0)],iv 1]) []:=by
  have ar:=sp_areCategories_three ha hb hd
  by_cases h1 : IsCat a ∧ IsCat b ∧ IsCat d
  · have h2 : ¬ IsFun g:=fun q=>h ⟨h1,q⟩
    have v2:=is_v hg (dec_f h2)
    rw [dec_t h1] at ar
    refine spec_of_V (E:=TE) 0 Tryz.func39 rfl (by simp [Tryz.f39]) fun X hn hX=>?_
    repeat' (first|(refine V_at 1 (Imp.trans (Imp.trans (Imp.lendCat 4 0 1 a rfl rfl (Nat.le_refl 1)) (Imp.lendCat 5 1 1 b rfl rfl (Nat.le_refl 1))) (Imp.lendCat 6 2 1 d rfl rfl (Nat.le_refl 1))) ?_;simp only [go_sem,simprocAttr])|(with_reducible first|refine V_seq ?_|refine V_block ?_|refine V_skip ?_|refine V_ret ?_|refine V_exit ?_)|((with_reducible refine V_cond ?_);simp only [go_sem,simprocAttr])|((first|refine V_region (by rw [hn];rfl) ?_|refine V_drawn hmix (by rw [hn];rfl) ?_);intro K hK)|((first|with_reducible refine evOps_n ?_|((with_reducible apply evOps_g);rfl)|with_reducible refine evOpsD_n ?_|((with_reducible apply evOpsD_g);rfl));intro K hK;simp (contextual:=true) only [go_sem,simprocAttr])|with_reducible refine evOps_nil ?_|((with_reducible refine evOpsD_nil ?_ ?_);kernel_rfl)|((with_reducible refine hK _ ?_);clear hK K)|(with_reducible first|refine And.intro ?_ ?_|refine nxt_n ?_|refine nxt_r ?_|refine nxt_e ?_|refine blk_n ?_|refine blk_r ?_|refine blk_same ?_|refine blk_other (by decide) ?_|refine noG_n ?_|refine noG_r ?_|refine noG_e ?_|refine inR_mk ?_ ?_)|((with_reducible refine evCall_at 55 ?_);refine EvCall.mk (ar) cal_areCategories [] [5,0,1,2] (by simp [go_sem] <;> (repeat' (first|rfl|constructor))) (by simp [go_sem] <;> (repeat' (first|rfl|constructor))) ?_;all_goals try simp only [go_sem,simprocAttr])|((with_reducible refine evCall_at 75 ?_);refine EvCall.mk (v2) cal_Functor_isFunctor [] [3] (by simp [go_sem] <;> (repeat' (first|rfl|constructor))) (by simp [go_sem] <;> (repeat' (first|rfl|constructor))) ?_;all_goals try simp only [go_sem,simprocAttr])|(refine fun (hc : (_ : Bool) = _)=>?_;try simp only [hcS] at hc))
    all_goals try exact om_
    all_goals ((first|refine ret_auto ?_|refine ret_auto' ?_);simp only [go_sem,simprocAttr,Tryz.f39])
  · rw [dec_f h1] at ar
    refine spec_of_V (E:=TE) 0 Tryz.func39 rfl (by simp [Tryz.f39]) fun X hn hX=>?_
    repeat' (first|(refine V_at 1 (Imp.trans (Imp.trans (Imp.lendCat 4 0 1 a rfl rfl (Nat.le_refl 1)) (Imp.lendCat 5 1 1 b rfl rfl (Nat.le_refl 1))) (Imp.lendCat 6 2 1 d rfl rfl (Nat.le_refl 1))) ?_;simp only [go_sem,simprocAttr])|(with_reducible first|refine V_seq ?_|refine V_block ?_|refine V_skip ?_|refine V_ret ?_|refine V_exit ?_)|((with_reducible refine V_cond ?_);simp only [go_sem,simprocAttr])|((first|refine V_region (by rw [hn];rfl) ?_|refine V_drawn hmix (by rw [hn];rfl) ?_);intro K hK)|((first|with_reducible refine evOps_n ?_|((with_reducible apply evOps_g);rfl)|with_reducible refine evOpsD_n ?_|((with_reducible apply evOpsD_g);rfl));intro K hK;simp (contextual:=true) only [go_sem,simprocAttr])|with_reducible refine evOps_nil ?_|((with_reducible refine evOpsD_nil ?_ ?_);kernel_rfl)|((with_reducible refine hK _ ?_);clear hK K)|(with_reducible first|refine And.intro ?_ ?_|refine nxt_n ?_|refine nxt_r ?_|refine nxt_e ?_|refine blk_n ?_|refine blk_r ?_|refine blk_same ?_|refine blk_other (by decide) ?_|refine noG_n ?_|refine noG_r ?_|refine noG_e ?_|refine inR_mk ?_ ?_)|((with_reducible refine evCall_at 55 ?_);refine EvCall.mk (ar) cal_areCategories [] [5,0,1,2] (by simp [go_sem] <;> (repeat' (first|rfl|constructor))) (by simp [go_sem] <;> (repeat' (first|rfl|constructor))) ?_;all_goals try simp only [go_sem,simprocAttr])|(refine fun (hc : (_ : Bool) = _)=>?_;try simp only [hcS] at hc))
    all_goals try exact om_
    all_goals ((first|refine ret_auto ?_|refine ret_auto' ?_);simp only [go_sem,simprocAttr,Tryz.f39])
theorem sp_UncurryFunctor_st {a b d : Cat} {g : Fun} (ha : CatB a) (hb : CatB b) (hd : CatB d) (hg : FunB g) (h : UnB a b d g) (h1 : ¬ a = g.src) : Spec Tryz.prog 39 [catV a,catV b,catV d,funV g] [] (.tup [.agg [iv 0,.v (.slice none 0 0),.v (.slice none 0 0),.v (.slice none 0 0),.v (.slice none 0 0),iv 0,.v (.slice none 0 0),.v (.slice none 0 0),.v (.slice none 0 0),.v (.slice none 0 0),.v (.slice none 0 0),.v (.slice none 0 0)],iv 5]) []:=by
  have ar:=sp_areCategories_three ha hb hd
  rw [dec_t h.1] at ar
  have v2:=is_v hg (dec_t h.2)
  have s1:=sp_sameCategory ha hg.src
  rw [dec_f h1] at s1
  refine spec_of_V (E:=TE) 0 Tryz.func39 rfl (by simp [Tryz.f39]) fun X hn hX=>?_
  repeat' (first|(refine V_at 1 (Imp.trans (Imp.trans (Imp.lendCat 4 0 1 a rfl rfl (Nat.le_refl 1)) (Imp.lendCat 5 1 1 b rfl rfl (Nat.le_refl 1))) (Imp.lendCat 6 2 1 d rfl rfl (Nat.le_refl 1))) ?_;simp only [go_sem,simprocAttr])|(with_reducible first|refine V_seq ?_|refine V_block ?_|refine V_skip ?_|refine V_ret ?_|refine V_exit ?_)|((with_reducible refine V_cond ?_);simp only [go_sem,simprocAttr])|((first|refine V_region (by rw [hn];rfl) ?_|refine V_drawn hmix (by rw [hn];rfl) ?_);intro K hK)|((first|with_reducible refine evOps_n ?_|((with_reducible apply evOps_g);rfl)|with_reducible refine evOpsD_n ?_|((with_reducible apply evOpsD_g);rfl));intro K hK;simp (contextual:=true) only [go_sem,simprocAttr])|with_reducible refine evOps_nil ?_|((with_reducible refine evOpsD_nil ?_ ?_);kernel_rfl)|((with_reducible refine hK _ ?_);clear hK K)|(with_reducible first|refine And.intro ?_ ?_|refine nxt_n ?_|refine nxt_r ?_|refine nxt_e ?_|refine blk_n ?_|refine blk_r ?_|refine blk_same ?_|refine blk_other (by decide) ?_|refine noG_n ?_|refine noG_r ?_|refine noG_e ?_|refine inR_mk ?_ ?_)|((with_reducible refine evCall_at 55 ?_);refine EvCall.mk (ar) cal_areCategories [] [5,0,1,2] (by simp [go_sem] <;> (repeat' (first|rfl|constructor))) (by simp [go_sem] <;> (repeat' (first|rfl|constructor))) ?_;all_goals try simp only [go_sem,simprocAttr])|((with_reducible refine evCall_at 75 ?_);refine EvCall.mk (v2) cal_Functor_isFunctor [] [3] (by simp [go_sem] <;> (repeat' (first|rfl|constructor))) (by simp [go_sem] <;> (repeat' (first|rfl|constructor))) ?_;all_goals try simp only [go_sem,simprocAttr])|((with_reducible refine evCall_at 88 ?_);refine EvCall.mk (s1) cal_sameCategory [] [0,3] (by simp [go_sem] <;> (repeat' (first|rfl|constructor))) (by simp [go_sem] <;> (repeat' (first|rfl|constructor))) ?_;all_goals try simp only [go_sem,simprocAttr])|(refine fun (hc : (_ : Bool) = _)=>?_;try simp only [hcS] at hc))
  all_goals try exact om_
  all_goals ((first|refine ret_auto ?_|refine ret_auto' ?_);simp only [go_sem,simprocAttr,Tryz.f39])
theorem sp_UncurryFunctor_lim {a b d : Cat} {g : Fun} (ha : CatB a) (hb : CatB b) (hd : CatB d) (hg : FunB g) (h : UnB a b d g) (h1 : a = g.src) (h2 : ¬ FcY b d) : Spec Tryz.prog 39 [catV a,catV b,catV d,funV g] [] (.tup [.agg [iv 0,.v (.slice none 0 0),.v (.slice none 0 0),.v (.slice none 0 0),.v (.slice none 0 0),iv 0,.v (.slice none 0 0),.v (.slice none 0 0),.v (.slice none 0 0),.v (.slice none 0 0),.v (.slice none 0 0),.v (.slice none 0 0)],iv 3]) []:=by
  have ar:=sp_areCategories_three ha hb hd
  rw [dec_t h.1] at ar
  have v2:=is_v hg (dec_t h.2)
  have s1:=sp_sameCategory ha hg.src
  rw [dec_t h1] at s1
  have hf:=sp_functors_o h.1.2.1 h.1.2.2 hb hd (.inr ⟨h2,rfl,rfl⟩)
  refine spec_of_V (E:=TE) 0 Tryz.func39 rfl (by simp [Tryz.f39]) fun X hn hX=>?_
  repeat' (first|(refine V_at 1 (Imp.trans (Imp.trans (Imp.lendCat 4 0 1 a rfl rfl (Nat.le_refl 1)) (Imp.lendCat 5 1 1 b rfl rfl (Nat.le_refl 1))) (Imp.lendCat 6 2 1 d rfl rfl (Nat.le_refl 1))) ?_;simp only [go_sem,simprocAttr])|(with_reducible first|refine V_seq ?_|refine V_block ?_|refine V_skip ?_|refine V_ret ?_|refine V_exit ?_)|((with_reducible refine V_cond ?_);simp only [go_sem,simprocAttr])|((first|refine V_region (by rw [hn];rfl) ?_|refine V_drawn hmix (by rw [hn];rfl) ?_);intro K hK)|((first|with_reducible refine evOps_n ?_|((with_reducible apply evOps_g);rfl)|with_reducible refine evOpsD_n ?_|((with_reducible apply evOpsD_g);rfl));intro K hK;simp (contextual:=true) only [go_sem,simprocAttr])|with_reducible refine evOps_nil ?_|((with_reducible refine evOpsD_nil ?_ ?_);kernel_rfl)|((with_reducible refine hK _ ?_);clear hK K)|(with_reducible first|refine And.intro ?_ ?_|refine nxt_n ?_|refine nxt_r ?_|refine nxt_e ?_|refine blk_n ?_|refine blk_r ?_|refine blk_same ?_|refine blk_other (by decide) ?_|refine noG_n ?_|refine noG_r ?_|refine noG_e ?_|refine inR_mk ?_ ?_)|((with_reducible refine evCall_at 55 ?_);refine EvCall.mk (ar) cal_areCategories [] [5,0,1,2] (by simp [go_sem] <;> (repeat' (first|rfl|constructor))) (by simp [go_sem] <;> (repeat' (first|rfl|constructor))) ?_;all_goals try simp only [go_sem,simprocAttr])|((with_reducible refine evCall_at 75 ?_);refine EvCall.mk (v2) cal_Functor_isFunctor [] [3] (by simp [go_sem] <;> (repeat' (first|rfl|constructor))) (by simp [go_sem] <;> (repeat' (first|rfl|constructor))) ?_;all_goals try simp only [go_sem,simprocAttr])|((with_reducible refine evCall_at 88 ?_);refine EvCall.mk (s1) cal_sameCategory [] [0,3] (by simp [go_sem] <;> (repeat' (first|rfl|constructor))) (by simp [go_sem] <;> (repeat' (first|rfl|constructor))) ?_;all_goals try simp only [go_sem,simprocAttr])|((with_reducible refine evCall_at 56 ?_);refine EvCall.mk (hf) cal_functors [] [1,2] (by simp [go_sem] <;> (repeat' (first|rfl|constructor))) (by simp [go_sem] <;> (repeat' (first|rfl|constructor))) ?_;all_goals try simp only [go_sem,simprocAttr])|(refine fun (hc : (_ : Bool) = _)=>?_;try simp only [hcS] at hc))
  all_goals try exact om_
  all_goals ((first|refine ret_auto ?_|refine ret_auto' ?_);simp only [go_sem,simprocAttr,Tryz.f39])
theorem sp_UncurryFunctor_st2 {a b d : Cat} {g : Fun} (ha : CatB a) (hb : CatB b) (hd : CatB d) (hg : FunB g) (h : UnB a b d g) (h1 : a = g.src) (h2 : FcY b d) (h3 : ¬ fcK d (fcL b d) = g.tgt) : Spec Tryz.prog 39 [catV a,catV b,catV d,funV g] [] (.tup [.agg [iv 0,.v (.slice none 0 0),.v (.slice none 0 0),.v (.slice none 0 0),.v (.slice none 0 0),iv 0,.v (.slice none 0 0),.v (.slice none 0 0),.v (.slice none 0 0),.v (.slice none 0 0),.v (.slice none 0 0),.v (.slice none 0 0)],iv 5]) []:=by
  have ar:=sp_areCategories_three ha hb hd
  rw [dec_t h.1] at ar
  have v2:=is_v hg (dec_t h.2)
  have s1:=sp_sameCategory ha hg.src
  rw [dec_t h1] at s1
  have hf:=sp_functors_o h.1.2.1 h.1.2.2 hb hd (.inl ⟨h2,rfl,rfl⟩)
  have s2:=sp_sameCategory (fcK_b d h2.2.1 h2.2.2) hg.tgt
  rw [dec_f h3] at s2
  refine spec_of_V (E:=TE) 0 Tryz.func39 rfl (by simp [Tryz.f39]) fun X hn hX=>?_
  repeat' (first|(refine V_at 1 (Imp.trans (Imp.trans (Imp.lendCat 4 0 1 a rfl rfl (Nat.le_refl 1)) (Imp.lendCat 5 1 1 b rfl rfl (Nat.le_refl 1))) (Imp.lendCat 6 2 1 d rfl rfl (Nat.le_refl 1))) ?_;simp only [go_sem,simprocAttr])|(with_reducible first|refine V_seq ?_|refine V_block ?_|refine V_skip ?_|refine V_ret ?_|refine V_exit ?_)|((with_reducible refine V_cond ?_);simp only [go_sem,simprocAttr])|((first|refine V_region (by rw [hn];rfl) ?_|refine V_drawn hmix (by rw [hn];rfl) ?_);intro K hK)|((first|with_reducible refine evOps_n ?_|((with_reducible apply evOps_g);rfl)|with_reducible refine evOpsD_n ?_|((with_reducible apply evOpsD_g);rfl));intro K hK;simp (contextual:=true) only [go_sem,simprocAttr])|with_reducible refine evOps_nil ?_|((with_reducible refine evOpsD_nil ?_ ?_);kernel_rfl)|((with_reducible refine hK _ ?_);clear hK K)|(with_reducible first|refine And.intro ?_ ?_|refine nxt_n ?_|refine nxt_r ?_|refine nxt_e ?_|refine blk_n ?_|refine blk_r ?_|refine blk_same ?_|refine blk_other (by decide) ?_|refine noG_n ?_|refine noG_r ?_|refine noG_e ?_|refine inR_mk ?_ ?_)|((with_reducible refine evCall_at 55 ?_);refine EvCall.mk (ar) cal_areCategories [] [5,0,1,2] (by simp [go_sem] <;> (repeat' (first|rfl|constructor))) (by simp [go_sem] <;> (repeat' (first|rfl|constructor))) ?_;all_goals try simp only [go_sem,simprocAttr])|((with_reducible refine evCall_at 75 ?_);refine EvCall.mk (v2) cal_Functor_isFunctor [] [3] (by simp [go_sem] <;> (repeat' (first|rfl|constructor))) (by simp [go_sem] <;> (repeat' (first|rfl|constructor))) ?_;all_goals try simp only [go_sem,simprocAttr])|((with_reducible refine (id ?_ : EvCall _ _ [_,.ptr 3 0] _ _));refine EvCall.mk (s1) cal_sameCategory [] [0,3] (by simp [go_sem] <;> (repeat' (first|rfl|constructor))) (by simp [go_sem] <;> (repeat' (first|rfl|constructor))) ?_;all_goals try simp only [go_sem,simprocAttr])|((with_reducible refine evCall_at 56 ?_);refine EvCall.mk (hf) cal_functors [(0,6),(1,7),(2,8),(3,9),(4,10),(5,11),(6,12),(7,13)] [1,2] (by simp [go_sem] <;> (repeat' (first|rfl|constructor))) (by simp [go_sem] <;> (repeat' (first|rfl|constructor))) ?_;all_goals try simp only [go_sem,simprocAttr])|((with_reducible refine (id ?_ : EvCall _ _ [_,.ptr 3 5] _ _));refine EvCall.mk (s2) cal_sameCategory [] [6,7,8,9,10,3] (by simp [go_sem] <;> (repeat' (first|rfl|constructor))) (by simp [go_sem] <;> (repeat' (first|rfl|constructor))) ?_;all_goals try simp only [go_sem,simprocAttr])|(refine fun (hc : (_ : Bool) = _)=>?_;try simp only [hcS] at hc))
  all_goals try exact om_
  all_goals ((first|refine ret_auto ?_|refine ret_auto' ?_);simp only [go_sem,simprocAttr,Tryz.f39])
theorem sp_UncurryFunctor_lim2 {a b d : Cat} {g : Fun} (ha : CatB a) (hb : CatB b) (hd : CatB d) (hg : FunB g) (h : UnB a b d g) (h1 : a = g.src) (h2 : FcY b d) (h3 : fcK d (fcL b d) = g.tgt) (h4 : ¬ PrS a b) : Spec Tryz.prog 39 [catV a,catV b,catV d,funV g] [] (.tup [.agg [iv 0,.v (.slice none 0 0),.v (.slice none 0 0),.v (.slice none 0 0),.v (.slice none 0 0),iv 0,.v (.slice none 0 0),.v (.slice none 0 0),.v (.slice none 0 0),.v (.slice none 0 0),.v (.slice none 0 0),.v (.slice none 0 0)],iv 3]) []:=by
  have ar:=sp_areCategories_three ha hb hd
  rw [dec_t h.1] at ar
  have v2:=is_v hg (dec_t h.2)
  have s1:=sp_sameCategory ha hg.src
  rw [dec_t h1] at s1
  have hf:=sp_functors_o h.1.2.1 h.1.2.2 hb hd (.inl ⟨h2,rfl,rfl⟩)
  have s2:=sp_sameCategory (fcK_b d h2.2.1 h2.2.2) hg.tgt
  rw [dec_t h3] at s2
  have hp:=sp_product_no h.1.1.toShape h.1.2.1.toShape h4
  refine spec_of_V (E:=TE) 0 Tryz.func39 rfl (by simp [Tryz.f39]) fun X hn hX=>?_
  repeat' (first|(refine V_at 1 (Imp.trans (Imp.trans (Imp.lendCat 4 0 1 a rfl rfl (Nat.le_refl 1)) (Imp.lendCat 5 1 1 b rfl rfl (Nat.le_refl 1))) (Imp.lendCat 6 2 1 d rfl rfl (Nat.le_refl 1))) ?_;simp only [go_sem,simprocAttr])|(with_reducible first|refine V_seq ?_|refine V_block ?_|refine V_skip ?_|refine V_ret ?_|refine V_exit ?_)|((with_reducible refine V_cond ?_);simp only [go_sem,simprocAttr])|((first|refine V_region (by rw [hn];rfl) ?_|refine V_drawn hmix (by rw [hn];rfl) ?_);intro K hK)|((first|with_reducible refine evOps_n ?_|((with_reducible apply evOps_g);rfl)|with_reducible refine evOpsD_n ?_|((with_reducible apply evOpsD_g);rfl));intro K hK;simp (contextual:=true) only [go_sem,simprocAttr])|with_reducible refine evOps_nil ?_|((with_reducible refine evOpsD_nil ?_ ?_);kernel_rfl)|((with_reducible refine hK _ ?_);clear hK K)|(with_reducible first|refine And.intro ?_ ?_|refine nxt_n ?_|refine nxt_r ?_|refine nxt_e ?_|refine blk_n ?_|refine blk_r ?_|refine blk_same ?_|refine blk_other (by decide) ?_|refine noG_n ?_|refine noG_r ?_|refine noG_e ?_|refine inR_mk ?_ ?_)|((with_reducible refine evCall_at 55 ?_);refine EvCall.mk (ar) cal_areCategories [] [5,0,1,2] (by simp [go_sem] <;> (repeat' (first|rfl|constructor))) (by simp [go_sem] <;> (repeat' (first|rfl|constructor))) ?_;all_goals try simp only [go_sem,simprocAttr])|((with_reducible refine evCall_at 75 ?_);refine EvCall.mk (v2) cal_Functor_isFunctor [] [3] (by simp [go_sem] <;> (repeat' (first|rfl|constructor))) (by simp [go_sem] <;> (repeat' (first|rfl|constructor))) ?_;all_goals try simp only [go_sem,simprocAttr])|((with_reducible refine (id ?_ : EvCall _ _ [_,.ptr 3 0] _ _));refine EvCall.mk (s1) cal_sameCategory [] [0,3] (by simp [go_sem] <;> (repeat' (first|rfl|constructor))) (by simp [go_sem] <;> (repeat' (first|rfl|constructor))) ?_;all_goals try simp only [go_sem,simprocAttr])|((with_reducible refine evCall_at 56 ?_);refine EvCall.mk (hf) cal_functors [(0,6),(1,7),(2,8),(3,9),(4,10),(5,11),(6,12),(7,13)] [1,2] (by simp [go_sem] <;> (repeat' (first|rfl|constructor))) (by simp [go_sem] <;> (repeat' (first|rfl|constructor))) ?_;all_goals try simp only [go_sem,simprocAttr])|((with_reducible refine (id ?_ : EvCall _ _ [_,.ptr 3 5] _ _));refine EvCall.mk (s2) cal_sameCategory [] [6,7,8,9,10,3] (by simp [go_sem] <;> (repeat' (first|rfl|constructor))) (by simp [go_sem] <;> (repeat' (first|rfl|constructor))) ?_;all_goals try simp only [go_sem,simprocAttr])|((with_reducible refine evCall_at 89 ?_);refine EvCall.mk (hp) cal_product [] [0,1] (by simp [go_sem] <;> (repeat' (first|rfl|constructor))) (by simp [go_sem] <;> (repeat' (first|rfl|constructor))) ?_;all_goals try simp only [go_sem,simprocAttr])|(refine fun (hc : (_ : Bool) = _)=>?_;try simp only [hcS] at hc))
  all_goals try exact om_
  all_goals ((first|refine ret_auto ?_|refine ret_auto' ?_);simp only [go_sem,simprocAttr,Tryz.f39])
theorem sp_UncurryFunctor_yes {a b d : Cat} {g : Fun} (ha : CatB a) (hb : CatB b) (hd : CatB d) (hg : FunB g) (h : UnB a b d g) (h1 : a = g.src) (h2 : FcY b d) (h3 : fcK d (fcL b d) = g.tgt) (h4 : PrS a b) : Spec Tryz.prog 39 [catV a,catV b,catV d,funV g] [] (.tup [.agg [iv (unF a b d g).src.ob,.sl 0,.sl 1,.sl 2,.sl 3,iv (unF a b d g).tgt.ob,.sl 4,.sl 5,.sl 6,.sl 7,.sl 8,.sl 9],iv 0]) [(0,⟨1,.arr (ints (unF a b d g).src.fr)⟩),(1,⟨1,.arr (ints (unF a b d g).src.to)⟩),(2,⟨1,.arr (ints (unF a b d g).src.id)⟩),(3,⟨1,.arr (intss (unF a b d g).src.co)⟩),(4,⟨1,.arr (ints (unF a b d g).tgt.fr)⟩),(5,⟨1,.arr (ints (unF a b d g).tgt.to)⟩),(6,⟨1,.arr (ints (unF a b d g).tgt.id)⟩),(7,⟨1,.arr (intss (unF a b d g).tgt.co)⟩),(8,⟨1,.arr (ints (unF a b d g).obs)⟩),(9,⟨1,.arr (ints (unF a b d g).ars)⟩)]:=by
  have w:=un_w h h1 h2 h3
  have ar:=sp_areCategories_three ha hb hd
  rw [dec_t h.1] at ar
  have v2:=is_v hg (dec_t h.2)
  have s1:=sp_sameCategory ha hg.src
  rw [dec_t h1] at s1
  have hf:=sp_functors_o h.1.2.1 h.1.2.2 hb hd (.inl ⟨h2,rfl,rfl⟩)
  have s2:=sp_sameCategory (fcK_b d h2.2.1 h2.2.2) hg.tgt
  rw [dec_t h3] at s2
  have hp:=sp_product_yes h.1.1.toShape h.1.2.1.toShape h4
  have eF : unF a b d g = ⟨prC a b,d,unO (fcL b d) g.obs g.obs.length,unP (unE a b d (fcL b d) (fcA (fcL b d)) g.obs g.ars) b.fr.length g.ars.length 0⟩:=rfl
  rw [eF]
  have hbp:=prC_b w.sa.toShape w.sb.toShape
  have ol:=w.ol
  have al:=w.al
  have a8:=w.sa.toShape.ob8
  have a40:=w.sa.toShape.m40
  have b40:=w.sb.toShape.m40
  have btl:=w.sb.toShape.tol
  have dcl:=w.sd.toShape.col
  have hfu:=sp_functor (c:=prC a b) (d:=d) (p:=unO (fcL b d) g.obs g.obs.length) (q:=unP (unE a b d (fcL b d) (fcA (fcL b d)) g.obs g.ars) b.fr.length g.ars.length 0) hbp hd (by have:=un_len w (Nat.le_refl g.obs.length);omega) (by have:=un_len2 w (e:=unE a b d (fcL b d) (fcA (fcL b d)) g.obs g.ars) (u:=g.ars.length) (v:=0) (by rw [w.al];exact Nat.le_refl _) (Nat.zero_le _);omega)
  refine spec_of_V (E:=TE) 0 Tryz.func39 rfl (by simp [Tryz.f39]) fun X hn hX=>?_
  repeat' (first|(refine V_at 1 (Imp.trans (Imp.trans (Imp.lendCat 4 0 1 a rfl rfl (Nat.le_refl 1)) (Imp.lendCat 5 1 1 b rfl rfl (Nat.le_refl 1))) (Imp.lendCat 6 2 1 d rfl rfl (Nat.le_refl 1))) ?_;simp only [go_sem,simprocAttr])|(with_reducible first|refine V_seq ?_|refine V_block ?_|refine V_skip ?_|refine V_ret ?_|refine V_exit ?_)|((with_reducible refine V_cond ?_);simp only [go_sem,simprocAttr])|((first|refine V_region (by rw [hn];rfl) ?_|refine V_drawn hmix (by rw [hn];rfl) ?_);intro K hK)|((first|with_reducible refine evOps_n ?_|((with_reducible apply evOps_g);rfl)|with_reducible refine evOpsD_n ?_|((with_reducible apply evOpsD_g);rfl));intro K hK;simp (contextual:=true) only [go_sem,simprocAttr])|with_reducible refine evOps_nil ?_|((with_reducible refine evOpsD_nil ?_ ?_);kernel_rfl)|((with_reducible refine hK _ ?_);clear hK K)|(with_reducible first|refine And.intro ?_ ?_|refine nxt_n ?_|refine nxt_r ?_|refine nxt_e ?_|refine blk_n ?_|refine blk_r ?_|refine blk_same ?_|refine blk_other (by decide) ?_|refine noG_n ?_|refine noG_r ?_|refine noG_e ?_|refine inR_mk ?_ ?_)|((with_reducible refine evCall_at 55 ?_);refine EvCall.mk (ar) cal_areCategories [] [5,0,1,2] (by simp [go_sem] <;> (repeat' (first|rfl|constructor))) (by simp [go_sem] <;> (repeat' (first|rfl|constructor))) ?_;all_goals try simp only [go_sem,simprocAttr])|((with_reducible refine evCall_at 75 ?_);refine EvCall.mk (v2) cal_Functor_isFunctor [] [3] (by simp [go_sem] <;> (repeat' (first|rfl|constructor))) (by simp [go_sem] <;> (repeat' (first|rfl|constructor))) ?_;all_goals try simp only [go_sem,simprocAttr])|((with_reducible refine (id ?_ : EvCall _ _ [_,.ptr 3 0] _ _));refine EvCall.mk (s1) cal_sameCategory [] [0,3] (by simp [go_sem] <;> (repeat' (first|rfl|constructor))) (by simp [go_sem] <;> (repeat' (first|rfl|constructor))) ?_;all_goals try simp only [go_sem,simprocAttr])|((with_reducible refine evCall_at 56 ?_);refine EvCall.mk (hf) cal_functors [(0,6),(1,7),(2,8),(3,9),(4,10),(5,11),(6,12),(7,13)] [1,2] (by simp [go_sem] <;> (repeat' (first|rfl|constructor))) (by simp [go_sem] <;> (repeat' (first|rfl|constructor))) ?_;all_goals try simp only [go_sem,simprocAttr])|((with_reducible refine (id ?_ : EvCall _ _ [_,.ptr 3 5] _ _));refine EvCall.mk (s2) cal_sameCategory [] [6,7,8,9,10,3] (by simp [go_sem] <;> (repeat' (first|rfl|constructor))) (by simp [go_sem] <;> (repeat' (first|rfl|constructor))) ?_;all_goals try simp only [go_sem,simprocAttr])|((with_reducible refine evCall_at 89 ?_);refine EvCall.mk (hp) cal_product [(0,14),(1,15),(2,16),(3,17)] [0,1] (by simp [go_sem] <;> (repeat' (first|rfl|constructor))) (by simp [go_sem] <;> (repeat' (first|rfl|constructor))) ?_;all_goals try simp only [go_sem,simprocAttr])|(refine fun (hc : (_ : Bool) = _)=>?_;try simp only [hcS] at hc))
  all_goals try exact om_
  obtain ⟨L,hL⟩ : ∃ L,fcL b d = L:=⟨_,rfl⟩
  rw [hL] at w hfu ⊢
  have l8:=w.l8
  have lA:=w.a40
  have b8:=w.sb.toShape.ob8
  refine V_loopK (G:={i : Nat // i ≤ g.obs.length ∧ (True)}) (fun ⟨i,_⟩=>[(59,iv i),(10,.ptr 6 0),(12,.ptr 18 0),(13,.sl 19),(14,.sl 20),(21,.bsl 5 3)]) [4,5,6,7,8,9,57,58] (fun ⟨i,_⟩=>[(19,⟨1,.arr (ints (unO L g.obs i))⟩),(20,⟨1,.arr (ints [])⟩)]) [19,20] (fun zz=>g.obs.length - zz.1) ⟨0,Nat.zero_le _,by first|trivial|simp⟩ ?_ ?_
  · exact Imp.au hX
  rintro ⟨i,hii,hwi⟩
  simp only [go_sem,simprocAttr]
  have hul:=un_len w (k:=i) (by omega)
  rcases Nat.lt_or_ge i g.obs.length with hli | hgi
  · have hob:=w.ob hli
    have hat : (funsD L).at ((g.obs.getD i 0).toNat * 12 + 10) = ints (L.getD (g.obs.getD i 0).toNat default).obs:=funs_at L _ 10 hob.2 (by decide)
    have hpt : (funsD L).part ((g.obs.getD i 0).toNat * 12) 12 = funD (L.getD (g.obs.getD i 0).toNat default):=funs_part L _ hob.2
    have e1:=unO_succ (L:=L) hli
    have hul2:=un_len w (k:=i + 1) (by omega)
    rw [e1,List.length_append] at hul2
    repeat' (first|(rw [hat];simp only [go_sem,simprocAttr])|(rw [hpt];simp only [go_sem,simprocAttr])|(with_reducible first|refine V_seq ?_|refine V_block ?_|refine V_skip ?_|refine V_ret ?_|refine V_exit ?_)|((with_reducible refine V_cond ?_);simp only [go_sem,simprocAttr])|((first|refine V_region (by rw [hn];rfl) ?_|refine V_drawn hmix (by rw [hn];rfl) ?_);intro K hK)|((first|with_reducible refine evOps_n ?_|((with_reducible apply evOps_g);rfl)|with_reducible refine evOpsD_n ?_|((with_reducible apply evOpsD_g);rfl));intro K hK;simp (contextual:=true) only [go_sem,simprocAttr])|with_reducible refine evOps_nil ?_|((with_reducible refine evOpsD_nil ?_ ?_);kernel_rfl)|((with_reducible refine hK _ ?_);clear hK K)|(with_reducible first|refine And.intro ?_ ?_|refine nxt_n ?_|refine nxt_r ?_|refine nxt_e ?_|refine blk_n ?_|refine blk_r ?_|refine blk_same ?_|refine blk_other (by decide) ?_|refine noG_n ?_|refine noG_r ?_|refine noG_e ?_|refine inR_mk ?_ ?_)|(refine fun (hc : (_ : Bool) = _)=>?_;try simp only [hcS] at hc))
    all_goals try exact om_
    · refine ⟨⟨i + 1,by omega,(by trivial)⟩,by simp only;omega,Imp.auto hX (by simp only [go_sem,simprocAttr,e1])⟩
  · have ei : i = g.obs.length:=by omega
    subst ei
    repeat' (first|(with_reducible first|refine V_seq ?_|refine V_block ?_|refine V_skip ?_|refine V_ret ?_|refine V_exit ?_)|((with_reducible refine V_cond ?_);simp only [go_sem,simprocAttr])|((first|refine V_region (by rw [hn];rfl) ?_|refine V_drawn hmix (by rw [hn];rfl) ?_);intro K hK)|((first|with_reducible refine evOps_n ?_|((with_reducible apply evOps_g);rfl)|with_reducible refine evOpsD_n ?_|((with_reducible apply evOpsD_g);rfl));intro K hK;simp (contextual:=true) only [go_sem,simprocAttr])|with_reducible refine evOps_nil ?_|((with_reducible refine evOpsD_nil ?_ ?_);kernel_rfl)|((with_reducible refine hK _ ?_);clear hK K)|(with_reducible first|refine And.intro ?_ ?_|refine nxt_n ?_|refine nxt_r ?_|refine nxt_e ?_|refine blk_n ?_|refine blk_r ?_|refine blk_same ?_|refine blk_other (by decide) ?_|refine noG_n ?_|refine noG_r ?_|refine noG_e ?_|refine inR_mk ?_ ?_)|(refine fun (hc : (_ : Bool) = _)=>?_;try simp only [hcS] at hc))
    all_goals try exact om_
    refine V_loopK (G:={u : Nat // u ≤ g.ars.length ∧ (True)}) (fun ⟨u,_⟩=>[(77,iv u),(10,.ptr 6 0),(12,.ptr 18 0),(13,.sl 19),(14,.sl 20),(21,.bsl 5 3)]) [4,5,6,7,8,9,75,76] (fun ⟨u,_⟩=>[(19,⟨1,.arr (ints (unO L g.obs g.obs.length))⟩),(20,⟨1,.arr (ints (unP (unE a b d L (fcA L) g.obs g.ars) b.fr.length u 0))⟩)]) [19,20] (fun zz=>g.ars.length - zz.1) ⟨0,Nat.zero_le _,by first|trivial|simp⟩ ?_ ?_
    · exact Imp.au hX
    rintro ⟨u,hiu,hwu⟩
    simp only [go_sem,simprocAttr]
    have hpl:=un_len2 w (e:=unE a b d L (fcA L) g.obs g.ars) (u:=u) (v:=0) (by omega) (Nat.zero_le _)
    rcases Nat.lt_or_ge u g.ars.length with hlu | hgu
    · have har:=w.ar hlu
      have hen:=w.ends (u:=u) (by omega)
      have hob:=w.ob hen.1
      have f1:=w.sa.toShape.frw u (by omega)
      have hpt : (funsD L).part ((g.obs.getD (a.fr.getD u 0).toNat 0).toNat * 12) 12 = funD (L.getD (g.obs.getD (a.fr.getD u 0).toNat 0).toNat default):=funs_part L _ hob.2
      repeat' (first|(rw [hpt];simp only [go_sem,simprocAttr])|(with_reducible first|refine V_seq ?_|refine V_block ?_|refine V_skip ?_|refine V_ret ?_|refine V_exit ?_)|((with_reducible refine V_cond ?_);simp only [go_sem,simprocAttr])|((first|refine V_region (by rw [hn];rfl) ?_|refine V_drawn hmix (by rw [hn];rfl) ?_);intro K hK)|((first|with_reducible refine evOps_n ?_|((with_reducible apply evOps_g);rfl)|with_reducible refine evOpsD_n ?_|((with_reducible apply evOpsD_g);rfl));intro K hK;simp (contextual:=true) only [go_sem,simprocAttr])|with_reducible refine evOps_nil ?_|((with_reducible refine evOpsD_nil ?_ ?_);kernel_rfl)|((with_reducible refine hK _ ?_);clear hK K)|(with_reducible first|refine And.intro ?_ ?_|refine nxt_n ?_|refine nxt_r ?_|refine nxt_e ?_|refine blk_n ?_|refine blk_r ?_|refine blk_same ?_|refine blk_other (by decide) ?_|refine noG_n ?_|refine noG_r ?_|refine noG_e ?_|refine inR_mk ?_ ?_)|(refine fun (hc : (_ : Bool) = _)=>?_;try simp only [hcS] at hc))
      all_goals try exact om_
      refine V_loopK (G:={v : Nat // v ≤ b.fr.length ∧ (True)}) (fun ⟨v,_⟩=>[(99,iv v),(17,iv u),(18,iv (g.ars.getD u 0)),(19,.ptr 11 ((g.obs.getD (a.fr.getD u 0).toNat 0).toNat * 12)),(77,iv u),(10,.ptr 6 0),(12,.ptr 18 0),(13,.sl 19),(14,.sl 20),(21,.bsl 5 3)]) [4,5,6,7,8,9,75,76,98] (fun ⟨v,_⟩=>[(19,⟨1,.arr (ints (unO L g.obs g.obs.length))⟩),(20,⟨1,.arr (ints (unP (unE a b d L (fcA L) g.obs g.ars) b.fr.length u v))⟩)]) [19,20] (fun zz=>b.fr.length - zz.1) ⟨0,Nat.zero_le _,by first|trivial|simp⟩ ?_ ?_
      · exact Imp.au hX
      rintro ⟨v,hiv,hwv⟩
      simp only [go_sem,simprocAttr]
      have hpv:=un_len2 w (e:=unE a b d L (fcA L) g.obs g.ars) (u:=u) (v:=v) (by omega) (by omega)
      rcases Nat.lt_or_ge v b.fr.length with hlv | hgv
      · have f2:=w.sb.toShape.tow v (by omega)
        have hat : (funsD L).at ((g.obs.getD (a.fr.getD u 0).toNat 0).toNat * 12 + 11) = ints (L.getD (g.obs.getD (a.fr.getD u 0).toNat 0).toNat default).ars:=funs_at L _ 11 hob.2 (by decide)
        obtain ⟨q1,q2,q3⟩:=w.in1 hob.2 hlv
        obtain ⟨p1,p2,p3⟩:=w.in2 (u:=u) (by omega) f2.1 f2.2
        have r1:=rows_len w.sd.toShape q2 q3
        have ht:=sp_Category_then (c:=d) (f:=(L.getD (g.obs.getD (a.fr.getD u 0).toNat 0).toNat default).ars.getD v 0) (g:=((fcA L).getD (g.ars.getD u 0).toNat []).getD (2 + b.to.getD v 0).toNat 0) q2 r1.1 p2 (by omega)
        have e2 : unP (unE a b d L (fcA L) g.obs g.ars) b.fr.length u (v + 1) = unP (unE a b d L (fcA L) g.obs g.ars) b.fr.length u v ++ [d.C ((L.getD (g.obs.getD (a.fr.getD u 0).toNat 0).toNat default).ars.getD v 0) (((fcA L).getD (g.ars.getD u 0).toNat []).getD (2 + b.to.getD v 0).toNat 0)]:=unP_succ
        repeat' (first|(rw [hat];simp only [go_sem,simprocAttr])|(with_reducible first|refine V_seq ?_|refine V_block ?_|refine V_skip ?_|refine V_ret ?_|refine V_exit ?_)|((with_reducible refine V_cond ?_);simp only [go_sem,simprocAttr])|((first|refine V_region (by rw [hn];rfl) ?_|refine V_drawn hmix (by rw [hn];rfl) ?_);intro K hK)|((first|with_reducible refine evOps_n ?_|((with_reducible apply evOps_g);rfl)|with_reducible refine evOpsD_n ?_|((with_reducible apply evOpsD_g);rfl));intro K hK;simp (contextual:=true) only [go_sem,simprocAttr])|with_reducible refine evOps_nil ?_|((with_reducible refine evOpsD_nil ?_ ?_);kernel_rfl)|((with_reducible refine hK _ ?_);clear hK K)|(with_reducible first|refine And.intro ?_ ?_|refine nxt_n ?_|refine nxt_r ?_|refine nxt_e ?_|refine blk_n ?_|refine blk_r ?_|refine blk_same ?_|refine blk_other (by decide) ?_|refine noG_n ?_|refine noG_r ?_|refine noG_e ?_|refine inR_mk ?_ ?_)|((with_reducible refine evCall_at 90 ?_);refine EvCall.mk (ht) cal_Category_then [] [2] (by simp [go_sem] <;> (repeat' (first|rfl|constructor))) (by simp [go_sem] <;> (repeat' (first|rfl|constructor))) ?_;all_goals try simp only [go_sem,simprocAttr])|(refine fun (hc : (_ : Bool) = _)=>?_;try simp only [hcS] at hc))
        all_goals try exact om_
        · refine ⟨⟨v + 1,by omega,(by trivial)⟩,by simp only;omega,Imp.auto hX (by simp only [go_sem,simprocAttr,e2])⟩
      · have ev : v = b.fr.length:=by omega
        subst ev
        have e3:=unP_next (e:=unE a b d L (fcA L) g.obs g.ars) (m:=b.fr.length) (u:=u)
        repeat' (first|(with_reducible first|refine V_seq ?_|refine V_block ?_|refine V_skip ?_|refine V_ret ?_|refine V_exit ?_)|((with_reducible refine V_cond ?_);simp only [go_sem,simprocAttr])|((first|refine V_region (by rw [hn];rfl) ?_|refine V_drawn hmix (by rw [hn];rfl) ?_);intro K hK)|((first|with_reducible refine evOps_n ?_|((with_reducible apply evOps_g);rfl)|with_reducible refine evOpsD_n ?_|((with_reducible apply evOpsD_g);rfl));intro K hK;simp (contextual:=true) only [go_sem,simprocAttr])|with_reducible refine evOps_nil ?_|((with_reducible refine evOpsD_nil ?_ ?_);kernel_rfl)|((with_reducible refine hK _ ?_);clear hK K)|(with_reducible first|refine And.intro ?_ ?_|refine nxt_n ?_|refine nxt_r ?_|refine nxt_e ?_|refine blk_n ?_|refine blk_r ?_|refine blk_same ?_|refine blk_other (by decide) ?_|refine noG_n ?_|refine noG_r ?_|refine noG_e ?_|refine inR_mk ?_ ?_)|(refine fun (hc : (_ : Bool) = _)=>?_;try simp only [hcS] at hc))
        all_goals try exact om_
        · refine ⟨⟨u + 1,by omega,(by (trivial))⟩,by simp only;omega,Imp.auto hX (by simp only [go_sem,simprocAttr,e3])⟩
    · have eu : u = g.ars.length:=by omega
      subst eu
      repeat' (first|(with_reducible first|refine V_seq ?_|refine V_block ?_|refine V_skip ?_|refine V_ret ?_|refine V_exit ?_)|((with_reducible refine V_cond ?_);simp only [go_sem,simprocAttr])|((first|refine V_region (by rw [hn];rfl) ?_|refine V_drawn hmix (by rw [hn];rfl) ?_);intro K hK)|((first|with_reducible refine evOps_n ?_|((with_reducible apply evOps_g);rfl)|with_reducible refine evOpsD_n ?_|((with_reducible apply evOpsD_g);rfl));intro K hK;simp (contextual:=true) only [go_sem,simprocAttr])|with_reducible refine evOps_nil ?_|((with_reducible refine evOpsD_nil ?_ ?_);kernel_rfl)|((with_reducible refine hK _ ?_);clear hK K)|(with_reducible first|refine And.intro ?_ ?_|refine nxt_n ?_|refine nxt_r ?_|refine nxt_e ?_|refine blk_n ?_|refine blk_r ?_|refine blk_same ?_|refine blk_other (by decide) ?_|refine noG_n ?_|refine noG_r ?_|refine noG_e ?_|refine inR_mk ?_ ?_)|((with_reducible refine evCall_at 63 ?_);refine EvCall.mk (hfu) cal_functor [(0,21),(1,22),(2,23),(3,24),(4,25),(5,26),(6,27),(7,28),(8,29),(9,30)] [18,14,15,16,17,2,19,20] (by simp [go_sem] <;> (repeat' (first|rfl|constructor))) (by simp [go_sem] <;> (repeat' (first|rfl|constructor))) ?_;all_goals try simp only [go_sem,simprocAttr])|(refine fun (hc : (_ : Bool) = _)=>?_;try simp only [hcS] at hc))
      all_goals try exact om_
      · (first|refine ret_auto ?_|refine ret_auto' ?_);simp only [go_sem,simprocAttr,Tryz.f39]
end Go.Eng
end
section
namespace Go.Eng
open Go Go.Proofs Go.Cats
attribute [local go_sem] List.set_cons_zero List.set_cons_succ unO_zero unP_zero
theorem cal_l08Uncurry : Callable Tryz.prog 87:=⟨_,Tryz.func87,rfl,rfl⟩
theorem sp_l08Uncurry_w {a b d : Cat} {L : List Fun} {g : Fun} (w : UnW a b d L g) (bd : CatB d) (hg : FunB g) : Spec Tryz.prog 87 [catV a,catV b,catV d,.agg [iv (fcK d L).ob,.bor [] (ints (fcK d L).fr),.bor [] (ints (fcK d L).to),.bor [] (ints (fcK d L).id),.bor [] (intss (fcK d L).co),.bor [] (funsD L),.bor [] (intss (fcA L))],funV g] [] (.agg [iv (⟨prC a b,d,unO L g.obs g.obs.length,unP (unE a b d L (fcA L) g.obs g.ars) b.fr.length g.ars.length 0⟩ : Fun).src.ob,.sl 0,.sl 1,.sl 2,.sl 3,iv (⟨prC a b,d,unO L g.obs g.obs.length,unP (unE a b d L (fcA L) g.obs g.ars) b.fr.length g.ars.length 0⟩ : Fun).tgt.ob,.sl 4,.sl 5,.sl 6,.sl 7,.sl 8,.sl 9]) [(0,⟨1,.arr (ints (⟨prC a b,d,unO L g.obs g.obs.length,unP (unE a b d L (fcA L) g.obs g.ars) b.fr.length g.ars.length 0⟩ : Fun).src.fr)⟩),(1,⟨1,.arr (ints (⟨prC a b,d,unO L g.obs g.obs.length,unP (unE a b d L (fcA L) g.obs g.ars) b.fr.length g.ars.length 0⟩ : Fun).src.to)⟩),(2,⟨1,.arr (ints (⟨prC a b,d,unO L g.obs g.obs.length,unP (unE a b d L (fcA L) g.obs g.ars) b.fr.length g.ars.length 0⟩ : Fun).src.id)⟩),(3,⟨1,.arr (intss (⟨prC a b,d,unO L g.obs g.obs.length,unP (unE a b d L (fcA L) g.obs g.ars) b.fr.length g.ars.length 0⟩ : Fun).src.co)⟩),(4,⟨1,.arr (ints (⟨prC a b,d,unO L g.obs g.obs.length,unP (unE a b d L (fcA L) g.obs g.ars) b.fr.length g.ars.length 0⟩ : Fun).tgt.fr)⟩),(5,⟨1,.arr (ints (⟨prC a b,d,unO L g.obs g.obs.length,unP (unE a b d L (fcA L) g.obs g.ars) b.fr.length g.ars.length 0⟩ : Fun).tgt.to)⟩),(6,⟨1,.arr (ints (⟨prC a b,d,unO L g.obs g.obs.length,unP (unE a b d L (fcA L) g.obs g.ars) b.fr.length g.ars.length 0⟩ : Fun).tgt.id)⟩),(7,⟨1,.arr (intss (⟨prC a b,d,unO L g.obs g.obs.length,unP (unE a b d L (fcA L) g.obs g.ars) b.fr.length g.ars.length 0⟩ : Fun).tgt.co)⟩),(8,⟨1,.arr (ints (⟨prC a b,d,unO L g.obs g.obs.length,unP (unE a b d L (fcA L) g.obs g.ars) b.fr.length g.ars.length 0⟩ : Fun).obs)⟩),(9,⟨1,.arr (ints (⟨prC a b,d,unO L g.obs g.obs.length,unP (unE a b d L (fcA L) g.obs g.ars) b.fr.length g.ars.length 0⟩ : Fun).ars)⟩)]:=by
  have hbp:=prC_b w.sa.toShape w.sb.toShape
  have ol:=w.ol
  have al:=w.al
  have a0:=w.sa.toShape.ob0
  have a8:=w.sa.toShape.ob8
  have a40:=w.sa.toShape.m40
  have b40:=w.sb.toShape.m40
  have b8:=w.sb.toShape.ob8
  have btl:=w.sb.toShape.tol
  have dcl:=w.sd.toShape.col
  have d40:=w.sd.toShape.m40
  have l8:=w.l8
  have lA:=w.a40
  have hpart : ∀ i,i < L.length → (funsD L).part (i * 12) 12 = [.v (.int .i64 (L.getD i default).src.ob),ints (L.getD i default).src.fr,ints (L.getD i default).src.to,ints (L.getD i default).src.id,intss (L.getD i default).src.co,.v (.int .i64 (L.getD i default).tgt.ob),ints (L.getD i default).tgt.fr,ints (L.getD i default).tgt.to,ints (L.getD i default).tgt.id,intss (L.getD i default).tgt.co,ints (L.getD i default).obs,ints (L.getD i default).ars]:=fun i hi=>funs_part L i hi
  have hpr:=sp_l03Product w.sa.toShape w.sb.toShape
  have hfu:=sp_l06Make (c:=prC a b) (d:=d) (p:=unO L g.obs g.obs.length) (q:=unP (unE a b d L (fcA L) g.obs g.ars) b.fr.length g.ars.length 0) hbp bd (by have:=un_len w (Nat.le_refl g.obs.length);omega) (by have:=un_len2 w (e:=unE a b d L (fcA L) g.obs g.ars) (u:=g.ars.length) (v:=0) (by rw [w.al];exact Nat.le_refl _) (Nat.zero_le _);omega)
  refine spec_of_V (E:=TE) 0 Tryz.func87 rfl (by simp [Tryz.f87]) fun X hn hX=>?_
  repeat' (first|(with_reducible first|refine V_seq ?_|refine V_block ?_|refine V_skip ?_|refine V_ret ?_|refine V_exit ?_)|((with_reducible refine V_cond ?_);simp only [go_sem,simprocAttr])|((first|refine V_region (by rw [hn];rfl) ?_|refine V_drawn hmix (by rw [hn];rfl) ?_);intro K hK)|((first|with_reducible refine evOps_n ?_|((with_reducible apply evOps_g);rfl)|with_reducible refine evOpsD_n ?_|((with_reducible apply evOpsD_g);rfl));intro K hK;simp (contextual:=true) only [go_sem,simprocAttr])|with_reducible refine evOps_nil ?_|((with_reducible refine evOpsD_nil ?_ ?_);kernel_rfl)|((with_reducible refine hK _ ?_);clear hK K)|(with_reducible first|refine And.intro ?_ ?_|refine nxt_n ?_|refine nxt_r ?_|refine nxt_e ?_|refine blk_n ?_|refine blk_r ?_|refine blk_same ?_|refine blk_other (by decide) ?_|refine noG_n ?_|refine noG_r ?_|refine noG_e ?_|refine inR_mk ?_ ?_)|(refine fun (hc : (_ : Bool) = _)=>?_;try simp only [hcS] at hc))
  all_goals try exact om_
  refine V_loopK (G:={i : Nat // i ≤ g.obs.length ∧ (True)}) (fun ⟨i,_⟩=>[(13,iv i),(5,.ptr 0 0),(6,.ptr 1 0),(7,.ptr 2 0),(8,.ptr 3 0),(9,.ptr 4 0),(10,.ptr 5 0),(11,.sl 6),(12,.sl 7)]) [] (fun ⟨i,_⟩=>[(6,⟨1,.arr (ints (unO L g.obs i))⟩),(7,⟨1,.arr (ints [])⟩)]) [6,7] (fun zz=>g.obs.length - zz.1) ⟨0,Nat.zero_le _,by first|trivial|simp⟩ ?_ ?_
  · exact Imp.au hX
  rintro ⟨i,hii,hwi⟩
  simp only [go_sem,simprocAttr]
  have hul:=un_len w (k:=i) (by omega)
  rcases Nat.lt_or_ge i g.obs.length with hli | hgi
  · have hob:=w.ob hli
    have hpt:=hpart _ hob.2
    have e1:=unO_succ (L:=L) hli
    have hul2:=un_len w (k:=i + 1) (by omega)
    rw [e1,List.length_append] at hul2
    repeat' (first|(rw [hpt];simp only [go_sem,simprocAttr])|(with_reducible first|refine V_seq ?_|refine V_block ?_|refine V_skip ?_|refine V_ret ?_|refine V_exit ?_)|((with_reducible refine V_cond ?_);simp only [go_sem,simprocAttr])|((first|refine V_region (by rw [hn];rfl) ?_|refine V_drawn hmix (by rw [hn];rfl) ?_);intro K hK)|((first|with_reducible refine evOps_n ?_|((with_reducible apply evOps_g);rfl)|with_reducible refine evOpsD_n ?_|((with_reducible apply evOpsD_g);rfl));intro K hK;simp (contextual:=true) only [go_sem,simprocAttr])|with_reducible refine evOps_nil ?_|((with_reducible refine evOpsD_nil ?_ ?_);kernel_rfl)|((with_reducible refine hK _ ?_);clear hK K)|(with_reducible first|refine And.intro ?_ ?_|refine nxt_n ?_|refine nxt_r ?_|refine nxt_e ?_|refine blk_n ?_|refine blk_r ?_|refine blk_same ?_|refine blk_other (by decide) ?_|refine noG_n ?_|refine noG_r ?_|refine noG_e ?_|refine inR_mk ?_ ?_)|(refine fun (hc : (_ : Bool) = _)=>?_;try simp only [hcS] at hc))
    all_goals try exact om_
    · refine ⟨⟨i + 1,by omega,(by trivial)⟩,by simp only;omega,Imp.auto hX (by simp only [go_sem,simprocAttr,e1])⟩
  · have ei : i = g.obs.length:=by omega
    subst ei
    repeat' (first|(with_reducible first|refine V_seq ?_|refine V_block ?_|refine V_skip ?_|refine V_ret ?_|refine V_exit ?_)|((with_reducible refine V_cond ?_);simp only [go_sem,simprocAttr])|((first|refine V_region (by rw [hn];rfl) ?_|refine V_drawn hmix (by rw [hn];rfl) ?_);intro K hK)|((first|with_reducible refine evOps_n ?_|((with_reducible apply evOps_g);rfl)|with_reducible refine evOpsD_n ?_|((with_reducible apply evOpsD_g);rfl));intro K hK;simp (contextual:=true) only [go_sem,simprocAttr])|with_reducible refine evOps_nil ?_|((with_reducible refine evOpsD_nil ?_ ?_);kernel_rfl)|((with_reducible refine hK _ ?_);clear hK K)|(with_reducible first|refine And.intro ?_ ?_|refine nxt_n ?_|refine nxt_r ?_|refine nxt_e ?_|refine blk_n ?_|refine blk_r ?_|refine blk_same ?_|refine blk_other (by decide) ?_|refine noG_n ?_|refine noG_r ?_|refine noG_e ?_|refine inR_mk ?_ ?_)|(refine fun (hc : (_ : Bool) = _)=>?_;try simp only [hcS] at hc))
    all_goals try exact om_
    refine V_loopK (G:={u : Nat // u ≤ g.ars.length ∧ (True)}) (fun ⟨u,_⟩=>[(14,iv u),(5,.ptr 0 0),(6,.ptr 1 0),(7,.ptr 2 0),(8,.ptr 3 0),(9,.ptr 4 0),(10,.ptr 5 0),(11,.sl 6),(12,.sl 7)]) [] (fun ⟨u,_⟩=>[(6,⟨1,.arr (ints (unO L g.obs g.obs.length))⟩),(7,⟨1,.arr (ints (unP (unE a b d L (fcA L) g.obs g.ars) b.fr.length u 0))⟩)]) [6,7] (fun zz=>g.ars.length - zz.1) ⟨0,Nat.zero_le _,by first|trivial|simp⟩ ?_ ?_
    · exact Imp.au hX
    rintro ⟨u,hiu,hwu⟩
    simp only [go_sem,simprocAttr]
    rcases Nat.lt_or_ge u g.ars.length with hlu | hgu
    · have har:=w.ar hlu
      have hta:=w.at (u:=u) (by omega)
      have htl:=hta.1.len
      have hen:=w.ends (u:=u) (by omega)
      have j0:=hta.1.j0
      have j1:=hta.1.j1
      repeat' (first|(with_reducible first|refine V_seq ?_|refine V_block ?_|refine V_skip ?_|refine V_ret ?_|refine V_exit ?_)|((with_reducible refine V_cond ?_);simp only [go_sem,simprocAttr])|((first|refine V_region (by rw [hn];rfl) ?_|refine V_drawn hmix (by rw [hn];rfl) ?_);intro K hK)|((first|with_reducible refine evOps_n ?_|((with_reducible apply evOps_g);rfl)|with_reducible refine evOpsD_n ?_|((with_reducible apply evOpsD_g);rfl));intro K hK;simp (contextual:=true) only [go_sem,simprocAttr])|with_reducible refine evOps_nil ?_|((with_reducible refine evOpsD_nil ?_ ?_);kernel_rfl)|((with_reducible refine hK _ ?_);clear hK K)|(with_reducible first|refine And.intro ?_ ?_|refine nxt_n ?_|refine nxt_r ?_|refine nxt_e ?_|refine blk_n ?_|refine blk_r ?_|refine blk_same ?_|refine blk_other (by decide) ?_|refine noG_n ?_|refine noG_r ?_|refine noG_e ?_|refine inR_mk ?_ ?_)|(refine fun (hc : (_ : Bool) = _)=>?_;try simp only [hcS] at hc))
      all_goals try exact om_
      refine V_loopK (G:={v : Nat // v ≤ b.fr.length ∧ (True)}) (fun ⟨v,_⟩=>[(16,iv v),(14,iv u),(15,.bor [] (ints ((fcA L).getD (g.ars.getD u 0).toNat []))),(5,.ptr 0 0),(6,.ptr 1 0),(7,.ptr 2 0),(8,.ptr 3 0),(9,.ptr 4 0),(10,.ptr 5 0),(11,.sl 6),(12,.sl 7)]) [] (fun ⟨v,_⟩=>[(6,⟨1,.arr (ints (unO L g.obs g.obs.length))⟩),(7,⟨1,.arr (ints (unP (unE a b d L (fcA L) g.obs g.ars) b.fr.length u v))⟩)]) [6,7] (fun zz=>b.fr.length - zz.1) ⟨0,Nat.zero_le _,by first|trivial|simp⟩ ?_ ?_
      · exact Imp.au hX
      rintro ⟨v,hiv,hwv⟩
      simp only [go_sem,simprocAttr]
      have hpv:=un_len2 w (e:=unE a b d L (fcA L) g.obs g.ars) (u:=u) (v:=v) (by omega) (by omega)
      rcases Nat.lt_or_ge v b.fr.length with hlv | hgv
      · have f2:=w.sb.toShape.frw v (by omega)
        have hpt:=hpart _ j1
        obtain ⟨q1,q2,q3⟩:=w.in1 j1 hlv
        obtain ⟨p1,p2,p3⟩:=w.in2 (u:=u) (by omega) f2.1 f2.2
        have r1:=rows_len w.sd.toShape p2 p3
        have hnat:=w.nat (u:=u) (v:=v) (by omega) hlv
        have e2 : unP (unE a b d L (fcA L) g.obs g.ars) b.fr.length u (v + 1) = unP (unE a b d L (fcA L) g.obs g.ars) b.fr.length u v ++ [(d.co.getD (((fcA L).getD (g.ars.getD u 0).toNat []).getD (2 + b.fr.getD v 0).toNat 0).toNat []).getD ((L.getD (((fcA L).getD (g.ars.getD u 0).toNat []).getD 1 0).toNat default).ars.getD v 0).toNat 0]:=by
          rw [unP_succ,← hnat]
        repeat' (first|(rw [hpt];simp only [go_sem,simprocAttr])|(with_reducible first|refine V_seq ?_|refine V_block ?_|refine V_skip ?_|refine V_ret ?_|refine V_exit ?_)|((with_reducible refine V_cond ?_);simp only [go_sem,simprocAttr])|((first|refine V_region (by rw [hn];rfl) ?_|refine V_drawn hmix (by rw [hn];rfl) ?_);intro K hK)|((first|with_reducible refine evOps_n ?_|((with_reducible apply evOps_g);rfl)|with_reducible refine evOpsD_n ?_|((with_reducible apply evOpsD_g);rfl));intro K hK;simp (contextual:=true) only [go_sem,simprocAttr])|with_reducible refine evOps_nil ?_|((with_reducible refine evOpsD_nil ?_ ?_);kernel_rfl)|((with_reducible refine hK _ ?_);clear hK K)|(with_reducible first|refine And.intro ?_ ?_|refine nxt_n ?_|refine nxt_r ?_|refine nxt_e ?_|refine blk_n ?_|refine blk_r ?_|refine blk_same ?_|refine blk_other (by decide) ?_|refine noG_n ?_|refine noG_r ?_|refine noG_e ?_|refine inR_mk ?_ ?_)|(refine fun (hc : (_ : Bool) = _)=>?_;try simp only [hcS] at hc))
        all_goals try exact om_
        · refine ⟨⟨v + 1,by omega,(by trivial)⟩,by simp only;omega,Imp.auto hX (by simp only [go_sem,simprocAttr,e2])⟩
      · have ev : v = b.fr.length:=by omega
        subst ev
        have e3:=unP_next (e:=unE a b d L (fcA L) g.obs g.ars) (m:=b.fr.length) (u:=u)
        repeat' (first|(with_reducible first|refine V_seq ?_|refine V_block ?_|refine V_skip ?_|refine V_ret ?_|refine V_exit ?_)|((with_reducible refine V_cond ?_);simp only [go_sem,simprocAttr])|((first|refine V_region (by rw [hn];rfl) ?_|refine V_drawn hmix (by rw [hn];rfl) ?_);intro K hK)|((first|with_reducible refine evOps_n ?_|((with_reducible apply evOps_g);rfl)|with_reducible refine evOpsD_n ?_|((with_reducible apply evOpsD_g);rfl));intro K hK;simp (contextual:=true) only [go_sem,simprocAttr])|with_reducible refine evOps_nil ?_|((with_reducible refine evOpsD_nil ?_ ?_);kernel_rfl)|((with_reducible refine hK _ ?_);clear hK K)|(with_reducible first|refine And.intro ?_ ?_|refine nxt_n ?_|refine nxt_r ?_|refine nxt_e ?_|refine blk_n ?_|refine blk_r ?_|refine blk_same ?_|refine blk_other (by decide) ?_|refine noG_n ?_|refine noG_r ?_|refine noG_e ?_|refine inR_mk ?_ ?_)|(refine fun (hc : (_ : Bool) = _)=>?_;try simp only [hcS] at hc))
        all_goals try exact om_
        · refine ⟨⟨u + 1,by omega,(by (trivial))⟩,by simp only;omega,Imp.auto hX (by simp only [go_sem,simprocAttr,e3])⟩
    · have eu : u = g.ars.length:=by omega
      subst eu
      repeat' (first|(with_reducible first|refine V_seq ?_|refine V_block ?_|refine V_skip ?_|refine V_ret ?_|refine V_exit ?_)|((with_reducible refine V_cond ?_);simp only [go_sem,simprocAttr])|((first|refine V_region (by rw [hn];rfl) ?_|refine V_drawn hmix (by rw [hn];rfl) ?_);intro K hK)|((first|with_reducible refine evOps_n ?_|((with_reducible apply evOps_g);rfl)|with_reducible refine evOpsD_n ?_|((with_reducible apply evOpsD_g);rfl));intro K hK;simp (contextual:=true) only [go_sem,simprocAttr])|with_reducible refine evOps_nil ?_|((with_reducible refine evOpsD_nil ?_ ?_);kernel_rfl)|((with_reducible refine hK _ ?_);clear hK K)|(with_reducible first|refine And.intro ?_ ?_|refine nxt_n ?_|refine nxt_r ?_|refine nxt_e ?_|refine blk_n ?_|refine blk_r ?_|refine blk_same ?_|refine blk_other (by decide) ?_|refine noG_n ?_|refine noG_r ?_|refine noG_e ?_|refine inR_mk ?_ ?_)|((with_reducible refine evCall_at 86 ?_);refine EvCall.mk (hpr) cal_l03Product [(0,8),(1,9),(2,10),(3,11)] [] (by simp [go_sem] <;> (repeat' (first|rfl|constructor))) (by simp [go_sem] <;> (repeat' (first|rfl|constructor))) ?_;all_goals try simp only [go_sem,simprocAttr])|((with_reducible refine evCall_at 61 ?_);refine EvCall.mk (hfu) cal_l06Make [(0,12),(1,13),(2,14),(3,15),(4,16),(5,17),(6,18),(7,19),(8,20),(9,21)] [8,9,10,11,6,7] (by simp [go_sem] <;> (repeat' (first|rfl|constructor))) (by simp [go_sem] <;> (repeat' (first|rfl|constructor))) ?_;all_goals try simp only [go_sem,simprocAttr])|(refine fun (hc : (_ : Bool) = _)=>?_;try simp only [hcS] at hc))
      all_goals try exact om_
      · (first|refine ret_auto ?_|refine ret_auto' ?_);simp only [go_sem,simprocAttr,Tryz.f87]
theorem cal_spec_UncurryFunctor : Callable Tryz.prog 38:=⟨_,Tryz.func38,rfl,rfl⟩
theorem prS_iff {a b : Cat} (sa : Shape a) (sb : Shape b) : ((prC a b).ob ≤ 8 ∧ (prC a b).fr.length ≤ 40) ↔ PrS a b:=by
  have e : (prC a b).fr.length = a.fr.length * b.fr.length:=pq_len
  unfold PrS
  rw [e]
  exact Iff.rfl
theorem sp_spec_UncurryFunctor_bad {a b d : Cat} {g : Fun} (ha : CatB a) (hb : CatB b) (hd : CatB d) (hg : FunB g) (h : ¬ UnB a b d g) : Spec Tryz.prog 38 [catV a,catV b,catV d,funV g] [] (.tup [.agg [iv 0,.v (.slice none 0 0),.v (.slice none 0 0),.v (.slice none 0 0),.v (.slice none 0 0),iv 0,.v (.slice none 0 0),.v (.slice none 0 0),.v (.slice none 0 0),.v (.slice none 0 0),.v (.slice none 0 0),.v (.slice none 0 0)],iv 1]) []:=by
  by_cases h1 : IsCat a
  · have v1:=sp_l02Is_v ha (dec_t h1)
    by_cases h2 : IsCat b
    · have v2:=sp_l02Is_v hb (dec_t h2)
      by_cases h3 : IsCat d
      · have v3:=sp_l02Is_v hd (dec_t h3)
        have h4 : ¬ IsFun g:=fun q=>h ⟨⟨h1,h2,h3⟩,q⟩
        have v4:=sp_l06Is_v hg (dec_f h4)
        refine spec_of_V (E:=TE) 0 Tryz.func38 rfl (by simp [Tryz.f38]) fun X hn hX=>?_
        repeat' (first|(with_reducible first|refine V_seq ?_|refine V_block ?_|refine V_skip ?_|refine V_ret ?_|refine V_exit ?_)|((with_reducible refine V_cond ?_);simp only [go_sem,simprocAttr])|((refine V_region (by rw [hn];rfl) ?_);intro K hK)|((first|with_reducible refine evOps_n ?_|((with_reducible apply evOps_g);rfl));intro K hK;simp (contextual:=true) only [go_sem,simprocAttr])|with_reducible refine evOps_nil ?_|((with_reducible refine hK _ ?_);clear hK K)|(with_reducible first|refine And.intro ?_ ?_|refine nxt_n ?_|refine nxt_r ?_|refine nxt_e ?_|refine blk_n ?_|refine blk_r ?_|refine blk_same ?_|refine blk_other (by decide) ?_|refine noG_n ?_|refine noG_r ?_|refine noG_e ?_|refine inR_mk ?_ ?_)|((with_reducible refine (id ?_ : EvCall _ _ [.agg [iv a.ob,.bor [] (ints a.fr),.bor [] (ints a.to),.bor [] (ints a.id),.bor [] (intss a.co)]] _ _));refine EvCall.mk (v1) cal_l02Is [] [] (by simp [go_sem] <;> (repeat' (first|rfl|constructor))) (by simp [go_sem] <;> (repeat' (first|rfl|constructor))) ?_;all_goals try simp only [go_sem,simprocAttr])|((with_reducible refine (id ?_ : EvCall _ _ [.agg [iv b.ob,.bor [] (ints b.fr),.bor [] (ints b.to),.bor [] (ints b.id),.bor [] (intss b.co)]] _ _));refine EvCall.mk (v2) cal_l02Is [] [] (by simp [go_sem] <;> (repeat' (first|rfl|constructor))) (by simp [go_sem] <;> (repeat' (first|rfl|constructor))) ?_;all_goals try simp only [go_sem,simprocAttr])|((with_reducible refine (id ?_ : EvCall _ _ [.agg [iv d.ob,.bor [] (ints d.fr),.bor [] (ints d.to),.bor [] (ints d.id),.bor [] (intss d.co)]] _ _));refine EvCall.mk (v3) cal_l02Is [] [] (by simp [go_sem] <;> (repeat' (first|rfl|constructor))) (by simp [go_sem] <;> (repeat' (first|rfl|constructor))) ?_;all_goals try simp only [go_sem,simprocAttr])|((with_reducible refine evCall_at 71 ?_);refine EvCall.mk (v4) cal_l06Is [] [] (by simp [go_sem] <;> (repeat' (first|rfl|constructor))) (by simp [go_sem] <;> (repeat' (first|rfl|constructor))) ?_;all_goals try simp only [go_sem,simprocAttr])|(refine fun (hc : (_ : Bool) = _)=>?_;try simp only [hcS] at hc))
        all_goals try exact om_
        all_goals ((first|refine ret_auto ?_|refine ret_auto' ?_);simp only [go_sem,simprocAttr,Tryz.f38])
      · have v3:=sp_l02Is_v hd (dec_f h3)
        refine spec_of_V (E:=TE) 0 Tryz.func38 rfl (by simp [Tryz.f38]) fun X hn hX=>?_
        repeat' (first|(with_reducible first|refine V_seq ?_|refine V_block ?_|refine V_skip ?_|refine V_ret ?_|refine V_exit ?_)|((with_reducible refine V_cond ?_);simp only [go_sem,simprocAttr])|((refine V_region (by rw [hn];rfl) ?_);intro K hK)|((first|with_reducible refine evOps_n ?_|((with_reducible apply evOps_g);rfl));intro K hK;simp (contextual:=true) only [go_sem,simprocAttr])|with_reducible refine evOps_nil ?_|((with_reducible refine hK _ ?_);clear hK K)|(with_reducible first|refine And.intro ?_ ?_|refine nxt_n ?_|refine nxt_r ?_|refine nxt_e ?_|refine blk_n ?_|refine blk_r ?_|refine blk_same ?_|refine blk_other (by decide) ?_|refine noG_n ?_|refine noG_r ?_|refine noG_e ?_|refine inR_mk ?_ ?_)|((with_reducible refine (id ?_ : EvCall _ _ [.agg [iv a.ob,.bor [] (ints a.fr),.bor [] (ints a.to),.bor [] (ints a.id),.bor [] (intss a.co)]] _ _));refine EvCall.mk (v1) cal_l02Is [] [] (by simp [go_sem] <;> (repeat' (first|rfl|constructor))) (by simp [go_sem] <;> (repeat' (first|rfl|constructor))) ?_;all_goals try simp only [go_sem,simprocAttr])|((with_reducible refine (id ?_ : EvCall _ _ [.agg [iv b.ob,.bor [] (ints b.fr),.bor [] (ints b.to),.bor [] (ints b.id),.bor [] (intss b.co)]] _ _));refine EvCall.mk (v2) cal_l02Is [] [] (by simp [go_sem] <;> (repeat' (first|rfl|constructor))) (by simp [go_sem] <;> (repeat' (first|rfl|constructor))) ?_;all_goals try simp only [go_sem,simprocAttr])|((with_reducible refine (id ?_ : EvCall _ _ [.agg [iv d.ob,.bor [] (ints d.fr),.bor [] (ints d.to),.bor [] (ints d.id),.bor [] (intss d.co)]] _ _));refine EvCall.mk (v3) cal_l02Is [] [] (by simp [go_sem] <;> (repeat' (first|rfl|constructor))) (by simp [go_sem] <;> (repeat' (first|rfl|constructor))) ?_;all_goals try simp only [go_sem,simprocAttr])|(refine fun (hc : (_ : Bool) = _)=>?_;try simp only [hcS] at hc))
        all_goals try exact om_
        all_goals ((first|refine ret_auto ?_|refine ret_auto' ?_);simp only [go_sem,simprocAttr,Tryz.f38])
    · have v2:=sp_l02Is_v hb (dec_f h2)
      refine spec_of_V (E:=TE) 0 Tryz.func38 rfl (by simp [Tryz.f38]) fun X hn hX=>?_
      repeat' (first|(with_reducible first|refine V_seq ?_|refine V_block ?_|refine V_skip ?_|refine V_ret ?_|refine V_exit ?_)|((with_reducible refine V_cond ?_);simp only [go_sem,simprocAttr])|((refine V_region (by rw [hn];rfl) ?_);intro K hK)|((first|with_reducible refine evOps_n ?_|((with_reducible apply evOps_g);rfl));intro K hK;simp (contextual:=true) only [go_sem,simprocAttr])|with_reducible refine evOps_nil ?_|((with_reducible refine hK _ ?_);clear hK K)|(with_reducible first|refine And.intro ?_ ?_|refine nxt_n ?_|refine nxt_r ?_|refine nxt_e ?_|refine blk_n ?_|refine blk_r ?_|refine blk_same ?_|refine blk_other (by decide) ?_|refine noG_n ?_|refine noG_r ?_|refine noG_e ?_|refine inR_mk ?_ ?_)|((with_reducible refine (id ?_ : EvCall _ _ [.agg [iv a.ob,.bor [] (ints a.fr),.bor [] (ints a.to),.bor [] (ints a.id),.bor [] (intss a.co)]] _ _));refine EvCall.mk (v1) cal_l02Is [] [] (by simp [go_sem] <;> (repeat' (first|rfl|constructor))) (by simp [go_sem] <;> (repeat' (first|rfl|constructor))) ?_;all_goals try simp only [go_sem,simprocAttr])|((with_reducible refine (id ?_ : EvCall _ _ [.agg [iv b.ob,.bor [] (ints b.fr),.bor [] (ints b.to),.bor [] (ints b.id),.bor [] (intss b.co)]] _ _));refine EvCall.mk (v2) cal_l02Is [] [] (by simp [go_sem] <;> (repeat' (first|rfl|constructor))) (by simp [go_sem] <;> (repeat' (first|rfl|constructor))) ?_;all_goals try simp only [go_sem,simprocAttr])|(refine fun (hc : (_ : Bool) = _)=>?_;try simp only [hcS] at hc))
      all_goals try exact om_
      all_goals ((first|refine ret_auto ?_|refine ret_auto' ?_);simp only [go_sem,simprocAttr,Tryz.f38])
  · have v1:=sp_l02Is_v ha (dec_f h1)
    refine spec_of_V (E:=TE) 0 Tryz.func38 rfl (by simp [Tryz.f38]) fun X hn hX=>?_
    repeat' (first|(with_reducible first|refine V_seq ?_|refine V_block ?_|refine V_skip ?_|refine V_ret ?_|refine V_exit ?_)|((with_reducible refine V_cond ?_);simp only [go_sem,simprocAttr])|((refine V_region (by rw [hn];rfl) ?_);intro K hK)|((first|with_reducible refine evOps_n ?_|((with_reducible apply evOps_g);rfl));intro K hK;simp (contextual:=true) only [go_sem,simprocAttr])|with_reducible refine evOps_nil ?_|((with_reducible refine hK _ ?_);clear hK K)|(with_reducible first|refine And.intro ?_ ?_|refine nxt_n ?_|refine nxt_r ?_|refine nxt_e ?_|refine blk_n ?_|refine blk_r ?_|refine blk_same ?_|refine blk_other (by decide) ?_|refine noG_n ?_|refine noG_r ?_|refine noG_e ?_|refine inR_mk ?_ ?_)|((with_reducible refine (id ?_ : EvCall _ _ [.agg [iv a.ob,.bor [] (ints a.fr),.bor [] (ints a.to),.bor [] (ints a.id),.bor [] (intss a.co)]] _ _));refine EvCall.mk (v1) cal_l02Is [] [] (by simp [go_sem] <;> (repeat' (first|rfl|constructor))) (by simp [go_sem] <;> (repeat' (first|rfl|constructor))) ?_;all_goals try simp only [go_sem,simprocAttr])|(refine fun (hc : (_ : Bool) = _)=>?_;try simp only [hcS] at hc))
    all_goals try exact om_
    all_goals ((first|refine ret_auto ?_|refine ret_auto' ?_);simp only [go_sem,simprocAttr,Tryz.f38])
theorem sp_spec_UncurryFunctor_st {a b d : Cat} {g : Fun} (ha : CatB a) (hb : CatB b) (hd : CatB d) (hg : FunB g) (h : UnB a b d g) (h1 : ¬ a = g.src) : Spec Tryz.prog 38 [catV a,catV b,catV d,funV g] [] (.tup [.agg [iv 0,.v (.slice none 0 0),.v (.slice none 0 0),.v (.slice none 0 0),.v (.slice none 0 0),iv 0,.v (.slice none 0 0),.v (.slice none 0 0),.v (.slice none 0 0),.v (.slice none 0 0),.v (.slice none 0 0),.v (.slice none 0 0)],iv 5]) []:=by
  have v1:=sp_l02Is_v ha (dec_t h.1.1)
  have v2:=sp_l02Is_v hb (dec_t h.1.2.1)
  have v3:=sp_l02Is_v hd (dec_t h.1.2.2)
  have v4:=sp_l06Is_v hg (dec_t h.2)
  have s1:=sp_l02Same hg.src ha
  rw [dec_f fun q=>h1 q.symm] at s1
  refine spec_of_V (E:=TE) 0 Tryz.func38 rfl (by simp [Tryz.f38]) fun X hn hX=>?_
  repeat' (first|(with_reducible first|refine V_seq ?_|refine V_block ?_|refine V_skip ?_|refine V_ret ?_|refine V_exit ?_)|((with_reducible refine V_cond ?_);simp only [go_sem,simprocAttr])|((refine V_region (by rw [hn];rfl) ?_);intro K hK)|((first|with_reducible refine evOps_n ?_|((with_reducible apply evOps_g);rfl));intro K hK;simp (contextual:=true) only [go_sem,simprocAttr])|with_reducible refine evOps_nil ?_|((with_reducible refine hK _ ?_);clear hK K)|(with_reducible first|refine And.intro ?_ ?_|refine nxt_n ?_|refine nxt_r ?_|refine nxt_e ?_|refine blk_n ?_|refine blk_r ?_|refine blk_same ?_|refine blk_other (by decide) ?_|refine noG_n ?_|refine noG_r ?_|refine noG_e ?_|refine inR_mk ?_ ?_)|((with_reducible refine (id ?_ : EvCall _ _ [.agg [iv a.ob,.bor [] (ints a.fr),.bor [] (ints a.to),.bor [] (ints a.id),.bor [] (intss a.co)]] _ _));refine EvCall.mk (v1) cal_l02Is [] [] (by simp [go_sem] <;> (repeat' (first|rfl|constructor))) (by simp [go_sem] <;> (repeat' (first|rfl|constructor))) ?_;all_goals try simp only [go_sem,simprocAttr])|((with_reducible refine (id ?_ : EvCall _ _ [.agg [iv b.ob,.bor [] (ints b.fr),.bor [] (ints b.to),.bor [] (ints b.id),.bor [] (intss b.co)]] _ _));refine EvCall.mk (v2) cal_l02Is [] [] (by simp [go_sem] <;> (repeat' (first|rfl|constructor))) (by simp [go_sem] <;> (repeat' (first|rfl|constructor))) ?_;all_goals try simp only [go_sem,simprocAttr])|((with_reducible refine (id ?_ : EvCall _ _ [.agg [iv d.ob,.bor [] (ints d.fr),.bor [] (ints d.to),.bor [] (ints d.id),.bor [] (intss d.co)]] _ _));refine EvCall.mk (v3) cal_l02Is [] [] (by simp [go_sem] <;> (repeat' (first|rfl|constructor))) (by simp [go_sem] <;> (repeat' (first|rfl|constructor))) ?_;all_goals try simp only [go_sem,simprocAttr])|((with_reducible refine evCall_at 71 ?_);refine EvCall.mk (v4) cal_l06Is [] [] (by simp [go_sem] <;> (repeat' (first|rfl|constructor))) (by simp [go_sem] <;> (repeat' (first|rfl|constructor))) ?_;all_goals try simp only [go_sem,simprocAttr])|((with_reducible refine evCall_at 84 ?_);refine EvCall.mk (s1) cal_l02Same [] [] (by simp [go_sem] <;> (repeat' (first|rfl|constructor))) (by simp [go_sem] <;> (repeat' (first|rfl|constructor))) ?_;all_goals try simp only [go_sem,simprocAttr])|(refine fun (hc : (_ : Bool) = _)=>?_;try simp only [hcS] at hc))
  all_goals try exact om_
  all_goals ((first|refine ret_auto ?_|refine ret_auto' ?_);simp only [go_sem,simprocAttr,Tryz.f38])
theorem sp_spec_UncurryFunctor_lim {a b d : Cat} {g : Fun} (ha : CatB a) (hb : CatB b) (hd : CatB d) (hg : FunB g) (h : UnB a b d g) (h1 : a = g.src) (h2 : ¬ FcY b d) : Spec Tryz.prog 38 [catV a,catV b,catV d,funV g] [] (.tup [.agg [iv 0,.v (.slice none 0 0),.v (.slice none 0 0),.v (.slice none 0 0),.v (.slice none 0 0),iv 0,.v (.slice none 0 0),.v (.slice none 0 0),.v (.slice none 0 0),.v (.slice none 0 0),.v (.slice none 0 0),.v (.slice none 0 0)],iv 3]) []:=by
  have v1:=sp_l02Is_v ha (dec_t h.1.1)
  have v2:=sp_l02Is_v hb (dec_t h.1.2.1)
  have v3:=sp_l02Is_v hd (dec_t h.1.2.2)
  have v4:=sp_l06Is_v hg (dec_t h.2)
  have s1:=sp_l02Same hg.src ha
  rw [dec_t h1.symm] at s1
  have hm:=sp_l08Make_o h.1.2.1 h.1.2.2 hb hd (.inr ⟨h2,rfl,rfl⟩)
  refine spec_of_V (E:=TE) 0 Tryz.func38 rfl (by simp [Tryz.f38]) fun X hn hX=>?_
  repeat' (first|(with_reducible first|refine V_seq ?_|refine V_block ?_|refine V_skip ?_|refine V_ret ?_|refine V_exit ?_)|((with_reducible refine V_cond ?_);simp only [go_sem,simprocAttr])|((refine V_region (by rw [hn];rfl) ?_);intro K hK)|((first|with_reducible refine evOps_n ?_|((with_reducible apply evOps_g);rfl));intro K hK;simp (contextual:=true) only [go_sem,simprocAttr])|with_reducible refine evOps_nil ?_|((with_reducible refine hK _ ?_);clear hK K)|(with_reducible first|refine And.intro ?_ ?_|refine nxt_n ?_|refine nxt_r ?_|refine nxt_e ?_|refine blk_n ?_|refine blk_r ?_|refine blk_same ?_|refine blk_other (by decide) ?_|refine noG_n ?_|refine noG_r ?_|refine noG_e ?_|refine inR_mk ?_ ?_)|((with_reducible refine (id ?_ : EvCall _ _ [.agg [iv a.ob,.bor [] (ints a.fr),.bor [] (ints a.to),.bor [] (ints a.id),.bor [] (intss a.co)]] _ _));refine EvCall.mk (v1) cal_l02Is [] [] (by simp [go_sem] <;> (repeat' (first|rfl|constructor))) (by simp [go_sem] <;> (repeat' (first|rfl|constructor))) ?_;all_goals try simp only [go_sem,simprocAttr])|((with_reducible refine (id ?_ : EvCall _ _ [.agg [iv b.ob,.bor [] (ints b.fr),.bor [] (ints b.to),.bor [] (ints b.id),.bor [] (intss b.co)]] _ _));refine EvCall.mk (v2) cal_l02Is [] [] (by simp [go_sem] <;> (repeat' (first|rfl|constructor))) (by simp [go_sem] <;> (repeat' (first|rfl|constructor))) ?_;all_goals try simp only [go_sem,simprocAttr])|((with_reducible refine (id ?_ : EvCall _ _ [.agg [iv d.ob,.bor [] (ints d.fr),.bor [] (ints d.to),.bor [] (ints d.id),.bor [] (intss d.co)]] _ _));refine EvCall.mk (v3) cal_l02Is [] [] (by simp [go_sem] <;> (repeat' (first|rfl|constructor))) (by simp [go_sem] <;> (repeat' (first|rfl|constructor))) ?_;all_goals try simp only [go_sem,simprocAttr])|((with_reducible refine evCall_at 71 ?_);refine EvCall.mk (v4) cal_l06Is [] [] (by simp [go_sem] <;> (repeat' (first|rfl|constructor))) (by simp [go_sem] <;> (repeat' (first|rfl|constructor))) ?_;all_goals try simp only [go_sem,simprocAttr])|((with_reducible refine evCall_at 84 ?_);refine EvCall.mk (s1) cal_l02Same [] [] (by simp [go_sem] <;> (repeat' (first|rfl|constructor))) (by simp [go_sem] <;> (repeat' (first|rfl|constructor))) ?_;all_goals try simp only [go_sem,simprocAttr])|((with_reducible refine evCall_at 52 ?_);refine EvCall.mk (hm) cal_l08Make [] [] (by simp [go_sem] <;> (repeat' (first|rfl|constructor))) (by simp [go_sem] <;> (repeat' (first|rfl|constructor))) ?_;all_goals try simp only [go_sem,simprocAttr])|(refine fun (hc : (_ : Bool) = _)=>?_;try simp only [hcS] at hc))
  all_goals try exact om_
  all_goals ((first|refine ret_auto ?_|refine ret_auto' ?_);simp only [go_sem,simprocAttr,Tryz.f38])
theorem sp_spec_UncurryFunctor_st2 {a b d : Cat} {g : Fun} (ha : CatB a) (hb : CatB b) (hd : CatB d) (hg : FunB g) (h : UnB a b d g) (h1 : a = g.src) (h2 : FcY b d) (h3 : ¬ fcK d (fcL b d) = g.tgt) : Spec Tryz.prog 38 [catV a,catV b,catV d,funV g] [] (.tup [.agg [iv 0,.v (.slice none 0 0),.v (.slice none 0 0),.v (.slice none 0 0),.v (.slice none 0 0),iv 0,.v (.slice none 0 0),.v (.slice none 0 0),.v (.slice none 0 0),.v (.slice none 0 0),.v (.slice none 0 0),.v (.slice none 0 0)],iv 5]) []:=by
  have v1:=sp_l02Is_v ha (dec_t h.1.1)
  have v2:=sp_l02Is_v hb (dec_t h.1.2.1)
  have v3:=sp_l02Is_v hd (dec_t h.1.2.2)
  have v4:=sp_l06Is_v hg (dec_t h.2)
  have s1:=sp_l02Same hg.src ha
  rw [dec_t h1.symm] at s1
  have hm:=sp_l08Make_o h.1.2.1 h.1.2.2 hb hd (.inl ⟨h2,rfl,rfl⟩)
  have s2:=sp_l02Same hg.tgt (fcK_b d h2.2.1 h2.2.2)
  rw [dec_f fun q=>h3 q.symm] at s2
  refine spec_of_V (E:=TE) 0 Tryz.func38 rfl (by simp [Tryz.f38]) fun X hn hX=>?_
  repeat' (first|(with_reducible first|refine V_seq ?_|refine V_block ?_|refine V_skip ?_|refine V_ret ?_|refine V_exit ?_)|((with_reducible refine V_cond ?_);simp only [go_sem,simprocAttr])|((refine V_region (by rw [hn];rfl) ?_);intro K hK)|((first|with_reducible refine evOps_n ?_|((with_reducible apply evOps_g);rfl));intro K hK;simp (contextual:=true) only [go_sem,simprocAttr])|with_reducible refine evOps_nil ?_|((with_reducible refine hK _ ?_);clear hK K)|(with_reducible first|refine And.intro ?_ ?_|refine nxt_n ?_|refine nxt_r ?_|refine nxt_e ?_|refine blk_n ?_|refine blk_r ?_|refine blk_same ?_|refine blk_other (by decide) ?_|refine noG_n ?_|refine noG_r ?_|refine noG_e ?_|refine inR_mk ?_ ?_)|((with_reducible refine (id ?_ : EvCall _ _ [.agg [iv a.ob,.bor [] (ints a.fr),.bor [] (ints a.to),.bor [] (ints a.id),.bor [] (intss a.co)]] _ _));refine EvCall.mk (v1) cal_l02Is [] [] (by simp [go_sem] <;> (repeat' (first|rfl|constructor))) (by simp [go_sem] <;> (repeat' (first|rfl|constructor))) ?_;all_goals try simp only [go_sem,simprocAttr])|((with_reducible refine (id ?_ : EvCall _ _ [.agg [iv b.ob,.bor [] (ints b.fr),.bor [] (ints b.to),.bor [] (ints b.id),.bor [] (intss b.co)]] _ _));refine EvCall.mk (v2) cal_l02Is [] [] (by simp [go_sem] <;> (repeat' (first|rfl|constructor))) (by simp [go_sem] <;> (repeat' (first|rfl|constructor))) ?_;all_goals try simp only [go_sem,simprocAttr])|((with_reducible refine (id ?_ : EvCall _ _ [.agg [iv d.ob,.bor [] (ints d.fr),.bor [] (ints d.to),.bor [] (ints d.id),.bor [] (intss d.co)]] _ _));refine EvCall.mk (v3) cal_l02Is [] [] (by simp [go_sem] <;> (repeat' (first|rfl|constructor))) (by simp [go_sem] <;> (repeat' (first|rfl|constructor))) ?_;all_goals try simp only [go_sem,simprocAttr])|((with_reducible refine evCall_at 71 ?_);refine EvCall.mk (v4) cal_l06Is [] [] (by simp [go_sem] <;> (repeat' (first|rfl|constructor))) (by simp [go_sem] <;> (repeat' (first|rfl|constructor))) ?_;all_goals try simp only [go_sem,simprocAttr])|((with_reducible refine (id ?_ : EvCall _ _ [.agg [iv g.src.ob,.bor [] (ints g.src.fr),.bor [] (ints g.src.to),.bor [] (ints g.src.id),.bor [] (intss g.src.co)],_] _ _));refine EvCall.mk (s1) cal_l02Same [] [] (by simp [go_sem] <;> (repeat' (first|rfl|constructor))) (by simp [go_sem] <;> (repeat' (first|rfl|constructor))) ?_;all_goals try simp only [go_sem,simprocAttr])|((with_reducible refine evCall_at 52 ?_);refine EvCall.mk (hm) cal_l08Make [(0,5),(1,6),(2,7),(3,8),(4,9),(5,10)] [] (by simp [go_sem] <;> (repeat' (first|rfl|constructor))) (by simp [go_sem] <;> (repeat' (first|rfl|constructor))) ?_;all_goals try simp only [go_sem,simprocAttr])|((with_reducible refine (id ?_ : EvCall _ _ [.agg [iv g.tgt.ob,.bor [] (ints g.tgt.fr),.bor [] (ints g.tgt.to),.bor [] (ints g.tgt.id),.bor [] (intss g.tgt.co)],_] _ _));refine EvCall.mk (s2) cal_l02Same [] [5,6,7,8] (by simp [go_sem] <;> (repeat' (first|rfl|constructor))) (by simp [go_sem] <;> (repeat' (first|rfl|constructor))) ?_;all_goals try simp only [go_sem,simprocAttr])|(refine fun (hc : (_ : Bool) = _)=>?_;try simp only [hcS] at hc))
  all_goals try exact om_
  all_goals ((first|refine ret_auto ?_|refine ret_auto' ?_);simp only [go_sem,simprocAttr,Tryz.f38])
theorem sp_spec_UncurryFunctor_lim2 {a b d : Cat} {g : Fun} (ha : CatB a) (hb : CatB b) (hd : CatB d) (hg : FunB g) (h : UnB a b d g) (h1 : a = g.src) (h2 : FcY b d) (h3 : fcK d (fcL b d) = g.tgt) (h4 : ¬ PrS a b) : Spec Tryz.prog 38 [catV a,catV b,catV d,funV g] [] (.tup [.agg [iv 0,.v (.slice none 0 0),.v (.slice none 0 0),.v (.slice none 0 0),.v (.slice none 0 0),iv 0,.v (.slice none 0 0),.v (.slice none 0 0),.v (.slice none 0 0),.v (.slice none 0 0),.v (.slice none 0 0),.v (.slice none 0 0)],iv 3]) []:=by
  have v1:=sp_l02Is_v ha (dec_t h.1.1)
  have v2:=sp_l02Is_v hb (dec_t h.1.2.1)
  have v3:=sp_l02Is_v hd (dec_t h.1.2.2)
  have v4:=sp_l06Is_v hg (dec_t h.2)
  have s1:=sp_l02Same hg.src ha
  rw [dec_t h1.symm] at s1
  have hm:=sp_l08Make_o h.1.2.1 h.1.2.2 hb hd (.inl ⟨h2,rfl,rfl⟩)
  have s2:=sp_l02Same hg.tgt (fcK_b d h2.2.1 h2.2.2)
  rw [dec_t h3.symm] at s2
  have hp:=sp_l03Product h.1.1.toShape h.1.2.1.toShape
  have hbp:=prC_b h.1.1.toShape h.1.2.1.toShape
  have hf:=sp_l02Fits (c:=prC a b) hbp.fr
  rw [dec_congr (prS_iff h.1.1.toShape h.1.2.1.toShape),dec_f h4] at hf
  refine spec_of_V (E:=TE) 0 Tryz.func38 rfl (by simp [Tryz.f38]) fun X hn hX=>?_
  repeat' (first|(with_reducible first|refine V_seq ?_|refine V_block ?_|refine V_skip ?_|refine V_ret ?_|refine V_exit ?_)|((with_reducible refine V_cond ?_);simp only [go_sem,simprocAttr])|((refine V_region (by rw [hn];rfl) ?_);intro K hK)|((first|with_reducible refine evOps_n ?_|((with_reducible apply evOps_g);rfl));intro K hK;simp (contextual:=true) only [go_sem,simprocAttr])|with_reducible refine evOps_nil ?_|((with_reducible refine hK _ ?_);clear hK K)|(with_reducible first|refine And.intro ?_ ?_|refine nxt_n ?_|refine nxt_r ?_|refine nxt_e ?_|refine blk_n ?_|refine blk_r ?_|refine blk_same ?_|refine blk_other (by decide) ?_|refine noG_n ?_|refine noG_r ?_|refine noG_e ?_|refine inR_mk ?_ ?_)|((with_reducible refine (id ?_ : EvCall _ _ [.agg [iv a.ob,.bor [] (ints a.fr),.bor [] (ints a.to),.bor [] (ints a.id),.bor [] (intss a.co)]] _ _));refine EvCall.mk (v1) cal_l02Is [] [] (by simp [go_sem] <;> (repeat' (first|rfl|constructor))) (by simp [go_sem] <;> (repeat' (first|rfl|constructor))) ?_;all_goals try simp only [go_sem,simprocAttr])|((with_reducible refine (id ?_ : EvCall _ _ [.agg [iv b.ob,.bor [] (ints b.fr),.bor [] (ints b.to),.bor [] (ints b.id),.bor [] (intss b.co)]] _ _));refine EvCall.mk (v2) cal_l02Is [] [] (by simp [go_sem] <;> (repeat' (first|rfl|constructor))) (by simp [go_sem] <;> (repeat' (first|rfl|constructor))) ?_;all_goals try simp only [go_sem,simprocAttr])|((with_reducible refine (id ?_ : EvCall _ _ [.agg [iv d.ob,.bor [] (ints d.fr),.bor [] (ints d.to),.bor [] (ints d.id),.bor [] (intss d.co)]] _ _));refine EvCall.mk (v3) cal_l02Is [] [] (by simp [go_sem] <;> (repeat' (first|rfl|constructor))) (by simp [go_sem] <;> (repeat' (first|rfl|constructor))) ?_;all_goals try simp only [go_sem,simprocAttr])|((with_reducible refine evCall_at 71 ?_);refine EvCall.mk (v4) cal_l06Is [] [] (by simp [go_sem] <;> (repeat' (first|rfl|constructor))) (by simp [go_sem] <;> (repeat' (first|rfl|constructor))) ?_;all_goals try simp only [go_sem,simprocAttr])|((with_reducible refine (id ?_ : EvCall _ _ [.agg [iv g.src.ob,.bor [] (ints g.src.fr),.bor [] (ints g.src.to),.bor [] (ints g.src.id),.bor [] (intss g.src.co)],_] _ _));refine EvCall.mk (s1) cal_l02Same [] [] (by simp [go_sem] <;> (repeat' (first|rfl|constructor))) (by simp [go_sem] <;> (repeat' (first|rfl|constructor))) ?_;all_goals try simp only [go_sem,simprocAttr])|((with_reducible refine evCall_at 52 ?_);refine EvCall.mk (hm) cal_l08Make [(0,5),(1,6),(2,7),(3,8),(4,9),(5,10)] [] (by simp [go_sem] <;> (repeat' (first|rfl|constructor))) (by simp [go_sem] <;> (repeat' (first|rfl|constructor))) ?_;all_goals try simp only [go_sem,simprocAttr])|((with_reducible refine (id ?_ : EvCall _ _ [.agg [iv g.tgt.ob,.bor [] (ints g.tgt.fr),.bor [] (ints g.tgt.to),.bor [] (ints g.tgt.id),.bor [] (intss g.tgt.co)],_] _ _));refine EvCall.mk (s2) cal_l02Same [] [5,6,7,8] (by simp [go_sem] <;> (repeat' (first|rfl|constructor))) (by simp [go_sem] <;> (repeat' (first|rfl|constructor))) ?_;all_goals try simp only [go_sem,simprocAttr])|((with_reducible refine evCall_at 86 ?_);refine EvCall.mk (hp) cal_l03Product [(0,12),(1,13),(2,14),(3,15)] [] (by simp [go_sem] <;> (repeat' (first|rfl|constructor))) (by simp [go_sem] <;> (repeat' (first|rfl|constructor))) ?_;all_goals try simp only [go_sem,simprocAttr])|((with_reducible refine evCall_at 85 ?_);refine EvCall.mk (hf) cal_l02Fits [] [12,13,14,15] (by simp [go_sem] <;> (repeat' (first|rfl|constructor))) (by simp [go_sem] <;> (repeat' (first|rfl|constructor))) ?_;all_goals try simp only [go_sem,simprocAttr])|(refine fun (hc : (_ : Bool) = _)=>?_;try simp only [hcS] at hc))
  all_goals try exact om_
  all_goals ((first|refine ret_auto ?_|refine ret_auto' ?_);simp only [go_sem,simprocAttr,Tryz.f38])
theorem sp_spec_UncurryFunctor_yes {a b d : Cat} {g : Fun} (ha : CatB a) (hb : CatB b) (hd : CatB d) (hg : FunB g) (h : UnB a b d g) (h1 : a = g.src) (h2 : FcY b d) (h3 : fcK d (fcL b d) = g.tgt) (h4 : PrS a b) : Spec Tryz.prog 38 [catV a,catV b,catV d,funV g] [] (.tup [.agg [iv (unF a b d g).src.ob,.sl 0,.sl 1,.sl 2,.sl 3,iv (unF a b d g).tgt.ob,.sl 4,.sl 5,.sl 6,.sl 7,.sl 8,.sl 9],iv 0]) [(0,⟨1,.arr (ints (unF a b d g).src.fr)⟩),(1,⟨1,.arr (ints (unF a b d g).src.to)⟩),(2,⟨1,.arr (ints (unF a b d g).src.id)⟩),(3,⟨1,.arr (intss (unF a b d g).src.co)⟩),(4,⟨1,.arr (ints (unF a b d g).tgt.fr)⟩),(5,⟨1,.arr (ints (unF a b d g).tgt.to)⟩),(6,⟨1,.arr (ints (unF a b d g).tgt.id)⟩),(7,⟨1,.arr (intss (unF a b d g).tgt.co)⟩),(8,⟨1,.arr (ints (unF a b d g).obs)⟩),(9,⟨1,.arr (ints (unF a b d g).ars)⟩)]:=by
  have v1:=sp_l02Is_v ha (dec_t h.1.1)
  have v2:=sp_l02Is_v hb (dec_t h.1.2.1)
  have v3:=sp_l02Is_v hd (dec_t h.1.2.2)
  have v4:=sp_l06Is_v hg (dec_t h.2)
  have s1:=sp_l02Same hg.src ha
  rw [dec_t h1.symm] at s1
  have w:=un_w h h1 h2 h3
  have hm:=sp_l08Make_o h.1.2.1 h.1.2.2 hb hd (.inl ⟨h2,rfl,rfl⟩)
  have s2:=sp_l02Same hg.tgt (fcK_b d h2.2.1 h2.2.2)
  rw [dec_t h3.symm] at s2
  have hp:=sp_l03Product h.1.1.toShape h.1.2.1.toShape
  have hbp:=prC_b h.1.1.toShape h.1.2.1.toShape
  have hf:=sp_l02Fits (c:=prC a b) hbp.fr
  rw [dec_congr (prS_iff h.1.1.toShape h.1.2.1.toShape),dec_t h4] at hf
  have hun:=sp_l08Uncurry_w w hd hg
  rw [show (fcK d (fcL b d)).ob = ((fcL b d).length : Int) from rfl] at hun
  refine spec_of_V (E:=TE) 0 Tryz.func38 rfl (by simp [Tryz.f38]) fun X hn hX=>?_
  repeat' (first|(with_reducible first|refine V_seq ?_|refine V_block ?_|refine V_skip ?_|refine V_ret ?_|refine V_exit ?_)|((with_reducible refine V_cond ?_);simp only [go_sem,simprocAttr])|((refine V_region (by rw [hn];rfl) ?_);intro K hK)|((first|with_reducible refine evOps_n ?_|((with_reducible apply evOps_g);rfl));intro K hK;simp (contextual:=true) only [go_sem,simprocAttr])|with_reducible refine evOps_nil ?_|((with_reducible refine hK _ ?_);clear hK K)|(with_reducible first|refine And.intro ?_ ?_|refine nxt_n ?_|refine nxt_r ?_|refine nxt_e ?_|refine blk_n ?_|refine blk_r ?_|refine blk_same ?_|refine blk_other (by decide) ?_|refine noG_n ?_|refine noG_r ?_|refine noG_e ?_|refine inR_mk ?_ ?_)|((with_reducible refine (id ?_ : EvCall _ _ [.agg [iv a.ob,.bor [] (ints a.fr),.bor [] (ints a.to),.bor [] (ints a.id),.bor [] (intss a.co)]] _ _));refine EvCall.mk (v1) cal_l02Is [] [] (by simp [go_sem] <;> (repeat' (first|rfl|constructor))) (by simp [go_sem] <;> (repeat' (first|rfl|constructor))) ?_;all_goals try simp only [go_sem,simprocAttr])|((with_reducible refine (id ?_ : EvCall _ _ [.agg [iv b.ob,.bor [] (ints b.fr),.bor [] (ints b.to),.bor [] (ints b.id),.bor [] (intss b.co)]] _ _));refine EvCall.mk (v2) cal_l02Is [] [] (by simp [go_sem] <;> (repeat' (first|rfl|constructor))) (by simp [go_sem] <;> (repeat' (first|rfl|constructor))) ?_;all_goals try simp only [go_sem,simprocAttr])|((with_reducible refine (id ?_ : EvCall _ _ [.agg [iv d.ob,.bor [] (ints d.fr),.bor [] (ints d.to),.bor [] (ints d.id),.bor [] (intss d.co)]] _ _));refine EvCall.mk (v3) cal_l02Is [] [] (by simp [go_sem] <;> (repeat' (first|rfl|constructor))) (by simp [go_sem] <;> (repeat' (first|rfl|constructor))) ?_;all_goals try simp only [go_sem,simprocAttr])|((with_reducible refine evCall_at 71 ?_);refine EvCall.mk (v4) cal_l06Is [] [] (by simp [go_sem] <;> (repeat' (first|rfl|constructor))) (by simp [go_sem] <;> (repeat' (first|rfl|constructor))) ?_;all_goals try simp only [go_sem,simprocAttr])|((with_reducible refine (id ?_ : EvCall _ _ [.agg [iv g.src.ob,.bor [] (ints g.src.fr),.bor [] (ints g.src.to),.bor [] (ints g.src.id),.bor [] (intss g.src.co)],_] _ _));refine EvCall.mk (s1) cal_l02Same [] [] (by simp [go_sem] <;> (repeat' (first|rfl|constructor))) (by simp [go_sem] <;> (repeat' (first|rfl|constructor))) ?_;all_goals try simp only [go_sem,simprocAttr])|((with_reducible refine evCall_at 52 ?_);refine EvCall.mk (hm) cal_l08Make [(0,5),(1,6),(2,7),(3,8),(4,9),(5,10)] [] (by simp [go_sem] <;> (repeat' (first|rfl|constructor))) (by simp [go_sem] <;> (repeat' (first|rfl|constructor))) ?_;all_goals try simp only [go_sem,simprocAttr])|((with_reducible refine (id ?_ : EvCall _ _ [.agg [iv g.tgt.ob,.bor [] (ints g.tgt.fr),.bor [] (ints g.tgt.to),.bor [] (ints g.tgt.id),.bor [] (intss g.tgt.co)],_] _ _));refine EvCall.mk (s2) cal_l02Same [] [5,6,7,8] (by simp [go_sem] <;> (repeat' (first|rfl|constructor))) (by simp [go_sem] <;> (repeat' (first|rfl|constructor))) ?_;all_goals try simp only [go_sem,simprocAttr])|((with_reducible refine evCall_at 86 ?_);refine EvCall.mk (hp) cal_l03Product [(0,12),(1,13),(2,14),(3,15)] [] (by simp [go_sem] <;> (repeat' (first|rfl|constructor))) (by simp [go_sem] <;> (repeat' (first|rfl|constructor))) ?_;all_goals try simp only [go_sem,simprocAttr])|((with_reducible refine evCall_at 85 ?_);refine EvCall.mk (hf) cal_l02Fits [] [12,13,14,15] (by simp [go_sem] <;> (repeat' (first|rfl|constructor))) (by simp [go_sem] <;> (repeat' (first|rfl|constructor))) ?_;all_goals try simp only [go_sem,simprocAttr])|((with_reducible refine evCall_at 87 ?_);refine EvCall.mk (hun) cal_l08Uncurry [(0,16),(1,17),(2,18),(3,19),(4,20),(5,21),(6,22),(7,23),(8,24),(9,25)] [5,6,7,8,9,10] (by simp [go_sem] <;> (repeat' (first|rfl|constructor))) (by simp [go_sem] <;> (repeat' (first|rfl|constructor))) ?_;all_goals try simp only [go_sem,simprocAttr])|(refine fun (hc : (_ : Bool) = _)=>?_;try simp only [hcS] at hc))
  all_goals try exact om_
  all_goals ((first|refine ret_auto ?_|refine ret_auto' ?_);simp only [go_sem,simprocAttr,Tryz.f38])
  all_goals exact ⟨⟨rfl,rfl,rfl,rfl,rfl,rfl,rfl,rfl,rfl,rfl⟩,rfl⟩
end Go.Eng
end
