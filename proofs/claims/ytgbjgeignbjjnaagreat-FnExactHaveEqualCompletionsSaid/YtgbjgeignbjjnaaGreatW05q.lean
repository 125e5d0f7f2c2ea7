/- HaveEqualCompletions, by the program and by the reference. -/
import Derived.Test.YtgbjgeignbjjnaaGreatW04q
import Derived.Test.YtgbjgeignbjjnaaGreatQ34q
set_option linter.unusedSimpArgs false
set_option linter.unusedVariables false
set_option maxRecDepth 100000
set_option maxHeartbeats 16000000
namespace Go.Eng
open Go Go.Proofs Go.Cats
theorem koC_ob {c : Cat} : (koC c).ob = ((koS c).length : Int):=rfl
theorem koK_ob {c : Cat} : (koK c).ob = ((koS c).length : Int):=rfl
attribute [local go_sem] List.set_cons_zero List.set_cons_succ koC_ob
theorem KoY.cat {c : Cat} (h : KoY c) (sc : IsCat c) : IsCat (koC c):=koC_cat sc h.1 h.2
def _root_.Go.Cats.HqO (c d : Cat) (v : Bool) (code : Int) : Prop:=(¬ (IsCat c ∧ IsCat d) ∧ v = false ∧ code = 1) ∨ ((IsCat c ∧ IsCat d) ∧ ((¬ (KoY c ∧ KoY d) ∧ v = false ∧ code = 3) ∨ ((KoY c ∧ KoY d) ∧ EqO (skC (koC c)) (skC (koC d)) v code)))
theorem _root_.Go.Cats.HqO.ex (c d : Cat) : ∃ v code,HqO c d v code:=by
  by_cases h : IsCat c ∧ IsCat d
  · by_cases hk : KoY c ∧ KoY d
    · obtain ⟨v,code,ho⟩:=EqO.ex (skC (koC c)) (skC (koC d))
      exact ⟨v,code,.inr ⟨h,.inr ⟨hk,ho⟩⟩⟩
    · exact ⟨false,3,.inr ⟨h,.inl ⟨hk,rfl,rfl⟩⟩⟩
  · exact ⟨false,1,.inl ⟨h,rfl,rfl⟩⟩
theorem cal_HaveEqualCompletions : Callable Tryz.prog 7:=⟨_,Tryz.func7,rfl,rfl⟩
theorem sp_HaveEqualCompletions_o {c d : Cat} {v : Bool} {code : Int} (hc : CatB c) (hd : CatB d) (h : HqO c d v code) : Spec Tryz.prog 7 [catV c,catV d] [] (.tup [bv v,iv code]) []:=by
  refine spec_of_V (E:=TE) 0 Tryz.func7 rfl (by simp [Tryz.f7]) fun X hn hX=>?_
  rcases h with ⟨h,rfl,rfl⟩|⟨⟨sc,sd⟩,h⟩
  · have v1:=dec_f h
    repeat' (first|(refine V_at 1 (Imp.trans (Imp.lendCat 2 0 1 c rfl rfl (Nat.le_refl 1)) (Imp.lendCat 3 1 1 d rfl rfl (Nat.le_refl 1))) ?_;simp only [go_sem,simprocAttr])|(exact absurd (by assumption) h)|(with_reducible first|refine V_seq ?_|refine V_skip ?_|refine V_ret ?_)|((with_reducible refine V_cond ?_);simp only [go_sem,simprocAttr])|((first|refine V_region (by rw [hn];rfl) ?_|refine V_drawn hmix (by rw [hn];rfl) ?_);intro K hK)|((first|with_reducible refine evOps_n ?_|((with_reducible apply evOps_g);rfl)|with_reducible refine evOpsD_n ?_|((with_reducible apply evOpsD_g);rfl));intro K hK;simp (contextual:=true) only [go_sem,simprocAttr])|with_reducible refine evOps_nil ?_|((with_reducible refine evOpsD_nil ?_ ?_);kernel_rfl)|((with_reducible refine hK _ ?_);clear hK K)|(with_reducible first|refine And.intro ?_ ?_|refine nxt_n ?_|refine nxt_r ?_|refine inR_mk ?_ ?_)|((with_reducible refine evCall_at 17 ?_);refine EvCall.rq (a:=(sp_areCategories_two (by first|omega|assumption|rfl) (by first|omega|assumption|rfl))) (b:=cal_areCategories) (c:=?_);all_goals try simp only [go_sem,simprocAttr])|(refine fun (hc : (_ : Bool) = _)=>?_;try simp only [hcS] at hc))
    all_goals try exact om_
    all_goals ((first|refine ret_auto ?_|refine ret_auto' ?_);simp only [go_sem,simprocAttr,Tryz.f7])
  · have v1:=dec_t (And.intro sc sd)
    by_cases k1 : KoY c
    · have h1:=sp_Category_completed_o sc (.inl ⟨k1,rfl,rfl⟩)
      by_cases k2 : KoY d
      · have h2:=sp_Category_completed_o sd (.inl ⟨k2,rfl,rfl⟩)
        have hq : EqO (skC (koC c)) (skC (koC d)) v code:=by
          rcases h with ⟨h,_⟩|⟨_,h⟩
          · exact absurd ⟨k1,k2⟩ h
          · exact h
        have h3:=sp_equivalent_o (k1.cat sc) (k2.cat sd) hq
        repeat' (first|(refine V_at 1 (Imp.trans (Imp.lendCat 2 0 1 c rfl rfl (Nat.le_refl 1)) (Imp.lendCat 3 1 1 d rfl rfl (Nat.le_refl 1))) ?_;simp only [go_sem,simprocAttr])|(exact absurd (And.intro sc sd) (by assumption))|(with_reducible first|refine V_seq ?_|refine V_skip ?_|refine V_ret ?_)|((with_reducible refine V_cond ?_);simp only [go_sem,simprocAttr])|((first|refine V_region (by rw [hn];rfl) ?_|refine V_drawn hmix (by rw [hn];rfl) ?_);intro K hK)|((first|with_reducible refine evOps_n ?_|((with_reducible apply evOps_g);rfl)|with_reducible refine evOpsD_n ?_|((with_reducible apply evOpsD_g);rfl));intro K hK;simp (contextual:=true) only [go_sem,simprocAttr])|with_reducible refine evOps_nil ?_|((with_reducible refine evOpsD_nil ?_ ?_);kernel_rfl)|((with_reducible refine hK _ ?_);clear hK K)|(with_reducible first|refine And.intro ?_ ?_|refine nxt_n ?_|refine nxt_r ?_|refine inR_mk ?_ ?_)|((with_reducible refine evCall_at 17 ?_);refine EvCall.rq (a:=(sp_areCategories_two (by first|omega|assumption|rfl) (by first|omega|assumption|rfl))) (b:=cal_areCategories) (c:=?_);all_goals try simp only [go_sem,simprocAttr])|((with_reducible refine (id ?_ : EvCall _ _ [.bptr [(0,1)] _] _ _));refine EvCall.mk (h1) cal_Category_completed [(0,3),(1,4),(2,5),(3,6),(4,7),(5,8),(6,9)] [0] (by simp [go_sem] <;> (repeat' (first|rfl|constructor))) (by simp [go_sem] <;> (repeat' (first|rfl|constructor))) ?_;all_goals try simp only [go_sem,simprocAttr])|((with_reducible refine (id ?_ : EvCall _ _ [.bptr [(1,1)] _] _ _));refine EvCall.mk (h2) cal_Category_completed [(0,10),(1,11),(2,12),(3,13),(4,14),(5,15),(6,16)] [1] (by simp [go_sem] <;> (repeat' (first|rfl|constructor))) (by simp [go_sem] <;> (repeat' (first|rfl|constructor))) ?_;all_goals try simp only [go_sem,simprocAttr])|((with_reducible refine evCall_at 19 ?_);refine EvCall.mk (h3) cal_equivalent [] [3,4,5,6,7,10,11,12,13,14] (by simp [go_sem] <;> (repeat' (first|rfl|constructor))) (by simp [go_sem] <;> (repeat' (first|rfl|constructor))) ?_;all_goals try simp only [go_sem,simprocAttr])|(refine fun (hc : (_ : Bool) = _)=>?_;try simp only [hcS] at hc))
        all_goals try exact om_
        all_goals ((first|refine ret_auto ?_|refine ret_auto' ?_);simp only [go_sem,simprocAttr,Tryz.f7])
      · have h2:=sp_Category_completed_o sd (.inr ⟨k2,rfl,rfl⟩)
        obtain ⟨rfl,rfl⟩ : v = false ∧ code = 3:=by
          rcases h with ⟨_,h⟩|⟨h,_⟩
          · exact h
          · exact absurd h.2 k2
        repeat' (first|(refine V_at 1 (Imp.trans (Imp.lendCat 2 0 1 c rfl rfl (Nat.le_refl 1)) (Imp.lendCat 3 1 1 d rfl rfl (Nat.le_refl 1))) ?_;simp only [go_sem,simprocAttr])|(exact absurd (And.intro sc sd) (by assumption))|(with_reducible first|refine V_seq ?_|refine V_skip ?_|refine V_ret ?_)|((with_reducible refine V_cond ?_);simp only [go_sem,simprocAttr])|((first|refine V_region (by rw [hn];rfl) ?_|refine V_drawn hmix (by rw [hn];rfl) ?_);intro K hK)|((first|with_reducible refine evOps_n ?_|((with_reducible apply evOps_g);rfl)|with_reducible refine evOpsD_n ?_|((with_reducible apply evOpsD_g);rfl));intro K hK;simp (contextual:=true) only [go_sem,simprocAttr])|with_reducible refine evOps_nil ?_|((with_reducible refine evOpsD_nil ?_ ?_);kernel_rfl)|((with_reducible refine hK _ ?_);clear hK K)|(with_reducible first|refine And.intro ?_ ?_|refine nxt_n ?_|refine nxt_r ?_|refine inR_mk ?_ ?_)|((with_reducible refine evCall_at 17 ?_);refine EvCall.rq (a:=(sp_areCategories_two (by first|omega|assumption|rfl) (by first|omega|assumption|rfl))) (b:=cal_areCategories) (c:=?_);all_goals try simp only [go_sem,simprocAttr])|((with_reducible refine (id ?_ : EvCall _ _ [.bptr [(0,1)] _] _ _));refine EvCall.mk (h1) cal_Category_completed [(0,3),(1,4),(2,5),(3,6),(4,7),(5,8),(6,9)] [0] (by simp [go_sem] <;> (repeat' (first|rfl|constructor))) (by simp [go_sem] <;> (repeat' (first|rfl|constructor))) ?_;all_goals try simp only [go_sem,simprocAttr])|((with_reducible refine (id ?_ : EvCall _ _ [.bptr [(1,1)] _] _ _));refine EvCall.mk (h2) cal_Category_completed [] [1] (by simp [go_sem] <;> (repeat' (first|rfl|constructor))) (by simp [go_sem] <;> (repeat' (first|rfl|constructor))) ?_;all_goals try simp only [go_sem,simprocAttr])|(refine fun (hc : (_ : Bool) = _)=>?_;try simp only [hcS] at hc))
        all_goals try exact om_
        all_goals ((first|refine ret_auto ?_|refine ret_auto' ?_);simp only [go_sem,simprocAttr,Tryz.f7])
    · have h1:=sp_Category_completed_o sc (.inr ⟨k1,rfl,rfl⟩)
      obtain ⟨rfl,rfl⟩ : v = false ∧ code = 3:=by
        rcases h with ⟨_,h⟩|⟨h,_⟩
        · exact h
        · exact absurd h.1 k1
      by_cases k2 : KoY d
      · have h2:=sp_Category_completed_o sd (.inl ⟨k2,rfl,rfl⟩)
        repeat' (first|(refine V_at 1 (Imp.trans (Imp.lendCat 2 0 1 c rfl rfl (Nat.le_refl 1)) (Imp.lendCat 3 1 1 d rfl rfl (Nat.le_refl 1))) ?_;simp only [go_sem,simprocAttr])|(exact absurd (And.intro sc sd) (by assumption))|(with_reducible first|refine V_seq ?_|refine V_skip ?_|refine V_ret ?_)|((with_reducible refine V_cond ?_);simp only [go_sem,simprocAttr])|((first|refine V_region (by rw [hn];rfl) ?_|refine V_drawn hmix (by rw [hn];rfl) ?_);intro K hK)|((first|with_reducible refine evOps_n ?_|((with_reducible apply evOps_g);rfl)|with_reducible refine evOpsD_n ?_|((with_reducible apply evOpsD_g);rfl));intro K hK;simp (contextual:=true) only [go_sem,simprocAttr])|with_reducible refine evOps_nil ?_|((with_reducible refine evOpsD_nil ?_ ?_);kernel_rfl)|((with_reducible refine hK _ ?_);clear hK K)|(with_reducible first|refine And.intro ?_ ?_|refine nxt_n ?_|refine nxt_r ?_|refine inR_mk ?_ ?_)|((with_reducible refine evCall_at 17 ?_);refine EvCall.rq (a:=(sp_areCategories_two (by first|omega|assumption|rfl) (by first|omega|assumption|rfl))) (b:=cal_areCategories) (c:=?_);all_goals try simp only [go_sem,simprocAttr])|((with_reducible refine (id ?_ : EvCall _ _ [.bptr [(0,1)] _] _ _));refine EvCall.mk (h1) cal_Category_completed [] [0] (by simp [go_sem] <;> (repeat' (first|rfl|constructor))) (by simp [go_sem] <;> (repeat' (first|rfl|constructor))) ?_;all_goals try simp only [go_sem,simprocAttr])|((with_reducible refine (id ?_ : EvCall _ _ [.bptr [(1,1)] _] _ _));refine EvCall.mk (h2) cal_Category_completed [(0,3),(1,4),(2,5),(3,6),(4,7),(5,8),(6,9)] [1] (by simp [go_sem] <;> (repeat' (first|rfl|constructor))) (by simp [go_sem] <;> (repeat' (first|rfl|constructor))) ?_;all_goals try simp only [go_sem,simprocAttr])|(refine fun (hc : (_ : Bool) = _)=>?_;try simp only [hcS] at hc))
        all_goals try exact om_
        all_goals ((first|refine ret_auto ?_|refine ret_auto' ?_);simp only [go_sem,simprocAttr,Tryz.f7])
      · have h2:=sp_Category_completed_o sd (.inr ⟨k2,rfl,rfl⟩)
        repeat' (first|(refine V_at 1 (Imp.trans (Imp.lendCat 2 0 1 c rfl rfl (Nat.le_refl 1)) (Imp.lendCat 3 1 1 d rfl rfl (Nat.le_refl 1))) ?_;simp only [go_sem,simprocAttr])|(exact absurd (And.intro sc sd) (by assumption))|(with_reducible first|refine V_seq ?_|refine V_skip ?_|refine V_ret ?_)|((with_reducible refine V_cond ?_);simp only [go_sem,simprocAttr])|((first|refine V_region (by rw [hn];rfl) ?_|refine V_drawn hmix (by rw [hn];rfl) ?_);intro K hK)|((first|with_reducible refine evOps_n ?_|((with_reducible apply evOps_g);rfl)|with_reducible refine evOpsD_n ?_|((with_reducible apply evOpsD_g);rfl));intro K hK;simp (contextual:=true) only [go_sem,simprocAttr])|with_reducible refine evOps_nil ?_|((with_reducible refine evOpsD_nil ?_ ?_);kernel_rfl)|((with_reducible refine hK _ ?_);clear hK K)|(with_reducible first|refine And.intro ?_ ?_|refine nxt_n ?_|refine nxt_r ?_|refine inR_mk ?_ ?_)|((with_reducible refine evCall_at 17 ?_);refine EvCall.rq (a:=(sp_areCategories_two (by first|omega|assumption|rfl) (by first|omega|assumption|rfl))) (b:=cal_areCategories) (c:=?_);all_goals try simp only [go_sem,simprocAttr])|((with_reducible refine (id ?_ : EvCall _ _ [.bptr [(0,1)] _] _ _));refine EvCall.mk (h1) cal_Category_completed [] [0] (by simp [go_sem] <;> (repeat' (first|rfl|constructor))) (by simp [go_sem] <;> (repeat' (first|rfl|constructor))) ?_;all_goals try simp only [go_sem,simprocAttr])|((with_reducible refine (id ?_ : EvCall _ _ [.bptr [(1,1)] _] _ _));refine EvCall.mk (h2) cal_Category_completed [] [1] (by simp [go_sem] <;> (repeat' (first|rfl|constructor))) (by simp [go_sem] <;> (repeat' (first|rfl|constructor))) ?_;all_goals try simp only [go_sem,simprocAttr])|(refine fun (hc : (_ : Bool) = _)=>?_;try simp only [hcS] at hc))
        all_goals try exact om_
        all_goals ((first|refine ret_auto ?_|refine ret_auto' ?_);simp only [go_sem,simprocAttr,Tryz.f7])
theorem cal_spec_HaveEqualCompletions : Callable Tryz.prog 5:=⟨_,Tryz.func5,rfl,rfl⟩
theorem sp_spec_HaveEqualCompletions_o {c d : Cat} {v : Bool} {code : Int} (hc : CatB c) (hd : CatB d) (h : HqO c d v code) : Spec Tryz.prog 5 [catV c,catV d] [] (.tup [bv v,iv code]) []:=by
  rcases h with ⟨h,rfl,rfl⟩|⟨⟨sc,sd⟩,h⟩
  · have hcd:=sp_l03Two_k hc hd (.inl ⟨h,rfl⟩)
    refine spec_of_V (E:=TE) 0 Tryz.func5 rfl (by simp [Tryz.f5]) fun X hn hX=>?_
    repeat' (first|(with_reducible first|refine V_seq ?_|refine V_skip ?_|refine V_ret ?_)|((with_reducible refine V_cond ?_);simp only [go_sem,simprocAttr])|((refine V_region (by rw [hn];rfl) ?_);intro K hK)|((first|with_reducible refine evOps_n ?_|((with_reducible apply evOps_g);rfl));intro K hK;simp (contextual:=true) only [go_sem,simprocAttr])|with_reducible refine evOps_nil ?_|((with_reducible refine hK _ ?_);clear hK K)|(with_reducible first|refine And.intro ?_ ?_|refine nxt_n ?_|refine nxt_r ?_|refine inR_mk ?_ ?_)|((with_reducible refine evCall_at 11 ?_);refine EvCall.mk (hcd) cal_l03Two [] [] (by simp [go_sem] <;> (repeat' (first|rfl|constructor))) (by simp [go_sem] <;> (repeat' (first|rfl|constructor))) ?_;all_goals try simp only [go_sem,simprocAttr])|(refine fun (hc : (_ : Bool) = _)=>?_;try simp only [hcS] at hc))
    all_goals try exact om_
    all_goals ((first|refine ret_auto ?_|refine ret_auto' ?_);simp only [go_sem,simprocAttr,Tryz.f5])
  · have hcd:=sp_l03Two_k hc hd (.inr ⟨sc,sd,rfl⟩)
    have h1:=sp_l11Complete sc
    have h2:=sp_l11Complete sd
    have s1 : (koS c).length ≤ 40:=Nat.le_trans koS_len sc.toShape.m40
    have s2 : (koS d).length ≤ 40:=Nat.le_trans koS_len sd.toShape.m40
    have n1 : (koT c).length ≤ 65600:=koP_len s1 sc.toShape.m40 s1 (Nat.zero_le _)
    have n2 : (koT d).length ≤ 65600:=koP_len s2 sd.toShape.m40 s2 (Nat.zero_le _)
    have f1:=sp_l02Fits (c:=koK c) (by rw [koK_fr];omega)
    have f2:=sp_l02Fits (c:=koK d) (by rw [koK_fr];omega)
    have e1 : ((koK c).ob ≤ 8 ∧ (koK c).fr.length ≤ 40) ↔ KoY c:=by rw [koK_fr,koK_ob];unfold KoY;omega
    have e2 : ((koK d).ob ≤ 8 ∧ (koK d).fr.length ≤ 40) ↔ KoY d:=by rw [koK_fr,koK_ob];unfold KoY;omega
    refine spec_of_V (E:=TE) 0 Tryz.func5 rfl (by simp [Tryz.f5]) fun X hn hX=>?_
    by_cases k1 : KoY c
    · rw [dec_t (e1.2 k1)] at f1
      by_cases k2 : KoY d
      · rw [dec_t (e2.2 k2)] at f2
        have hq : EqO (skC (koC c)) (skC (koC d)) v code:=by
          rcases h with ⟨h,_⟩|⟨_,h⟩
          · exact absurd ⟨k1,k2⟩ h
          · exact h
        have h3:=sp_l11Alike_o (k1.cat sc) (k2.cat sd) hq
        rw [koK_yes k1] at h1 f1
        rw [koK_yes k2] at h2 f2
        repeat' (first|(with_reducible first|refine V_seq ?_|refine V_skip ?_|refine V_ret ?_)|((with_reducible refine V_cond ?_);simp only [go_sem,simprocAttr])|((refine V_region (by rw [hn];rfl) ?_);intro K hK)|((first|with_reducible refine evOps_n ?_|((with_reducible apply evOps_g);rfl));intro K hK;simp (contextual:=true) only [go_sem,simprocAttr])|with_reducible refine evOps_nil ?_|((with_reducible refine hK _ ?_);clear hK K)|(with_reducible first|refine And.intro ?_ ?_|refine nxt_n ?_|refine nxt_r ?_|refine inR_mk ?_ ?_)|((with_reducible refine evCall_at 11 ?_);refine EvCall.mk (hcd) cal_l03Two [] [] (by simp [go_sem] <;> (repeat' (first|rfl|constructor))) (by simp [go_sem] <;> (repeat' (first|rfl|constructor))) ?_;all_goals try simp only [go_sem,simprocAttr])|((with_reducible refine (id ?_ : EvCall _ _ [.agg [iv c.ob,_,_,_,_]] _ _));refine EvCall.mk (h1) cal_l11Complete [(0,2),(1,3),(2,4),(3,5),(4,6)] [] (by simp [go_sem] <;> (repeat' (first|rfl|constructor))) (by simp [go_sem] <;> (repeat' (first|rfl|constructor))) ?_;all_goals try simp only [go_sem,simprocAttr])|((with_reducible refine (id ?_ : EvCall _ _ [.agg [iv d.ob,_,_,_,_]] _ _));refine EvCall.mk (h2) cal_l11Complete [(0,8),(1,9),(2,10),(3,11),(4,12)] [] (by simp [go_sem] <;> (repeat' (first|rfl|constructor))) (by simp [go_sem] <;> (repeat' (first|rfl|constructor))) ?_;all_goals try simp only [go_sem,simprocAttr])|((with_reducible refine (id ?_ : EvCall _ _ [.agg [_,.sl 2,_,_,_]] _ _));refine EvCall.mk (f1) cal_l02Fits [] [2,3,4,5] (by simp [go_sem] <;> (repeat' (first|rfl|constructor))) (by simp [go_sem] <;> (repeat' (first|rfl|constructor))) ?_;all_goals try simp only [go_sem,simprocAttr])|((with_reducible refine (id ?_ : EvCall _ _ [.agg [_,.sl 8,_,_,_]] _ _));refine EvCall.mk (f2) cal_l02Fits [] [8,9,10,11] (by simp [go_sem] <;> (repeat' (first|rfl|constructor))) (by simp [go_sem] <;> (repeat' (first|rfl|constructor))) ?_;all_goals try simp only [go_sem,simprocAttr])|((with_reducible refine evCall_at 14 ?_);refine EvCall.mk (h3) cal_l11Alike [] [2,3,4,5,8,9,10,11] (by simp [go_sem] <;> (repeat' (first|rfl|constructor))) (by simp [go_sem] <;> (repeat' (first|rfl|constructor))) ?_;all_goals try simp only [go_sem,simprocAttr])|(refine fun (hc : (_ : Bool) = _)=>?_;try simp only [hcS] at hc))
        all_goals try exact om_
        all_goals ((first|refine ret_auto ?_|refine ret_auto' ?_);simp only [go_sem,simprocAttr,Tryz.f5])
      · rw [dec_f fun q=>k2 (e2.1 q)] at f2
        obtain ⟨rfl,rfl⟩ : v = false ∧ code = 3:=by
          rcases h with ⟨_,h⟩|⟨h,_⟩
          · exact h
          · exact absurd h.2 k2
        repeat' (first|(with_reducible first|refine V_seq ?_|refine V_skip ?_|refine V_ret ?_)|((with_reducible refine V_cond ?_);simp only [go_sem,simprocAttr])|((refine V_region (by rw [hn];rfl) ?_);intro K hK)|((first|with_reducible refine evOps_n ?_|((with_reducible apply evOps_g);rfl));intro K hK;simp (contextual:=true) only [go_sem,simprocAttr])|with_reducible refine evOps_nil ?_|((with_reducible refine hK _ ?_);clear hK K)|(with_reducible first|refine And.intro ?_ ?_|refine nxt_n ?_|refine nxt_r ?_|refine inR_mk ?_ ?_)|((with_reducible refine evCall_at 11 ?_);refine EvCall.mk (hcd) cal_l03Two [] [] (by simp [go_sem] <;> (repeat' (first|rfl|constructor))) (by simp [go_sem] <;> (repeat' (first|rfl|constructor))) ?_;all_goals try simp only [go_sem,simprocAttr])|((with_reducible refine (id ?_ : EvCall _ _ [.agg [iv c.ob,_,_,_,_]] _ _));refine EvCall.mk (h1) cal_l11Complete [(0,2),(1,3),(2,4),(3,5),(4,6)] [] (by simp [go_sem] <;> (repeat' (first|rfl|constructor))) (by simp [go_sem] <;> (repeat' (first|rfl|constructor))) ?_;all_goals try simp only [go_sem,simprocAttr])|((with_reducible refine (id ?_ : EvCall _ _ [.agg [iv d.ob,_,_,_,_]] _ _));refine EvCall.mk (h2) cal_l11Complete [(0,8),(1,9),(2,10),(3,11),(4,12)] [] (by simp [go_sem] <;> (repeat' (first|rfl|constructor))) (by simp [go_sem] <;> (repeat' (first|rfl|constructor))) ?_;all_goals try simp only [go_sem,simprocAttr])|((with_reducible refine (id ?_ : EvCall _ _ [.agg [_,.sl 2,_,_,_]] _ _));refine EvCall.mk (f1) cal_l02Fits [] [2,3,4,5] (by simp [go_sem] <;> (repeat' (first|rfl|constructor))) (by simp [go_sem] <;> (repeat' (first|rfl|constructor))) ?_;all_goals try simp only [go_sem,simprocAttr])|((with_reducible refine (id ?_ : EvCall _ _ [.agg [_,.sl 8,_,_,_]] _ _));refine EvCall.mk (f2) cal_l02Fits [] [8,9,10,11] (by simp [go_sem] <;> (repeat' (first|rfl|constructor))) (by simp [go_sem] <;> (repeat' (first|rfl|constructor))) ?_;all_goals try simp only [go_sem,simprocAttr])|(refine fun (hc : (_ : Bool) = _)=>?_;try simp only [hcS] at hc))
        all_goals try exact om_
        all_goals ((first|refine ret_auto ?_|refine ret_auto' ?_);simp only [go_sem,simprocAttr,Tryz.f5])
    · rw [dec_f fun q=>k1 (e1.1 q)] at f1
      obtain ⟨rfl,rfl⟩ : v = false ∧ code = 3:=by
        rcases h with ⟨_,h⟩|⟨h,_⟩
        · exact h
        · exact absurd h.1 k1
      repeat' (first|(with_reducible first|refine V_seq ?_|refine V_skip ?_|refine V_ret ?_)|((with_reducible refine V_cond ?_);simp only [go_sem,simprocAttr])|((refine V_region (by rw [hn];rfl) ?_);intro K hK)|((first|with_reducible refine evOps_n ?_|((with_reducible apply evOps_g);rfl));intro K hK;simp (contextual:=true) only [go_sem,simprocAttr])|with_reducible refine evOps_nil ?_|((with_reducible refine hK _ ?_);clear hK K)|(with_reducible first|refine And.intro ?_ ?_|refine nxt_n ?_|refine nxt_r ?_|refine inR_mk ?_ ?_)|((with_reducible refine evCall_at 11 ?_);refine EvCall.mk (hcd) cal_l03Two [] [] (by simp [go_sem] <;> (repeat' (first|rfl|constructor))) (by simp [go_sem] <;> (repeat' (first|rfl|constructor))) ?_;all_goals try simp only [go_sem,simprocAttr])|((with_reducible refine (id ?_ : EvCall _ _ [.agg [iv c.ob,_,_,_,_]] _ _));refine EvCall.mk (h1) cal_l11Complete [(0,2),(1,3),(2,4),(3,5),(4,6)] [] (by simp [go_sem] <;> (repeat' (first|rfl|constructor))) (by simp [go_sem] <;> (repeat' (first|rfl|constructor))) ?_;all_goals try simp only [go_sem,simprocAttr])|((with_reducible refine (id ?_ : EvCall _ _ [.agg [iv d.ob,_,_,_,_]] _ _));refine EvCall.mk (h2) cal_l11Complete [(0,8),(1,9),(2,10),(3,11),(4,12)] [] (by simp [go_sem] <;> (repeat' (first|rfl|constructor))) (by simp [go_sem] <;> (repeat' (first|rfl|constructor))) ?_;all_goals try simp only [go_sem,simprocAttr])|((with_reducible refine (id ?_ : EvCall _ _ [.agg [_,.sl 2,_,_,_]] _ _));refine EvCall.mk (f1) cal_l02Fits [] [2,3,4,5] (by simp [go_sem] <;> (repeat' (first|rfl|constructor))) (by simp [go_sem] <;> (repeat' (first|rfl|constructor))) ?_;all_goals try simp only [go_sem,simprocAttr])|(refine fun (hc : (_ : Bool) = _)=>?_;try simp only [hcS] at hc))
      all_goals try exact om_
      all_goals ((first|refine ret_auto ?_|refine ret_auto' ?_);simp only [go_sem,simprocAttr,Tryz.f5])
end Go.Eng
