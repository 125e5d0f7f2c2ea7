/- Several texts in one: Q15, Q16, Q17. -/
import Derived.Test.YtgbjgeignbjjnaaGreatQ14q
set_option linter.unusedSimpArgs false
set_option linter.unusedVariables false
set_option maxRecDepth 100000
set_option maxHeartbeats 16000000
section
namespace Go.Eng
open Go Go.Proofs Go.Cats
attribute [local go_sem] List.set_cons_zero List.set_cons_succ
theorem colF_len1 {c d : Cat} : ∀ {k : Nat} {cc dd : List Int} {n : Nat},cc.length = c.fr.length → (colF c d k cc dd n).1.length = c.fr.length
  | 0,_,_,_,h=>h
  | k + 1,_,_,_,h=>by
    rw [colF]
    split
    · exact colA_len
    · exact colF_len1 colA_len
theorem colF_len2 {c d : Cat} : ∀ {k : Nat} {cc dd : List Int} {n : Nat},dd.length = d.fr.length → (colF c d k cc dd n).2.length = d.fr.length
  | 0,_,_,_,h=>h
  | k + 1,_,_,_,h=>by
    rw [colF]
    split
    · exact colB_len
    · exact colF_len2 colB_len
noncomputable def allI (c d : Cat) (m : Nat) : List Fun:=if c.ob = d.ob ∧ c.fr.length = d.fr.length then (funX c d true c.ob.toNat []).take m else []
theorem cal_l10All : Callable Tryz.prog 44:=⟨_,Tryz.func44,rfl,rfl⟩
theorem sp_l10All {c d : Cat} {m : Nat} (sc : IsCat c) (sd : IsCat d) (bc : CatB c) (bd : CatB d) (hm : 0 < m) (hm2 : m ≤ 4096) : Spec Tryz.prog 44 [catV c,catV d,iv m] [] (.sl 0) [(0,⟨1,.arr (funsD (allI c d m))⟩)]:=by
  have m40:=sc.toShape.m40
  have n40:=sd.toShape.m40
  have c0:=sc.toShape.ob0
  by_cases he : c.ob = d.ob ∧ c.fr.length = d.fr.length
  · obtain ⟨ho,ha⟩:=he
    rw [allI,if_pos ⟨ho,ha⟩]
    have hcol:=sp_l10Colours sc.toShape sd.toShape
    have hk:=keepF (k:=c.fr.length + d.fr.length + 1) (n:=0) (keep0 (c:=c) (d:=d))
    have h1:=colF_len1 (c:=c) (d:=d) (k:=c.fr.length + d.fr.length + 1) (cc:=col0 c) (dd:=col0 d) (n:=0) (by simp [col0])
    have h2:=colF_len2 (c:=c) (d:=d) (k:=c.fr.length + d.fr.length + 1) (cc:=col0 c) (dd:=col0 d) (n:=0) (by simp [col0])
    generalize colF c d (c.fr.length + d.fr.length + 1) (col0 c) (col0 d) 0 = R at *
    obtain ⟨cc,dd⟩:=R
    simp only at hcol hk h1 h2
    cases hv : dec (AlikeP cc dd) with
    | true =>
      rw [hv] at hcol
      have hrun:=sp_l10Objects_n (cc:=cc) (dd:=dd) sc sd bc bd ho ha hk h1 h2 hm2 c.ob.toNat [] [] (by simp;omega) (by simp [Within]) (by simp [NdI]) (by simpa using hm)
      rw [List.nil_append] at hrun
      refine spec_of_V (E:=TE) 0 Tryz.func44 rfl (by simp [Tryz.f44]) fun X hn hX=>?_
      repeat' (first|(refine V_at 8 (Imp.closeB 3 2 13 _ _ rfl rfl rfl (by decide)) ?_;simp only [go_sem,simprocAttr])|(refine V_at 9 (Imp.openB 3 13 _ _ rfl (Nat.succ_le_succ (Nat.zero_le _)) rfl rfl) ?_;simp only [go_sem,simprocAttr])|(with_reducible first|refine V_seq ?_|refine V_skip ?_|refine V_ret ?_)|((with_reducible refine V_cond ?_);simp only [go_sem,simprocAttr])|((refine V_region (by rw [hn];rfl) ?_);intro K hK)|((first|with_reducible refine evOps_n ?_|((with_reducible apply evOps_g);rfl));intro K hK;simp (contextual:=true) only [go_sem,simprocAttr])|with_reducible refine evOps_nil ?_|((with_reducible refine hK _ ?_);clear hK K)|(with_reducible first|refine And.intro ?_ ?_|refine nxt_n ?_|refine nxt_r ?_|refine inR_mk ?_ ?_)|((with_reducible refine evCall_at 57 ?_);refine EvCall.mk (hcol) cal_l10Colours [(0,4),(1,5)] [] (by simp [go_sem] <;> (repeat' (first|rfl|constructor))) (by simp [go_sem] <;> (repeat' (first|rfl|constructor))) ?_;all_goals try simp only [go_sem,simprocAttr])|((with_reducible refine evCall_at 58 ?_);refine EvCall.mk (hrun) cal_l10Objects [(0,3),(1,4),(2,5),(3,6)] [] (by simp [go_sem] <;> (repeat' (first|rfl|constructor))) (by simp [go_sem] <;> (repeat' (first|rfl|constructor))) ?_;all_goals try simp only [go_sem,simprocAttr])|(refine fun (hc : (_ : Bool) = _)=>?_;try simp only [hcS] at hc))
      all_goals try exact om_
      all_goals first|(exact absurd ho (by assumption))|(exfalso;omega)|skip
      (first|refine ret_auto ?_|refine ret_auto' ?_);simp only [go_sem,simprocAttr,Tryz.f44]
    | false =>
      rw [hv] at hcol
      have hne : ¬ AlikeP cc dd:=fun h=>by rw [dec_t h] at hv;cases hv
      rw [alike_no sc sd ho ha hk h1 h2 hne,List.take_nil]
      refine spec_of_V (E:=TE) 0 Tryz.func44 rfl (by simp [Tryz.f44]) fun X hn hX=>?_
      repeat' (first|(with_reducible first|refine V_seq ?_|refine V_skip ?_|refine V_ret ?_)|((with_reducible refine V_cond ?_);simp only [go_sem,simprocAttr])|((refine V_region (by rw [hn];rfl) ?_);intro K hK)|((first|with_reducible refine evOps_n ?_|((with_reducible apply evOps_g);rfl));intro K hK;simp (contextual:=true) only [go_sem,simprocAttr])|with_reducible refine evOps_nil ?_|((with_reducible refine hK _ ?_);clear hK K)|(with_reducible first|refine And.intro ?_ ?_|refine nxt_n ?_|refine nxt_r ?_|refine inR_mk ?_ ?_)|((with_reducible refine evCall_at 57 ?_);refine EvCall.mk (hcol) cal_l10Colours [(0,4),(1,5)] [] (by simp [go_sem] <;> (repeat' (first|rfl|constructor))) (by simp [go_sem] <;> (repeat' (first|rfl|constructor))) ?_;all_goals try simp only [go_sem,simprocAttr])|(refine fun (hc : (_ : Bool) = _)=>?_;try simp only [hcS] at hc))
      all_goals try exact om_
      all_goals first|(exact absurd ho (by assumption))|(exfalso;omega)|skip
      (first|refine ret_auto ?_|refine ret_auto' ?_);simp only [go_sem,simprocAttr,Tryz.f44]
  · rw [allI,if_neg he]
    refine spec_of_V (E:=TE) 0 Tryz.func44 rfl (by simp [Tryz.f44]) fun X hn hX=>?_
    repeat' (first|(with_reducible first|refine V_seq ?_|refine V_skip ?_|refine V_ret ?_)|((with_reducible refine V_cond ?_);simp only [go_sem,simprocAttr])|((refine V_region (by rw [hn];rfl) ?_);intro K hK)|((first|with_reducible refine evOps_n ?_|((with_reducible apply evOps_g);rfl));intro K hK;simp (contextual:=true) only [go_sem,simprocAttr])|with_reducible refine evOps_nil ?_|((with_reducible refine hK _ ?_);clear hK K)|(with_reducible first|refine And.intro ?_ ?_|refine nxt_n ?_|refine nxt_r ?_|refine inR_mk ?_ ?_)|(refine fun (hc : (_ : Bool) = _)=>?_;try simp only [hcS] at hc))
    all_goals try exact om_
    all_goals first|(exact absurd ⟨by assumption,by omega⟩ he)|skip
    all_goals ((first|refine ret_auto ?_|refine ret_auto' ?_);simp only [go_sem,simprocAttr,Tryz.f44])
end Go.Eng
end
section
namespace Go.Eng
open Go Go.Proofs Go.Cats
attribute [local go_sem] List.set_cons_zero List.set_cons_succ
theorem sp_l02Is_k {c : Cat} {v : Bool} (hb : CatB c) (h : dec (IsCat c) = v) : Spec Tryz.prog 22 [catV c] [] (bv v) []:=by
  subst h
  exact sp_l02Is hb
theorem sp_l10All_1 {c d : Cat} {F : List Fun} (sc : IsCat c) (sd : IsCat d) (bc : CatB c) (bd : CatB d) (h : allI c d 1 = F) : Spec Tryz.prog 44 [catV c,catV d,iv 1] [] (.sl 0) [(0,⟨1,.arr (funsD F)⟩)]:=by
  subst h
  exact sp_l10All (m:=1) sc sd bc bd (by decide) (by decide)
end Go.Eng
end
section
namespace Go.Eng
open Go Go.Proofs Go.Cats
attribute [local go_sem] List.set_cons_zero List.set_cons_succ
def _root_.Go.Cats.FIOut (c d : Cat) (g : Fun) (code : Int) : Prop:=(INo c d code ∧ g = nilF) ∨ (IYes c d g ∧ code = 0)
theorem sp_FindIsomorphism_o {c d : Cat} {g : Fun} {code : Int} (hc : CatB c) (hd : CatB d) (h : FIOut c d g code) : Spec Tryz.prog 49 [catV c,catV d] [] (.tup [.agg [iv g.src.ob,.sl 0,.sl 1,.sl 2,.sl 3,iv g.tgt.ob,.sl 4,.sl 5,.sl 6,.sl 7,.sl 8,.sl 9],iv code]) [(0,⟨1,.arr (ints g.src.fr)⟩),(1,⟨1,.arr (ints g.src.to)⟩),(2,⟨1,.arr (ints g.src.id)⟩),(3,⟨1,.arr (intss g.src.co)⟩),(4,⟨1,.arr (ints g.tgt.fr)⟩),(5,⟨1,.arr (ints g.tgt.to)⟩),(6,⟨1,.arr (ints g.tgt.id)⟩),(7,⟨1,.arr (intss g.tgt.co)⟩),(8,⟨1,.arr (ints g.obs)⟩),(9,⟨1,.arr (ints g.ars)⟩)]:=by
  rcases h with ⟨h,rfl⟩|⟨h,rfl⟩
  · exact adoptF (sp_FindIsomorphism_no hc hd h)
  · exact sp_FindIsomorphism_yes hc hd h
def _root_.Go.Cats.F1Out (c d : Cat) (g : Fun) (v : Bool) : Prop:=(allI c d 1 = [] ∧ g = nilF ∧ v = false) ∨ (allI c d 1 = [g] ∧ v = true)
theorem _root_.Go.Cats.F1Out.ex (c d : Cat) : ∃ g v,F1Out c d g v:=by
  unfold F1Out allI
  split
  · cases hF : funX c d true c.ob.toNat [] with
    | nil=>exact ⟨_,_,.inl ⟨rfl,rfl,rfl⟩⟩
    | cons g D=>exact ⟨g,_,.inr ⟨rfl,rfl⟩⟩
  · exact ⟨_,_,.inl ⟨rfl,rfl,rfl⟩⟩
theorem cal_l10Find : Callable Tryz.prog 29:=⟨_,Tryz.func29,rfl,rfl⟩
theorem sp_l10Find_no {c d : Cat} (sc : IsCat c) (sd : IsCat d) (hc : CatB c) (hd : CatB d) (h : allI c d 1 = []) : Spec Tryz.prog 29 [catV c,catV d] [] (.tup [.agg [iv 0,.v (.slice none 0 0),.v (.slice none 0 0),.v (.slice none 0 0),.v (.slice none 0 0),iv 0,.v (.slice none 0 0),.v (.slice none 0 0),.v (.slice none 0 0),.v (.slice none 0 0),.v (.slice none 0 0),.v (.slice none 0 0)],bv false]) []:=by
  have hal:=sp_l10All_1 sc sd hc hd h
  refine spec_of_V (E:=TE) 0 Tryz.func29 rfl (by simp [Tryz.f29]) fun X hn hX=>?_
  repeat' (first|(with_reducible first|refine V_seq ?_|refine V_skip ?_|refine V_ret ?_)|((with_reducible refine V_cond ?_);simp only [go_sem,simprocAttr])|((refine V_region (by rw [hn];rfl) ?_);intro K hK)|((first|with_reducible refine evOps_n ?_|((with_reducible apply evOps_g);rfl));intro K hK;simp (contextual:=true) only [go_sem,simprocAttr])|with_reducible refine evOps_nil ?_|((with_reducible refine hK _ ?_);clear hK K)|(with_reducible first|refine And.intro ?_ ?_|refine nxt_n ?_|refine nxt_r ?_|refine inR_mk ?_ ?_)|((with_reducible refine evCall_at 44 ?_);refine EvCall.mk (hal) cal_l10All [(0,3)] [] (by simp [go_sem] <;> (repeat' (first|rfl|constructor))) (by simp [go_sem] <;> (repeat' (first|rfl|constructor))) ?_;all_goals try simp only [go_sem,simprocAttr])|(refine fun (hc : (_ : Bool) = _)=>?_;try simp only [hcS] at hc))
  all_goals try exact om_
  · (first|refine ret_auto ?_|refine ret_auto' ?_);simp only [go_sem,simprocAttr,Tryz.f29]
theorem sp_l10Find_yes {c d : Cat} {g : Fun} (sc : IsCat c) (sd : IsCat d) (hc : CatB c) (hd : CatB d) (h : allI c d 1 = [g]) : Spec Tryz.prog 29 [catV c,catV d] [] (.tup [.agg [iv g.src.ob,.sl 0,.sl 1,.sl 2,.sl 3,iv g.tgt.ob,.sl 4,.sl 5,.sl 6,.sl 7,.sl 8,.sl 9],bv true]) [(0,⟨1,.arr (ints g.src.fr)⟩),(1,⟨1,.arr (ints g.src.to)⟩),(2,⟨1,.arr (ints g.src.id)⟩),(3,⟨1,.arr (intss g.src.co)⟩),(4,⟨1,.arr (ints g.tgt.fr)⟩),(5,⟨1,.arr (ints g.tgt.to)⟩),(6,⟨1,.arr (ints g.tgt.id)⟩),(7,⟨1,.arr (intss g.tgt.co)⟩),(8,⟨1,.arr (ints g.obs)⟩),(9,⟨1,.arr (ints g.ars)⟩)]:=by
  have hal:=sp_l10All_1 sc sd hc hd h
  refine spec_of_V (E:=TE) 0 Tryz.func29 rfl (by simp [Tryz.f29]) fun X hn hX=>?_
  repeat' (first|(refine V_at 4 (Imp.takeFun 3 1 g rfl (Nat.le_refl 1) (fun k _=>rsL_free rfl k)) ?_;simp only [go_sem,simprocAttr,takeL])|(refine V_regionH 4 (by rw [hn];rfl) ?_;intro K hK)|(refine evOpsH_h ?_;refine hook_takeFun (i:=3) (cv:=11) (j:=4) (g:=g) rfl rfl rfl (by simp only [go_sem,simprocAttr]) (by simp only [go_sem,simprocAttr]) ?_;simp only [go_sem,simprocAttr])|((with_reducible refine evOpsH_n ?_);simp only [go_sem,simprocAttr])|(with_reducible refine evOpsH_e ?_)|(with_reducible first|refine V_seq ?_|refine V_skip ?_|refine V_ret ?_)|((with_reducible refine V_cond ?_);simp only [go_sem,simprocAttr])|((refine V_region (by rw [hn];rfl) ?_);intro K hK)|((first|with_reducible refine evOps_n ?_|((with_reducible apply evOps_g);rfl));intro K hK;simp (contextual:=true) only [go_sem,simprocAttr])|with_reducible refine evOps_nil ?_|((with_reducible refine hK _ ?_);clear hK K)|(with_reducible first|refine And.intro ?_ ?_|refine nxt_n ?_|refine nxt_r ?_|refine inR_mk ?_ ?_)|((with_reducible refine evCall_at 44 ?_);refine EvCall.mk (hal) cal_l10All [(0,3)] [] (by simp [go_sem] <;> (repeat' (first|rfl|constructor))) (by simp [go_sem] <;> (repeat' (first|rfl|constructor))) ?_;all_goals try simp only [go_sem,simprocAttr])|(refine fun (hc : (_ : Bool) = _)=>?_;try simp only [hcS] at hc))
  all_goals try exact om_
  · (first|refine ret_auto ?_|refine ret_auto' ?_);simp only [go_sem,simprocAttr,Tryz.f29]
theorem sp_l10Find_o {c d : Cat} {g : Fun} {v : Bool} (sc : IsCat c) (sd : IsCat d) (hc : CatB c) (hd : CatB d) (h : F1Out c d g v) : Spec Tryz.prog 29 [catV c,catV d] [] (.tup [.agg [iv g.src.ob,.sl 0,.sl 1,.sl 2,.sl 3,iv g.tgt.ob,.sl 4,.sl 5,.sl 6,.sl 7,.sl 8,.sl 9],bv v]) [(0,⟨1,.arr (ints g.src.fr)⟩),(1,⟨1,.arr (ints g.src.to)⟩),(2,⟨1,.arr (ints g.src.id)⟩),(3,⟨1,.arr (intss g.src.co)⟩),(4,⟨1,.arr (ints g.tgt.fr)⟩),(5,⟨1,.arr (ints g.tgt.to)⟩),(6,⟨1,.arr (ints g.tgt.id)⟩),(7,⟨1,.arr (intss g.tgt.co)⟩),(8,⟨1,.arr (ints g.obs)⟩),(9,⟨1,.arr (ints g.ars)⟩)]:=by
  rcases h with ⟨h,rfl,rfl⟩|⟨h,rfl⟩
  · exact adoptF (sp_l10Find_no sc sd hc hd h)
  · exact sp_l10Find_yes sc sd hc hd h
end Go.Eng
end
