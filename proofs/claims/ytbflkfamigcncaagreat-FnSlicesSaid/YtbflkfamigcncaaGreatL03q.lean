/- The law FnSlices: its body. -/
import Derived.Test.YtbflkfamigcncaaGreatZ15q
import Derived.Test.YtbflkfamigcncaaGreatL05q
import Derived.Test.YtbflkfamigcncaaGreatL02q
set_option linter.unusedSimpArgs false
set_option linter.unusedVariables false
set_option maxRecDepth 100000
set_option maxHeartbeats 32000000
namespace Go.Eng
open Go Go.Proofs Go.Cats
def fndP (T O : List Int) (x : Int) (i : Nat) : Prop := ∃ k, k < i ∧ O.getD (T.getD k 0).toNat 0 = x
section
variable {T O : List Int} {x : Int} {i : Nat}
theorem fnd_0 : dec (fndP T O x 0) = false := dec_f fun ⟨k, h, _⟩ => Nat.not_lt_zero k h
theorem fnd_old (h : fndP T O x i) : dec (fndP T O x (i + 1)) = true := dec_t (by obtain ⟨k, h1, h2⟩ := h; exact ⟨k, by omega, h2⟩)
theorem fnd_new (h : O.getD (T.getD i 0).toNat 0 = x) : dec (fndP T O x (i + 1)) = true := dec_t ⟨i, Nat.lt_succ_self i, h⟩
theorem fnd_no (h : ¬ fndP T O x i) (h2 : ¬ O.getD (T.getD i 0).toNat 0 = x) : dec (fndP T O x (i + 1)) = false := dec_f fun ⟨k, h3, h4⟩ => by
  rcases Nat.lt_or_ge k i with q | q
  · exact h ⟨k, q, h4⟩
  · obtain rfl : k = i := by omega
    exact h2 h4
end
attribute [local go_sem] List.set_cons_zero List.set_cons_succ List.take_succ_cons List.take_zero
theorem sp_FnSlices {l : List Int} (hl : (l.length : Int) ≤ 9223372036854775807) (hb : ∀ i, i < l.length → 0 ≤ l.getD i 0 ∧ l.getD i 0 < 256) : Spec Tryz.prog 3 [.bor [] (bys l)] [] (bv true) [] := by
  refine spec_of_V (E := TE) 0 Tryz.func3 rfl (by simp [Tryz.f3]) fun X hn hX => ?_
  by_cases h4 : 4096 < l.length
  · repeat' (first | with_reducible refine St.f ?_ | ((with_reducible refine V_cond ?_); simp only [go_sem, simprocAttr]) | ((first | refine V_rg ?_ | refine V_dr ?_); intro K hK) | ((first | with_reducible refine So.f ?_ | ((with_reducible apply evOps_g); rfl) | ((with_reducible apply evOpsD_g); rfl)); intro K hK; simp (contextual := true) only [go_sem, simprocAttr]) | ((with_reducible refine evOpsD_nil ?_ ?_); kernel_rfl) | ((with_reducible refine hK _ ?_); clear hK K) | (with_reducible first | refine And.intro ?_ ?_ | refine blk_other (by decide) ?_ | refine inR_mk ?_ ?_) | ((with_reducible refine evCall_at 9 ?_); refine EvCall.rq (a := (sp_big (l:=l) ?_)) (b := cal_big) (c := ?_); all_goals try simp only [go_sem, simprocAttr]) | (refine fun (hc : (_ : Bool) = _) => ?_; try simp only [hcS] at hc))
    all_goals try exact om_
    all_goals try (exfalso; omega)
    (first | refine ret_auto ?_ | refine ret_auto' ?_); simp only [go_sem, simprocAttr, Tryz.f3]
  · have hk : CodeOk l := ⟨by omega, hb⟩
    have hD := sp_spec_DrawSliceCategory hk
    have hE := sp_spec_DrawArrowCategory hk
    have k1 := pointedF_ok hk
    have k2 := arrowDrF_ok hk
    generalize pointedF l = d at hD k1
    generalize arrowDrF l = a at hE k2
    obtain ⟨c, x⟩ := d
    simp only at hD k1
    obtain ⟨r, code, ho⟩ := slOut (selfF c) (pointF c x) c x
    obtain ⟨q, code2, hq⟩ := arOut a
    have hr := ho.b
    have hqb := hq.b
    have hfin : code2 = 0 → q.ob = a.fr.length := fun e => by
      rcases hq with ⟨_, h, _⟩ | ⟨h1, h2⟩
      · omega
      · rcases h2 with ⟨_, rfl, _⟩ | ⟨hn, _⟩
        · show ((cObj (selfF a) (selfF a)).length : Int) = _; rw [arrow_objs h1.toShape]
        · rcases hn with ⟨_, z⟩ | ⟨_, _, z⟩ | ⟨_, _, _, z⟩ <;> omega
    by_cases h0 : code = 0
    · subst h0
      obtain ⟨hoc, hy, hr0⟩ : OC c [x] 0 ∧ CYes (selfF c) (pointF c x) ∧ r = cmC (selfF c) (pointF c x) (cmA (selfF c) (pointF c x)).length := by
        rcases ho with ⟨_, h, _⟩ | ⟨h1, h2⟩
        · exact absurd rfl h
        · rcases h2 with ⟨hy, h3, _⟩ | ⟨hn, _⟩
          · exact ⟨h1, hy, h3⟩
          · rcases hn with ⟨_, z⟩ | ⟨_, _, z⟩ | ⟨_, _, _, z⟩ <;> omega
      obtain ⟨g1, g2, g3⟩ := oc_zero hoc
      have hrc : IsCat r := by rw [hr0]; exact cm_cat hy.src hy.tgt hy.one hy.obs hy.ars
      obtain ⟨p, p1, p2, p3⟩ := slice_trm g1 g2 g3 hy.obs hy.ars
      rw [← hr0] at p2
      have hrob : r.ob = (cObj (selfF c) (pointF c x)).length := by rw [hr0]; rfl
      obtain ⟨g, hg0⟩ : ∃ g, cmF (selfF c) (pointF c x) = g := ⟨_, rfl⟩
      have hg : FnSliceFunctorOut c x g 0 := .inr ⟨hoc, .inl ⟨hy, hg0.symm, rfl⟩⟩
      have hgb := hg.b k1
      have hgo : ∀ i, i < (cObj (selfF c) (pointF c x)).length → g.obs.getD i 0 = rw' (cObj (selfF c) (pointF c x)) i 0 := fun i hi => by
        rw [← hg0]; exact colN_at hi (Nat.le_refl _)
      have hgl : (g.obs.length : Int) = r.ob := by
        rw [hrob, ← hg0]
        show ((colN _ 0 _).length : Int) = _
        rw [colN_len, Nat.min_self]
      have px : g.obs.getD p 0 = x := by rw [hgo p p1]; exact p3
      have hmem : (p : Int) ∈ trmL r := mem_trm.2 ⟨p, by omega, p2, rfl⟩
      have hin : ∀ k, k < (trmL r).length → 0 ≤ (trmL r).getD k 0 ∧ (trmL r).getD k 0 < g.obs.length := fun k hk => by
        obtain ⟨y, y1, _, y3⟩ := mem_trm.1 (show (trmL r).getD k 0 ∈ trmI r r.ob.toNat from mem_getI hk)
        rw [y3]; omega
      obtain ⟨k0, hk0, hk1⟩ := List.getElem_of_mem hmem
      have hk2 : (trmL r).getD k0 0 = p := by rw [List.getD_eq_getElem?_getD, List.getElem?_eq_getElem hk0, hk1]; rfl
      have hlen : (trmL r).length ≤ 8 := by have h1 := trmI_len r r.ob.toNat; have h2 := hrc.toShape.ob8; unfold trmL; omega
      have hobs := hgb.obs
      have hall : fndP (trmL r) g.obs x (trmL r).length := ⟨k0, hk0, by rw [hk2, Int.toNat_natCast]; exact px⟩
      repeat' (first | (refine V_at 4 (Imp.cellRd 4 4 3 _ _ _ (intss c.co) rfl (by decide) rfl rfl) ?_; simp only [go_sem, simprocAttr]) | with_reducible refine St.f ?_ | ((with_reducible refine V_cond ?_); simp only [go_sem, simprocAttr]) | ((first | refine V_rg ?_ | refine V_dr ?_); intro K hK) | ((first | with_reducible refine So.f ?_ | ((with_reducible apply evOps_g); rfl) | ((with_reducible apply evOpsD_g); rfl)); intro K hK; simp (contextual := true) only [go_sem, simprocAttr]) | ((with_reducible refine evOpsD_nil ?_ ?_); kernel_rfl) | ((with_reducible refine hK _ ?_); clear hK K) | (with_reducible first | refine And.intro ?_ ?_ | refine blk_other (by decide) ?_ | refine inR_mk ?_ ?_) | ((with_reducible refine evCall_at 9 ?_); refine EvCall.rq (a := (sp_big (l:=l) ?_)) (b := cal_big) (c := ?_); all_goals try simp only [go_sem, simprocAttr]) | ((with_reducible refine evCall_at 10 ?_); refine EvCall.mq (hD) cal_spec_DrawSliceCategory [(0,0),(1,1),(2,2),(3,3)] [] ?_; all_goals try simp only [go_sem, simprocAttr]) | ((with_reducible refine evCall_at 11 ?_); refine EvCall.rq (a := (sp_SliceCategory_at (c:=c) (x:=x) (r:=r) (code:=0) (by first | omega | assumption | rfl) (by first | omega | assumption | rfl))) (b := cal_SliceCategory) (c := ?_); all_goals try simp only [go_sem, simprocAttr]) | ((with_reducible refine evCall_at 12 ?_); refine EvCall.rq (a := (sp_spec_SliceCategory_at (c:=c) (x:=x) (r:=r) (code:=0) (by first | omega | assumption | rfl) (by first | omega | assumption | rfl))) (b := cal_spec_SliceCategory) (c := ?_); all_goals try simp only [go_sem, simprocAttr]) | ((with_reducible refine evCall_at 13 ?_); refine EvCall.rq (a := (sp_likeCategories5 (a:=r) (b:=r) ?_ ?_)) (b := cal_likeCategories5) (c := ?_); all_goals try simp only [go_sem, simprocAttr]) | ((with_reducible refine evCall_at 14 ?_); refine EvCall.rq (a := (sp_SliceFunctor_at (c:=c) (x:=x) (g:=g) (code:=0) (by first | omega | assumption | rfl) (by first | omega | assumption | rfl))) (b := cal_SliceFunctor) (c := ?_); all_goals try simp only [go_sem, simprocAttr]) | ((with_reducible refine evCall_at 15 ?_); refine EvCall.rq (a := (sp_spec_SliceFunctor_at (c:=c) (x:=x) (g:=g) (code:=0) (by first | omega | assumption | rfl) (by first | omega | assumption | rfl))) (b := cal_spec_SliceFunctor) (c := ?_); all_goals try simp only [go_sem, simprocAttr]) | ((with_reducible refine evCall_at 17 ?_); refine EvCall.rq (a := (sp_likeFunctors5 (f:=g) (g:=g) ?_ ?_)) (b := cal_likeFunctors5) (c := ?_); all_goals try simp only [go_sem, simprocAttr]) | ((with_reducible refine evCall_at 16 ?_); refine EvCall.rq (a := (sp_TerminalObjects (c:=r) ?_)) (b := cal_TerminalObjects) (c := ?_); all_goals try simp only [go_sem, simprocAttr]) | (refine fun (hc : (_ : Bool) = _) => ?_; try simp only [hcS] at hc))
      all_goals try exact om_
      all_goals try (exfalso; omega)
      refine V_loopK (G := {i : Nat // i ≤ (trmL r).length ∧ (True)}) (fun ⟨i, _⟩ => [(16, iv i), (15, bv (dec (fndP (trmL r) g.obs x i))), (3, .ptr 4 0), (5, .ptr 9 0), (7, .ptr 14 0), (9, .ptr 25 0)]) [0, 2, 4, 11, 13] (fun ⟨i, _⟩ => []) [] (fun zz => (trmL r).length - zz.1) ⟨0, Nat.zero_le _, by trivial⟩ ?_ ?_
      · exact Imp.auto hX (by simp [go_sem, simprocAttr, fnd_0])
      rintro ⟨i, hii, hwi⟩
      simp only [go_sem, simprocAttr]
      rcases Nat.lt_or_ge i (trmL r).length with hlt | hge
      · obtain ⟨q1, q2⟩ := hin i hlt
        by_cases hf : fndP (trmL r) g.obs x i
        · have hd := dec_t hf
          have hd1 := fnd_old hf
          simp only [hd]
          repeat' (first | with_reducible refine St.f ?_ | ((with_reducible refine V_cond ?_); simp only [go_sem, simprocAttr]) | ((first | refine V_rg ?_ | refine V_dr ?_); intro K hK) | ((first | with_reducible refine So.f ?_ | ((with_reducible apply evOps_g); rfl) | ((with_reducible apply evOpsD_g); rfl)); intro K hK; simp (contextual := true) only [go_sem, simprocAttr]) | ((with_reducible refine evOpsD_nil ?_ ?_); kernel_rfl) | ((with_reducible refine hK _ ?_); clear hK K) | (with_reducible first | refine And.intro ?_ ?_ | refine blk_other (by decide) ?_ | refine inR_mk ?_ ?_) | (refine fun (hc : (_ : Bool) = _) => ?_; try simp only [hcS] at hc))
          all_goals try exact om_
          all_goals try (exfalso; omega)
          refine ⟨⟨i + 1, by omega, (by trivial)⟩, by simp only; omega, Imp.auto hX (by simp only [go_sem, simprocAttr, hd1])⟩
        · have hd := dec_f hf
          simp only [hd]
          by_cases hx : g.obs.getD ((trmL r).getD i 0).toNat 0 = x
          · have hd1 := fnd_new (T := trmL r) (O := g.obs) hx
            repeat' (first | with_reducible refine St.f ?_ | ((with_reducible refine V_cond ?_); simp only [go_sem, simprocAttr]) | ((first | refine V_rg ?_ | refine V_dr ?_); intro K hK) | ((first | with_reducible refine So.f ?_ | ((with_reducible apply evOps_g); rfl) | ((with_reducible apply evOpsD_g); rfl)); intro K hK; simp (contextual := true) only [go_sem, simprocAttr]) | ((with_reducible refine evOpsD_nil ?_ ?_); kernel_rfl) | ((with_reducible refine hK _ ?_); clear hK K) | (with_reducible first | refine And.intro ?_ ?_ | refine blk_other (by decide) ?_ | refine inR_mk ?_ ?_) | (refine fun (hc : (_ : Bool) = _) => ?_; try simp only [hcS] at hc))
            all_goals try exact om_
            all_goals try (exfalso; omega)
            refine ⟨⟨i + 1, by omega, (by trivial)⟩, by simp only; omega, Imp.auto hX (by simp only [go_sem, simprocAttr, hd1, hx, decide_true, decide_false])⟩
          · have hd1 := fnd_no hf hx
            repeat' (first | with_reducible refine St.f ?_ | ((with_reducible refine V_cond ?_); simp only [go_sem, simprocAttr]) | ((first | refine V_rg ?_ | refine V_dr ?_); intro K hK) | ((first | with_reducible refine So.f ?_ | ((with_reducible apply evOps_g); rfl) | ((with_reducible apply evOpsD_g); rfl)); intro K hK; simp (contextual := true) only [go_sem, simprocAttr]) | ((with_reducible refine evOpsD_nil ?_ ?_); kernel_rfl) | ((with_reducible refine hK _ ?_); clear hK K) | (with_reducible first | refine And.intro ?_ ?_ | refine blk_other (by decide) ?_ | refine inR_mk ?_ ?_) | (refine fun (hc : (_ : Bool) = _) => ?_; try simp only [hcS] at hc))
            all_goals try exact om_
            all_goals try (exfalso; omega)
            refine ⟨⟨i + 1, by omega, (by trivial)⟩, by simp only; omega, Imp.auto hX (by simp only [go_sem, simprocAttr, hd1, hx, decide_true, decide_false])⟩
      · obtain rfl : i = (trmL r).length := by omega
        have hd := dec_t hall
        simp only [hd]
        repeat' (first | (refine V_at 22 (Imp.cellRd 42 4 41 _ _ _ (intss a.co) rfl (by decide) rfl rfl) ?_; simp only [go_sem, simprocAttr]) | with_reducible refine St.f ?_ | ((with_reducible refine V_cond ?_); simp only [go_sem, simprocAttr]) | ((first | refine V_rg ?_ | refine V_dr ?_); intro K hK) | ((first | with_reducible refine So.f ?_ | ((with_reducible apply evOps_g); rfl) | ((with_reducible apply evOpsD_g); rfl)); intro K hK; simp (contextual := true) only [go_sem, simprocAttr]) | ((with_reducible refine evOpsD_nil ?_ ?_); kernel_rfl) | ((with_reducible refine hK _ ?_); clear hK K) | (with_reducible first | refine And.intro ?_ ?_ | refine blk_other (by decide) ?_ | refine inR_mk ?_ ?_) | ((with_reducible refine evCall_at 18 ?_); refine EvCall.mq (hE) cal_spec_DrawArrowCategory [(0,38),(1,39),(2,40),(3,41)] [] ?_; all_goals try simp only [go_sem, simprocAttr]) | ((with_reducible refine evCall_at 19 ?_); refine EvCall.rq (a := (sp_ArrowCategory_at (c:=a) (r:=q) (code:=code2) (by first | omega | assumption | rfl) (by first | omega | assumption | rfl))) (b := cal_ArrowCategory) (c := ?_); all_goals try simp only [go_sem, simprocAttr]) | ((with_reducible refine evCall_at 20 ?_); refine EvCall.rq (a := (sp_spec_ArrowCategory_at (c:=a) (r:=q) (code:=code2) (by first | omega | assumption | rfl) (by first | omega | assumption | rfl))) (b := cal_spec_ArrowCategory) (c := ?_); all_goals try simp only [go_sem, simprocAttr]) | ((with_reducible refine evCall_at 13 ?_); refine EvCall.rq (a := (sp_likeCategories5 (a:=q) (b:=q) ?_ ?_)) (b := cal_likeCategories5) (c := ?_); all_goals try simp only [go_sem, simprocAttr]) | (refine fun (hc : (_ : Bool) = _) => ?_; try simp only [hcS] at hc))
        all_goals try exact om_
        all_goals try (exfalso; omega)
        all_goals ((first | refine ret_auto ?_ | refine ret_auto' ?_); simp only [go_sem, simprocAttr, Tryz.f3])
        all_goals exact congrArg (fun b => Sv.v (.bool b)) (decide_eq_true (hfin (by omega)))
    · repeat' (first | (refine V_at 4 (Imp.cellRd 4 4 3 _ _ _ (intss c.co) rfl (by decide) rfl rfl) ?_; simp only [go_sem, simprocAttr]) | (refine V_at 22 (Imp.cellRd 19 4 18 _ _ _ (intss a.co) rfl (by decide) rfl rfl) ?_; simp only [go_sem, simprocAttr]) | with_reducible refine St.f ?_ | ((with_reducible refine V_cond ?_); simp only [go_sem, simprocAttr]) | ((first | refine V_rg ?_ | refine V_dr ?_); intro K hK) | ((first | with_reducible refine So.f ?_ | ((with_reducible apply evOps_g); rfl) | ((with_reducible apply evOpsD_g); rfl)); intro K hK; simp (contextual := true) only [go_sem, simprocAttr]) | ((with_reducible refine evOpsD_nil ?_ ?_); kernel_rfl) | ((with_reducible refine hK _ ?_); clear hK K) | (with_reducible first | refine And.intro ?_ ?_ | refine blk_other (by decide) ?_ | refine inR_mk ?_ ?_) | ((with_reducible refine evCall_at 9 ?_); refine EvCall.rq (a := (sp_big (l:=l) ?_)) (b := cal_big) (c := ?_); all_goals try simp only [go_sem, simprocAttr]) | ((with_reducible refine evCall_at 10 ?_); refine EvCall.mq (hD) cal_spec_DrawSliceCategory [(0,0),(1,1),(2,2),(3,3)] [] ?_; all_goals try simp only [go_sem, simprocAttr]) | ((with_reducible refine evCall_at 11 ?_); refine EvCall.rq (a := (sp_SliceCategory_at (c:=c) (x:=x) (r:=r) (code:=code) (by first | omega | assumption | rfl) (by first | omega | assumption | rfl))) (b := cal_SliceCategory) (c := ?_); all_goals try simp only [go_sem, simprocAttr]) | ((with_reducible refine evCall_at 12 ?_); refine EvCall.rq (a := (sp_spec_SliceCategory_at (c:=c) (x:=x) (r:=r) (code:=code) (by first | omega | assumption | rfl) (by first | omega | assumption | rfl))) (b := cal_spec_SliceCategory) (c := ?_); all_goals try simp only [go_sem, simprocAttr]) | ((with_reducible refine evCall_at 13 ?_); refine EvCall.rq (a := (sp_likeCategories5 (a:=r) (b:=r) ?_ ?_)) (b := cal_likeCategories5) (c := ?_); all_goals try simp only [go_sem, simprocAttr]) | ((with_reducible refine evCall_at 18 ?_); refine EvCall.mq (hE) cal_spec_DrawArrowCategory [(0,15),(1,16),(2,17),(3,18)] [] ?_; all_goals try simp only [go_sem, simprocAttr]) | ((with_reducible refine evCall_at 19 ?_); refine EvCall.rq (a := (sp_ArrowCategory_at (c:=a) (r:=q) (code:=code2) (by first | omega | assumption | rfl) (by first | omega | assumption | rfl))) (b := cal_ArrowCategory) (c := ?_); all_goals try simp only [go_sem, simprocAttr]) | ((with_reducible refine evCall_at 20 ?_); refine EvCall.rq (a := (sp_spec_ArrowCategory_at (c:=a) (r:=q) (code:=code2) (by first | omega | assumption | rfl) (by first | omega | assumption | rfl))) (b := cal_spec_ArrowCategory) (c := ?_); all_goals try simp only [go_sem, simprocAttr]) | ((with_reducible refine evCall_at 13 ?_); refine EvCall.rq (a := (sp_likeCategories5 (a:=q) (b:=q) ?_ ?_)) (b := cal_likeCategories5) (c := ?_); all_goals try simp only [go_sem, simprocAttr]) | (refine fun (hc : (_ : Bool) = _) => ?_; try simp only [hcS] at hc))
      all_goals try exact om_
      all_goals try (exfalso; omega)
      all_goals ((first | refine ret_auto ?_ | refine ret_auto' ?_); simp only [go_sem, simprocAttr, Tryz.f3])
      all_goals exact congrArg (fun b => Sv.v (.bool b)) (decide_eq_true (hfin (by omega)))
end Go.Eng
