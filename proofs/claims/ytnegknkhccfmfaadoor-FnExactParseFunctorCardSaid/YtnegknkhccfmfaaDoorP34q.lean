/- The law FnExactParseFunctor is true of the given program: for every two categories and every text the call returns true, and both read behind it as they did. Its conditions are the row's own: the listed package variables hold at the beginning what the program's text lays. -/
import Derived.Test.YtnegknkhccfmfaaDoorY08q
import Derived.Test.YtnegknkhccfmfaaDoorRows
import Derived.Test.YtnegknkhccfmfaaDoorCards
import Derived.Test.YtnegknkhccfmfaaDoorTie
import Derived.JoinedOf
import Derived.ProofKit
import Derived.HandedShaped
import Derived.Lay
import Derived.LaidOnce
import Derived.SevenTiedAt
import Derived.Stop.LaidErr
import Derived.RowKitTokens
set_option linter.unusedSimpArgs false
set_option linter.unusedVariables false
set_option maxRecDepth 100000
set_option maxHeartbeats 16000000
namespace Go.Eng
open Go Go.RowKit
variable {H : Type} {enc : TypeId × Value → H}
theorem handed_laid_shaped {a : Assume} {C : Checked} {os : Os} {f : FuncId} {fn : Func} {s : ChangeSpec} {conds : List PathCond} {apart fresh handsOn again : Bool} {X : World → Array Value → Prop}
    (hX : ∀ (w w' : World) (args : Array Value), w.heap = w'.heap → X w args → X w' args)
    (own : ownKnob C.prog.godebug = none) (started : os.Started) (noInit : C.prog.inits.idxOf? f = none) (hfn : C.prog.funcs[f]? = some fn)
    (witness : ∃ (w : World) (tape : Tape) (i : Input), w.os = os ∧ (w.forCall tape i).Shaped C.prog ∧ i.vars = [] ∧ Input.okWide C.prog (w.forCall tape i) .any w.heap.size f i ∧
      ((s.pre enc C.prog fn conds apart (w.forCall tape i).memory i.args ∧ X (w.forCall tape i).memory i.args) ∧ sizedMet enc C.prog fn (OpenSpec.ofChange s) apart (w.forCall tape i).memory i.args) ∧ a.holds C.prog (lone (Frame.enter C.prog f i.args .normal) [] (w.forCall tape i)))
    (contract : ∀ (W : World) (base : Nat) (args : Array Value) (ds gs : List (DataW H)) (before : List MemPlace),
      (∀ (j : Nat) t v, fn.params[j]? = some t → args[j]? = some v → Value.okWide C.prog W .any base t v) →
      DataW.Whole enc C.prog fn.params.toList s.vars apart W args.toList ds gs before →
      X W args → W.ShapedOpen C.prog →
      Calls C.prog f args W fun e W' => ∃ v, e = .returned v ∧ s.post enc C.prog fn apart fresh handsOn again W args v W') :
    ReturnsInHanded a C os f .any (fun w args => (s.pre enc C.prog fn conds apart w args ∧ X w args) ∧ sizedMet enc C.prog fn (OpenSpec.ofChange s) apart w args) (s.post enc C.prog fn apart fresh handsOn again) := by
  refine returnsInHanded_of_calls own started noInit witness ?_
  intro w tape i _ hsh _ hok hpre hholds
  obtain ⟨_, _, _, fn', hfn', _, _, _, _, hval⟩ := hok
  have e : fn' = fn := Option.some.inj (hfn'.symm.trans hfn)
  subst e
  obtain ⟨⟨⟨ds, gs, before, hw, hc⟩, hx⟩, hz⟩ := hpre
  have hw' := DataW.Whole.of_heap (w' := w.forCall tape i) (by rfl) hw
  refine (contract (w.forCall tape i) w.heap.size i.args ds gs before hval hw' (hX _ _ _ (by rfl) hx) hsh).mono fun e W' ⟨v, he, hp⟩ => ?_
  subst he
  exact ChangeSpec.post_blind hp
theorem var_below {P : Program} {W W' : World} {n : String} {cs : Array Value} (hb : Below W.heap.size W W') (h : W.var? P n = some cs) : W'.var? P n = some cs := by
  unfold World.var? at h ⊢
  cases hg : P.globalNamed n with
  | none => simp [hg] at h
  | some g =>
    simp only [hg, Option.bind_some] at h ⊢
    have hlt : g < W.heap.size := by
      rcases Nat.lt_or_ge g W.heap.size with h' | h'
      · exact h'
      · simp [Array.getElem?_eq_none h'] at h
    rw [hb.block g hlt]
    exact h
theorem post_law_v {P : Program} {f : Func} {s : ChangeSpec} {apart fresh handsOn : Bool} {W W' : World} {args : Array Value} {ds gs : List (DataW H)} {before pa pv : List MemPlace} {tb : TypeId}
    (hW : DataW.Whole enc P f.params.toList s.vars apart W args.toList ds gs before) (hr : f.resultTypes = #[tb]) (htb : P.underlying tb = some .bool)
    (hs : s.fn H (ds ++ gs) = { results := [.lit (.bool true)], args := ds, vars := gs }) (hb : Below W.heap.size W W') (hps : before = pa ++ pv)
    (hargs : DataW.TrodAll enc P W' 0 (fun b => decide (b < W.heap.size)) true f.params.toList args.toList ds pa)
    (hvars : DataW.TrodVars enc P W' (fun b => decide (b < W.heap.size)) s.vars gs pv) :
    s.post enc P f apart fresh handsOn false W args (.bool true) W' := by
  refine ⟨ds, gs, before, [], pa, pv, hW, ?_, ?_, ?_, World.keptBut_mono (fun p hp => ⟨hp, ?_⟩) (hb.frame (· ∈ before)), fun h => by cases h⟩
  · rw [hs, hr]
    exact ChangeShapes.trodAll_mk1 ⟨1, by simp [Value.cells, DataW.trod, htb]⟩
  · rw [hs]; exact hargs
  · rw [hs]; exact hvars
  · rw [hps, List.mem_append] at hp
    exact .inr hp
end Go.Eng
namespace Go.Proofs.YtnegknkhccfmfaaDoor
open Go Go.Eng Go.Cats Go.ChangeShapes Go.WideShapes Go.RowKit
theorem Tryd.own34_ : ownKnob Tryd.checked.prog.godebug = none := by kernel_rfl
theorem Tryd.laidOut34_ : laidOutB Tryd.prog = true := by kernel_rfl
theorem Tryd.gErr34 : Tryd.prog.globalNamed (Rows.fnExactParseFunctorSpec.vars.getD 0 default) = some 0 := by kernel_rfl
theorem Tryd.gErrType34 : (Tryd.prog.globals[0]?).map (·.type) = some 55 := by kernel_rfl
theorem Tryd.cellsE34 : Tryd.prog.cellsOf 119 = 1 := by kernel_rfl
theorem Tryd.cellsS34 : Tryd.prog.cellsOf 9 = 1 := by kernel_rfl
theorem Tryd.star34 : "*" ++ "errors.errorString" = "*errors.errorString" := by decide
theorem Tryd.row34 (u : TypeId) (h : Tryd.prog.typeName? 3 u = some "*errors.errorString") : u = 102 :=
  typeName_ptr_named (nm := "errors.errorString") (by rw [Tryd.star34]; kernel_rfl) (by kernel_rfl) (by decide) u (by rw [Tryd.star34]; exact h)
theorem parseFunctor_lifted (os : Os) (started : os.Started) (H : Type) (enc : TypeId × Value → H) :
    ReturnsInHanded {} Tryd.checked os 3 .any (fun w args => (Rows.fnExactParseFunctorSpec.pre enc Tryd.prog Tryd.f3 [] false w args ∧ laidMetH Tryd.prog Rows.fnExactParseFunctorRow.laid w) ∧ sizedMet enc Tryd.prog Tryd.f3 (OpenSpec.ofChange Rows.fnExactParseFunctorSpec) false w args)
      (Rows.fnExactParseFunctorSpec.post enc Tryd.prog Tryd.f3 false true false false) := by
  refine handed_laid_shaped (C := Tryd.checked) (X := fun w _ => laidMetH Tryd.prog Rows.fnExactParseFunctorRow.laid w) (fun _ _ _ hh h => h.of_heap hh) Tryd.own34_ started (by kernel_rfl) Tryd.func3
    (ChangeSpec.witness_shaped (enc := enc) (C := Tryd.checked) (os := os) (X := fun w _ => laidMetH Tryd.prog Rows.fnExactParseFunctorRow.laid w) false (World.laidAll Tryd.prog os Rows.fnExactParseFunctorRow.laid) #[.agg #[.int .i64 0, .slice none 0 0, .slice none 0 0, .slice none 0 0, .slice none 0 0], .agg #[.int .i64 0, .slice none 0 0, .slice none 0 0, .slice none 0 0, .slice none 0 0], .string ⟨#[]⟩] 8 (World.laidAll_os _ _ _)
      (World.shaped_of_ZipB (by kernel_rfl) (by kernel_rfl)) (by kernel_rfl) (by kernel_rfl) (by kernel_rfl)
      (by rw [MakeChecks.laidMetH_plain _ _ _ (by kernel_rfl)]; exact laidMet_laidAll _ (by kernel_rfl) (by kernel_rfl))) ?_
  intro W base args ds gs before hval0 hW hL hsh
  have hval : ∀ (j : Nat) t v, Tryd.f3.params[j]? = some t → args[j]? = some v → Value.okWide Tryd.prog W .any base t v := hval0
  have hW' := hW
  obtain ⟨p, q, hA0, hV, rfl, hfz, hnd⟩ := hW
  rw [MakeChecks.laidMetH_plain _ _ _ (by kernel_rfl)] at hL
  obtain ⟨ea, es, hv0, _, _, _⟩ := laid_sentinel hL.tail Tryd.gErr34 Tryd.gErrType34 Tryd.underlying55 Tryd.row34 Tryd.underlying102 Tryd.underlying119 rfl rfl Tryd.underlying9 Tryd.cellsE34 Tryd.cellsS34
  have hcell : W.cell? ⟨0, 0, none⟩ = some (.iface 102 (.pointer (some ea))) := by simpa using World.var?_cell Tryd.gErr34 hv0 0
  obtain ⟨m, hm⟩ := Tryd.laysM145.s1_3 W hsh
  obtain ⟨rfl, rfl⟩ := hV.unique (vars_read1 enc Tryd.gErr34 Tryd.gErrType34 Tryd.underlying55 hv0 trivial _)
  have hA : DataW.TrodAll enc Tryd.prog W 0 (fun _ => true) true [25, 25, 9] args.toList ds p := hA0
  obtain ⟨v0, v1, v2, d0, d1, d2, p0, p1, p2, rfl, rfl, rfl, h0, h1, h2⟩ := trodAll_three hA
  obtain ⟨cs0, rfl, _⟩ := okWide_struct Tryd.underlying25 (hval 0 25 v0 rfl rfl)
  obtain ⟨fuel0, hf0⟩ := h0
  have hg0 := hf0
  rw [show (Value.agg cs0).cells.toList = cs0.toList from rfl] at hf0
  obtain ⟨a0, hm0, hok0⟩ := rd_cat hf0
  obtain ⟨cs1, rfl, _⟩ := okWide_struct Tryd.underlying25 (hval 1 25 v1 rfl rfl)
  obtain ⟨fuel1, hf1⟩ := h1
  have hg1 := hf1
  rw [show (Value.agg cs1).cells.toList = cs1.toList from rfl] at hf1
  obtain ⟨a1, hm1, hok1⟩ := rd_cat hf1
  have h2' := h2
  obtain ⟨s2, rfl, rfl, rfl, ws2⟩ := Go.ChangeMaps.open_string Tryd.underlying9 (hval 2 9 v2 rfl rfl) h2
  have hlt : ∀ y ∈ p0 ++ p1, y.block < W.heap.size := fun y hy => hW'.lt y (by
    rcases List.mem_append.1 hy with h | h
    · simp [h]
    · simp [h])
  have hz : 0 < W.heap.size ∧ 1 < W.heap.size := by
    have k : ∀ i x, W.cell? ⟨i, 0, none⟩ = some x → i < W.heap.size := fun i x h => by
      rcases Nat.lt_or_ge i W.heap.size with h' | h'
      · exact h'
      · simp [World.cell?, Array.getElem?_eq_none h'] at h
    exact ⟨k 0 _ hcell, k 1 _ hm⟩
  refine (sp_FnExactParseFunctor (a0 := a0) (a1 := a1) (x := .iface 102 (.pointer (some ea))) (t := s2.data.toList) ⟨_, _, rfl⟩ hm0 hm1 W (Old W) (Old W) _ [.agg cs0, .agg cs1, .string s2] ⟨hz.1, hcell, hz.2, m, hm⟩ (hp_start W) ?_).mono fun ed W' ⟨v, c1, he, hp, hv, _⟩ => ?_
  · simp only [Sv.okL, Sv.ok]
    exact ⟨_, _, rfl, ⟨cs0.toList, by simp, hok0 _ _⟩, _, _, rfl, ⟨cs1.toList, by simp, hok1 _ _⟩, _, _, rfl, bst_eta s2, rfl⟩
  · simp only [Sv.ok] at hv
    subst hv
    subst he
    have hb := below_of_hp hp
    refine ⟨_, rfl, post_law_v hW' rfl Tryd.underlying4 rfl hb rfl ?_ (vars_read1 enc Tryd.gErr34 Tryd.gErrType34 Tryd.underlying55 (var_below hb hv0) trivial _)⟩
    rw [List.append_nil]
    have h3 := trodAll_mk3 (Below.trod Tryd.laidOut34_ (by kernel_rfl) (of_decide_eq_true (by kernel_rfl)) ⟨fuel0, hg0⟩ hb (fun y hy => hlt y (by simp [hy]))) (Below.trod Tryd.laidOut34_ (by kernel_rfl) (of_decide_eq_true (by kernel_rfl)) ⟨fuel1, hg1⟩ hb (fun y hy => hlt y (by simp [hy]))) (Below.trod Tryd.laidOut34_ (by kernel_rfl) (of_decide_eq_true (by kernel_rfl)) h2' hb (fun y hy => by simp at hy))
    rw [List.append_nil] at h3
    exact h3
theorem parseFunctor_said : Rows.FnExactParseFunctorSaid :=
  OpenClaim.holds_of_wide 3 Tryd.f3 rfl rfl rfl rfl rfl rfl rfl ⟨rfl, rfl, rfl, rfl, rfl⟩ rfl rfl rfl rfl rfl (by kernel_rfl) Tryd.func3 (by kernel_rfl)
    (of_decide_eq_true (by kernel_rfl)) (by unfold Func.isWrapper; first | (rw [if_pos (by decide +kernel)]; kernel_rfl) | (rw [if_neg (by decide +kernel)]; exact ⟨rfl, rfl⟩))
    (fun os started H enc _ => parseFunctor_lifted os started H enc)
theorem parseFunctor_holds : Rows.FnExactParseFunctorCardSaid :=
  Claim7.holds_tied_plain_at .later [] [.data, .sentinel, .pinned] true _ false parseFunctor_said (fun _ h => by cases h) (by kernel_rfl) (fun _ h => by cases h) fnExactParseFunctor_row_tie rfl ⟨rfl, rfl⟩ (by kernel_rfl) rfl
    (fun f fn hf hfn => by
      obtain rfl : f = 3 := Option.some.inj ((show Tryd.prog.funcNamed Rows.fnExactParseFunctorRow.func = some 3 by kernel_rfl).symm.trans hf) |>.symm
      obtain rfl : fn = Tryd.f3 := (Option.some.inj (Tryd.func3.symm.trans hfn)).symm
      exact ⟨by kernel_rfl, fun j t ht => by
        have hm : t ∈ [25, 25, 9] := by
          rw [show Tryd.f3.params = #[25, 25, 9] from rfl] at ht
          simpa using Array.mem_of_getElem? ht
        have hall : ([25, 25, 9].all fun u => !Tryd.prog.wantsStandIn u) = true := by kernel_rfl
        exact (show Tryd.prog.wantsStandIn t = false by simpa using List.all_eq_true.1 hall t hm)⟩)
    (by kernel_rfl)
#print axioms parseFunctor_holds
end Go.Proofs.YtnegknkhccfmfaaDoor
