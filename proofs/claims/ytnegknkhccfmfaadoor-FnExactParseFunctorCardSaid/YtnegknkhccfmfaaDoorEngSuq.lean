/- The engine, part SU: package-level variables that are read; the library's contracts on texts as contracts on described values. -/
import Derived.Test.YtnegknkhccfmfaaDoorEngStq
import Derived.Lib.SplitLaws
import Derived.Deep.Draws
set_option linter.unusedVariables false
set_option linter.unusedSimpArgs false
namespace Go.Eng
open Go Go.Lib
def GlR (g : Nat) (x : Value) (g1 : Nat) (w : World) (S : Nat → Prop) : Prop := S g ∧ w.cell? ⟨g, 0, none⟩ = some x ∧ S g1 ∧ ∃ m : Int, w.cell? ⟨g1, 0, none⟩ = some (.int .i64 m)
theorem GlR.ok {X : Cx} {g g1 : Nat} {x : Value} (h : GlR g x g1 X.w0 X.S) : RdOk X (GlR g x g1) := fun w S ag hS =>
  ⟨hS _ h.1, by rw [cell_agree ag h.1]; exact h.2.1, hS _ h.2.2.1, by obtain ⟨m, hm⟩ := h.2.2.2; exact ⟨m, by rw [cell_agree ag h.2.2.1]; exact hm⟩⟩
theorem HkX.glob {X : Cx} {E : Env} {d : Option Nat} {t : TypeId} {g g1 : Nat} {x : Value} {σ : Ss} {K : Ss → Prop} (hG : GlR g x g1 X.w0 X.S) (ht : E.P.underlying t = some (.interface (E.P.methodsAt t)))
    (hK : K (σ.ap d (.v x) [] σ.nx)) : HkX X E d (.load t (.global g)) σ K := by
  refine ⟨[], _, [], _, fun w1 U1 ds hr o hd ho hdn tm rs h1 h2 => ?_, hK, fun i hi => by simp at hi⟩
  refine step_val (E := E) (by rw [hd]; exact hdn) _ fun ac w c hp h => ?_
  have ag : Agree X.S X.w0 w := fun b hb => ((hp.unch.mono hp.sub) b hb ▸ (hr.agree.mono hr.ssub) b hb ▸ rfl)
  have hc : w.cell? ⟨g, 0, none⟩ = some x := by rw [cell_agree ag hG.1]; exact hG.2.1
  have he : ac.eval (.global g) = .pointer (some ⟨g, 0, none⟩) := rfl
  have ha : (isAgg t).run E.P w = .ok false w := by
    unfold isAgg
    simp only [Sem.run_bind, run_underlying ht, Result.andThen_ok]
    rfl
  simp [execOp, ho, he, Instr.loadAt, Instr.sureAddr, loadVar, ha, load, Sem.run, hc]
theorem okL_vals {w : World} {S : Nat → Prop} {c : Nat → Cn} {rs : Nat → Rs} : ∀ {xs vs : List Value}, Sv.okL w S c rs (xs.map Sv.v) vs → vs = xs
  | [], vs, h => by simpa [Sv.okL] using h
  | x :: xs, vs, h => by
    simp only [List.map_cons, Sv.okL, Sv.ok] at h
    obtain ⟨v, r, rfl, rfl, h2⟩ := h
    rw [okL_vals h2]
theorem vals_okL {w : World} {S : Nat → Prop} {c : Nat → Cn} {rs : Nat → Rs} : ∀ {xs : List Value}, Sv.okL w S c rs (xs.map Sv.v) xs
  | [] => by simp [Sv.okL]
  | x :: xs => by
    simp only [List.map_cons, Sv.okL, Sv.ok]
    exact ⟨x, xs, rfl, rfl, vals_okL⟩
theorem Hp.drewN {w0 w : World} {U S : Nat → Prop} {c : Nat → Cn} {rs : Nat → Rs} (hp : Hp w0 U S c rs w) : ∀ n, Hp w0 U S c rs (w.drewN n)
  | 0 => hp
  | n + 1 => (hp.drewN n).drew
theorem specR_vals {P : Program} {f : FuncId} {xs ys : List Value} {R : World → (Nat → Prop) → Prop} (h : ∀ w S, R w S → Calls P f xs.toArray w fun e w' => e = .returned (.tuple ys.toArray) ∧ ∃ n, w' = w.drewN n) :
    SpecR P f (xs.map .v) [] (.tup (ys.map .v)) [] R := fun w0 U S c0 vs hR hp ha => by
  have e := okL_vals ha
  subst e
  refine (h w0 S hR).mono fun e w' ⟨he, n, hw⟩ => ⟨_, c0, he, ?_, ?_, fun i hi => by simp [rsL_nil] at hi⟩
  · subst hw; exact hp.drewN n
  · simp only [Sv.ok]
    exact ⟨ys, rfl, vals_okL⟩
theorem specR_strs {P : Program} {f : FuncId} {xs : List Value} {l : List (List UInt8)} {ety : TypeId} {R : World → (Nat → Prop) → Prop}
    (h : ∀ w S, R w S → Calls P f xs.toArray w fun e w' => e = .returned (.slice (some ⟨w.heap.size, 0, none⟩) l.length l.length) ∧ w' = w.alloc (.cells (l.map bst).toArray ety)) (hl : l.length ≤ maxLen) :
    SpecR P f (xs.map .v) [] (.sl 0) [(0, ⟨1, .arr (strsD l)⟩)] R := fun w0 U S c0 vs hR hp ha => by
  have e := okL_vals ha
  subst e
  refine (h w0 S hR).mono fun e w' ⟨he, hw⟩ => ?_
  subst hw
  obtain ⟨hp', hx⟩ := new_res (X := ⟨w0, U, S, c0, rsL [], 0, none, []⟩) (w' := w0.alloc (.cells (l.map bst).toArray ety)) hp 0 (by simp [rsL_nil]) ⟨w0.heap.size, .slice (some ⟨w0.heap.size, 0, none⟩) l.length l.length, fun b => b = w0.heap.size⟩ (.arr (strsD l)) rfl rfl rfl (by simp) (agree_alloc w0 _)
    (fun b hb => by have hb' : b = w0.heap.size := hb; subst hb'; simp) rfl (fun hx => by
      refine ⟨?_, fun a m k hh => by simp at hh; exact hh.1.symm⟩
      unfold strsD
      simp only [OwV]
      refine ⟨by omega, .inr ⟨w0.heap.size, l.length, l.length, _, ety, rfl, by simp, Nat.le_refl _, hl, rfl, heap_alloc_new w0 _, by simp, ?_⟩⟩
      rw [OwL.flat (by simp [Dt.isV])]
      simp [Dt.val, Function.comp_def]
      exact List.take_of_length_le (by simp))
  have e1 : upd (rsL []) 0 (⟨1, .arr (strsD l)⟩ : Rs) = rsL [(0, ⟨1, .arr (strsD l)⟩)] := by
    funext i
    rw [rsL_cons]
    unfold upd
    by_cases h : i = 0
    · simp [h]
    · simp [h]
  have hp2 : Hp w0 U S (upd c0 0 ⟨w0.heap.size, .slice (some ⟨w0.heap.size, 0, none⟩) l.length l.length, fun b => b = w0.heap.size⟩) (rsL [(0, ⟨1, .arr (strsD l)⟩)]) (w0.alloc (.cells (l.map bst).toArray ety)) := e1 ▸ hp'
  refine ⟨_, _, he, hp2, ?_, fun i hi => by simp [rsL_nil] at hi⟩
  simp only [Sv.ok]
  exact ⟨Nat.le_refl 1, by simp [upd]⟩
theorem specR_cut {P : Program} {f : FuncId} {g1 : Nat} {R : World → (Nat → Prop) → Prop} {s sep : List UInt8} (hR : ∀ w S, R w S → ∃ m : Int, w.cell? ⟨g1, 0, none⟩ = some (.int .i64 m))
    (h : ∀ (s sep : ByteArray) (m : Int) (w : World), s.size < 4294967281 → w.cell? ⟨g1, 0, none⟩ = some (.int .i64 m) →
      Calls P f #[.string s, .string sep] w fun e w' => e = .returned (.tuple #[.string ⟨(Lib.cut s.data.toList sep.data.toList).1.toArray⟩, .string ⟨(Lib.cut s.data.toList sep.data.toList).2.1.toArray⟩, .bool (Lib.cut s.data.toList sep.data.toList).2.2]) ∧ ∃ n, w' = w.drewN n)
    (hs : s.length < 4294967281) : SpecR P f [.v (bst s), .v (bst sep)] [] (.tup [.v (bst (Lib.cut s sep).1), .v (bst (Lib.cut s sep).2.1), .v (.bool (Lib.cut s sep).2.2)]) [] R :=
  specR_vals (xs := [bst s, bst sep]) (ys := [bst (Lib.cut s sep).1, bst (Lib.cut s sep).2.1, .bool (Lib.cut s sep).2.2]) fun w S hw => by
    obtain ⟨m, hm⟩ := hR w S hw
    exact h ⟨s.toArray⟩ ⟨sep.toArray⟩ m w (by rw [bst_size]; exact hs) hm
theorem strs_data (l : List ByteArray) : l.map Value.string = (l.map (·.data.toList)).map bst := by
  rw [List.map_map]
  refine List.map_congr_left fun b _ => ?_
  exact bst_eta b
theorem specR_split {P : Program} {f : FuncId} {g1 : Nat} {ety : TypeId} {R : World → (Nat → Prop) → Prop} {s sep : List UInt8} (hR : ∀ w S, R w S → ∃ m : Int, w.cell? ⟨g1, 0, none⟩ = some (.int .i64 m))
    (h : ∀ (s sep : ByteArray) (m : Int) (w : World), s.size < 4294967281 → w.cell? ⟨g1, 0, none⟩ = some (.int .i64 m) → 1 ≤ sep.size →
      Calls P f #[.string s, .string sep] w fun e w' => e = .returned (.slice (some ⟨w.heap.size, 0, none⟩) (Lib.countB s sep + 1) (Lib.countB s sep + 1)) ∧ w' = w.alloc (.cells ((Lib.splitB sep 0 (Lib.countB s sep) s).map Value.string).toArray ety))
    (hs : s.length < 4294967281) (h1 : 1 ≤ sep.length) : SpecR P f [.v (bst s), .v (bst sep)] [] (.sl 0) [(0, ⟨1, .arr (strsD (Lib.split s sep))⟩)] R := by
  have hsz : 1 ≤ (⟨sep.toArray⟩ : ByteArray).size := by rw [bst_size]; exact h1
  have e1 : (Lib.splitB ⟨sep.toArray⟩ 0 (Lib.countB ⟨s.toArray⟩ ⟨sep.toArray⟩) ⟨s.toArray⟩).map (·.data.toList) = Lib.split s sep := Lib.splitB_data _ _ _ _
  have e2 : (Lib.split s sep).length = Lib.countB ⟨s.toArray⟩ ⟨sep.toArray⟩ + 1 := by
    rw [← e1, List.length_map]
    exact Lib.splitB_all _ hsz 0 _ _ rfl
  have e3 := Lib.countB_le ⟨sep.toArray⟩ hsz (⟨s.toArray⟩ : ByteArray).size ⟨s.toArray⟩ (Nat.le_refl _)
  rw [bst_size] at e3
  refine specR_strs (xs := [bst s, bst sep]) (ety := ety) (fun w S hw => ?_) (by rw [e2]; unfold maxLen; omega)
  obtain ⟨m, hm⟩ := hR w S hw
  have := h ⟨s.toArray⟩ ⟨sep.toArray⟩ m w (by rw [bst_size]; exact hs) hm hsz
  rw [strs_data, e1] at this
  rw [e2]
  exact this
end Go.Eng
