/- The engine, part ST: texts: compared, joined, cut, read byte by byte and rune by rune; lists of texts; package-level variables that are only read. -/
import Derived.Test.YtnegknkhccfmfaaDoorKzx
import Derived.Laws.RangeString
import Derived.Laws.Strings
import Derived.Laws.Strings2
import Derived.Lib.IndexBytes
import Derived.WideLaws
set_option linter.unusedVariables false
set_option linter.unusedSimpArgs false
namespace Go.Eng
open Go Go.Lib
abbrev bst (w : List UInt8) : Value := .string ⟨w.toArray⟩
theorem bst_size (w : List UInt8) : (⟨w.toArray⟩ : ByteArray).size = w.length := by
  show w.toArray.size = w.length
  simp
attribute [go_sem] bst_size
@[go_sem] theorem bst_one (w : List UInt8) : (bst w).oneCell' = true := rfl
theorem bst_eta (b : ByteArray) : Value.string b = bst b.data.toList := by
  obtain ⟨⟨l⟩⟩ := b
  rfl
theorem bst_add (a b : List UInt8) : (⟨a.toArray⟩ : ByteArray) ++ ⟨b.toArray⟩ = ⟨(a ++ b).toArray⟩ := by
  apply ByteArray.ext
  rw [ByteArray.data_append]
  simp
theorem bst_ext (a : List UInt8) (l h : Nat) : (⟨a.toArray⟩ : ByteArray).extract l h = ⟨((a.drop l).take (h - l)).toArray⟩ := by
  apply ByteArray.ext
  apply Array.ext'
  rw [extract_data]
theorem bst_get (a : List UInt8) (i : Nat) (h : i < a.length) : ((⟨a.toArray⟩ : ByteArray)[i]'(by rw [bst_size]; exact h)) = a.getD i 0 := by
  rw [List.getD_eq_getElem?_getD, List.getElem?_eq_getElem h]
  show a.toArray[i]'(by simpa using h) = _
  simp
section
variable {E : Env} {d : Option Nat} {σ : Ss} {K : Ss → Prop} {t u : TypeId} {x y : Operand} {a b : List UInt8}
theorem hook_seq (ht : E.P.underlying t = some .string) (hx : σ.opd x = .v (bst a)) (hy : σ.opd y = .v (bst b)) (hK : K (σ.ap d (.v (.bool (decide (a = b)))) [] σ.nx)) : EvHook E d (.binOp .eql t x y u) σ K := by
  refine ⟨[], _, [], _, fun X o _ hd ho hdn tm rs h1 h2 => ?_, hK, fun i hi => by simp at hi⟩
  refine step_val (E := E) (by rw [hd]; exact hdn) _ fun ac w c hp h => ?_
  have hx1 := h x
  have hy1 := h y
  have ex : opd tm x = σ.opd x := h1 x (by rw [ho]; simp [Op.operands])
  have ey : opd tm y = σ.opd y := h1 y (by rw [ho]; simp [Op.operands])
  rw [ex, hx] at hx1
  rw [ey, hy] at hy1
  simp only [Sv.ok] at hx1 hy1
  have e : (a == b) = decide (a = b) := by rw [Bool.eq_iff_iff]; simp
  simp [execOp, ho, hx1, hy1, eqGuard, binOp_string_eql, e]
theorem hook_sne (ht : E.P.underlying t = some .string) (hx : σ.opd x = .v (bst a)) (hy : σ.opd y = .v (bst b)) (hK : K (σ.ap d (.v (.bool (!decide (a = b)))) [] σ.nx)) : EvHook E d (.binOp .neq t x y u) σ K := by
  refine ⟨[], _, [], _, fun X o _ hd ho hdn tm rs h1 h2 => ?_, hK, fun i hi => by simp at hi⟩
  refine step_val (E := E) (by rw [hd]; exact hdn) _ fun ac w c hp h => ?_
  have hx1 := h x
  have hy1 := h y
  have ex : opd tm x = σ.opd x := h1 x (by rw [ho]; simp [Op.operands])
  have ey : opd tm y = σ.opd y := h1 y (by rw [ho]; simp [Op.operands])
  rw [ex, hx] at hx1
  rw [ey, hy] at hy1
  simp only [Sv.ok] at hx1 hy1
  have e : (a == b) = decide (a = b) := by rw [Bool.eq_iff_iff]; simp
  simp [execOp, ho, hx1, hy1, eqGuard, binOp_string_neq, e]
theorem hook_sadd (hx : σ.opd x = .v (bst a)) (hy : σ.opd y = .v (bst b)) (hl : a.length + b.length ≤ 9223372036854775807) (hK : K (σ.ap d (.v (bst (a ++ b))) [] σ.nx)) : EvHook E d (.binOp .add t x y u) σ K := by
  refine ⟨[], _, [], _, fun X o _ hd ho hdn tm rs h1 h2 => ?_, hK, fun i hi => by simp at hi⟩
  refine step_val (E := E) (by rw [hd]; exact hdn) _ fun ac w c hp h => ?_
  have hx1 := h x
  have hy1 := h y
  have ex : opd tm x = σ.opd x := h1 x (by rw [ho]; simp [Op.operands])
  have ey : opd tm y = σ.opd y := h1 y (by rw [ho]; simp [Op.operands])
  rw [ex, hx] at hx1
  rw [ey, hy] at hy1
  simp only [Sv.ok] at hx1 hy1
  have e : ¬ (((⟨a.toArray⟩ : ByteArray).size + (⟨b.toArray⟩ : ByteArray).size : Nat) : Int) > IntKind.i64.max := by
    rw [bst_size, bst_size]
    simp [IntKind.max, IntKind.bits, IntKind.signed]
    omega
  simp [execOp, ho, hx1, hy1, eqGuard, binOp_string_add, Op.stringOp, e, bst_add]
  rw [bst_size, bst_size]
  omega
theorem hook_sidx {i : Int} (ht : E.P.underlying t = some .string) (hx : σ.opd x = .v (bst a)) (hy : σ.opd y = .v (.int .i64 i)) (h0 : 0 ≤ i) (h1 : i < a.length) (hK : K (σ.ap d (.v (.int .u8 (a.getD i.toNat 0).toNat)) [] σ.nx)) : EvHook E d (.index t x y) σ K := by
  refine ⟨[], _, [], _, fun X o _ hd ho hdn tm rs g1 g2 => ?_, hK, fun i hi => by simp at hi⟩
  refine step_val (E := E) (by rw [hd]; exact hdn) _ fun ac w c hp h => ?_
  have hx1 := h x
  have hy1 := h y
  have ex : opd tm x = σ.opd x := g1 x (by rw [ho]; simp [Op.operands])
  have ey : opd tm y = σ.opd y := g1 y (by rw [ho]; simp [Op.operands])
  rw [ex, hx] at hx1
  rw [ey, hy] at hy1
  simp only [Sv.ok] at hx1 hy1
  have e : 0 ≤ i ∧ i < (⟨a.toArray⟩ : ByteArray).size := ⟨h0, by rw [bst_size]; exact h1⟩
  have e2 := bst_get a i.toNat (by omega)
  simp [execOp, ho, hx1, hy1, run_index_string _ _ _ _ _ ht, e, e2]
theorem hook_ssub {z : Operand} {l m : Int} (ht : E.P.underlying t = some .string) (hx : σ.opd x = .v (bst a)) (hy : σ.opd y = .v (.int .i64 l)) (hz : σ.opd z = .v (.int .i64 m)) (h0 : 0 ≤ l) (h1 : l ≤ m) (h2 : m ≤ a.length)
    (hK : K (σ.ap d (.v (bst ((a.drop l.toNat).take (m.toNat - l.toNat)))) [] σ.nx)) : EvHook E d (.slice t x (some y) (some z) none) σ K := by
  refine ⟨[], _, [], _, fun X o _ hd ho hdn tm rs g1 g2 => ?_, hK, fun i hi => by simp at hi⟩
  refine step_val (E := E) (by rw [hd]; exact hdn) _ fun ac w c hp h => ?_
  have hx1 := h x
  have hy1 := h y
  have hz1 := h z
  have ex : opd tm x = σ.opd x := g1 x (by rw [ho]; simp [Op.operands])
  have ey : opd tm y = σ.opd y := g1 y (by rw [ho]; simp [Op.operands])
  have ez : opd tm z = σ.opd z := g1 z (by rw [ho]; simp [Op.operands])
  rw [ex, hx] at hx1
  rw [ey, hy] at hy1
  rw [ez, hz] at hz1
  simp only [Sv.ok] at hx1 hy1 hz1
  have e := run_slice_string (P := E.P) w t ⟨a.toArray⟩ .i64 .i64 l m ht h0 h1 (by rw [bst_size]; exact h2)
  simp [execOp, ho, hx1, hy1, hz1, run_sliceAt_string _ _ _ _ _ _ ht, e, bst_ext]
theorem hook_sdrop {l : Int} (ht : E.P.underlying t = some .string) (hx : σ.opd x = .v (bst a)) (hy : σ.opd y = .v (.int .i64 l)) (h0 : 0 ≤ l) (h1 : l ≤ a.length)
    (hK : K (σ.ap d (.v (bst (a.drop l.toNat))) [] σ.nx)) : EvHook E d (.slice t x (some y) none none) σ K := by
  refine ⟨[], _, [], _, fun X o _ hd ho hdn tm rs g1 g2 => ?_, hK, fun i hi => by simp at hi⟩
  refine step_val (E := E) (by rw [hd]; exact hdn) _ fun ac w c hp h => ?_
  have hx1 := h x
  have hy1 := h y
  have ex : opd tm x = σ.opd x := g1 x (by rw [ho]; simp [Op.operands])
  have ey : opd tm y = σ.opd y := g1 y (by rw [ho]; simp [Op.operands])
  rw [ex, hx] at hx1
  rw [ey, hy] at hy1
  simp only [Sv.ok] at hx1 hy1
  have e := run_slice_string_l (P := E.P) w t ⟨a.toArray⟩ ht .i64 l h0 (by rw [bst_size]; exact h1)
  have e2 : (a.drop l.toNat).take (a.length - l.toNat) = a.drop l.toNat := List.take_of_length_le (by rw [List.length_drop]; exact Nat.le_refl _)
  simp [execOp, ho, hx1, hy1, run_sliceAt_string _ _ _ _ _ _ ht, e, bst_ext, bst_size, e2]
end
/-! ### Lists of texts -/
def strsD (l : List (List UInt8)) : Dt := .sl 1 (.v (.string ByteArray.empty)) (l.map fun w => .v (bst w))
@[go_sem] theorem strs_isSl (l) : (strsD l).isSl = true := rfl
@[go_sem] theorem strs_sz (l) : (strsD l).sz = 1 := rfl
@[go_sem] theorem strs_nc (l : List (List UInt8)) : (strsD l).nc = l.length := by simp [strsD, Dt.nc, Dt.cells]
@[go_sem] theorem strs_len (l : List (List UInt8)) : (strsD l).len = l.length := by simp [strsD, Dt.len, Dt.sz, Dt.nc, Dt.cells]
@[go_sem] theorem strs_at (l : List (List UInt8)) (k : Nat) : (strsD l).at k = .v (bst (l.getD k [])) := by
  simp only [strsD, Dt.at, Dt.cells, Dt.df, List.getD_eq_getElem?_getD, List.getElem?_map]
  cases l[k]? <;> rfl
@[go_sem] theorem ofDt_strs (ts) (l : List (List UInt8)) : Sv.ofDt ts (strsD l) = .bor ts (strsD l) := rfl
@[go_sem] theorem strs_nil1 : Dt.sl 1 (.v (.string ⟨#[]⟩)) [] = strsD [] := rfl
@[go_sem] theorem strs_nil2 : Dt.sl 1 (.v (.string ByteArray.empty)) [] = strsD [] := rfl
@[go_sem] theorem strs_one1 (q : List UInt8) : Dt.sl 1 (.v (.string ⟨#[]⟩)) [.v (bst q)] = strsD [q] := rfl
@[go_sem] theorem strs_flat (l : List (List UInt8)) : (strsD l).flat = true := by
  simp only [strsD, Dt.flat, Dt.cells, List.all_map]
  exact List.all_eq_true.2 fun _ _ => rfl
@[go_sem] theorem strs_ones (l : List (List UInt8)) : (strsD l).ones = true := by
  simp only [strsD, Dt.ones, Dt.cells, List.all_map]
  exact List.all_eq_true.2 fun _ _ => rfl
@[go_sem] theorem strs_app (l m : List (List UInt8)) : Dt.app 1 (.v (.string ⟨#[]⟩)) (strsD l) (strsD m) = strsD (l ++ m) := by simp [strsD, Dt.app, Dt.cells, List.map_append]; rfl
/-! ### A text read rune by rune -/
def itAb (s : List UInt8) (pos : Nat) : Ab :=
  ⟨fun w v F => ∃ r, v = .pointer (some ⟨r, 0, none⟩) ∧ F r ∧ w.heap[r]? = some (.stringIter ⟨s.toArray⟩ pos), by
    rintro w w' v F ag ⟨r, h1, h2, h3⟩
    exact ⟨r, h1, h2, (ag r h2).trans h3⟩⟩
theorem run_next_at {P : Program} (w : World) (r : Nat) (s : ByteArray) (pos : Nat) (ty : TypeId) (h : w.heap[r]? = some (.stringIter s pos)) (hp : pos < s.size) :
    (Instr.next (.pointer (some ⟨r, 0, none⟩)) true ty).run P w = .ok (.tuple #[.bool true, .int .i64 pos, .int .i32 (Utf8.decode s pos).1]) { w with heap := w.heap.setIfInBounds r (.stringIter s (pos + (Utf8.decode s pos).2)) } := by
  simp [Instr.next, getObj, setObj, Sem.run_bind, Sem.run, h, hp, Result.andThen, goInt]
theorem run_next_over {P : Program} (w : World) (r : Nat) (s : ByteArray) (pos : Nat) (ty : TypeId) (h : w.heap[r]? = some (.stringIter s pos)) (hp : ¬ pos < s.size) :
    (Instr.next (.pointer (some ⟨r, 0, none⟩)) true ty).run P w = .ok (.tuple #[.bool false]) w := by
  simp [Instr.next, getObj, Sem.run_bind, Sem.run, h, hp, Result.andThen]
theorem decode_big (s : ByteArray) (i : Nat) (h : ¬ (s.get! (i + 0)).toNat < 128) : 128 ≤ (Utf8.decode s i).1 ∧ (Utf8.decode s i).1 ≤ 2097151 := by
  have hr : Utf8.runeError = 65533 := rfl
  unfold Utf8.decode
  simp only
  rw [if_neg h]
  split
  · split
    · simp only; omega
    · rw [hr]; decide
  · split
    · split
      · rename_i hc
        simp only [Bool.and_eq_true, decide_eq_true_eq] at hc
        simp only; omega
      · rw [hr]; decide
    · split
      · split
        · rename_i hc
          simp only [Bool.and_eq_true, decide_eq_true_eq] at hc
          simp only; omega
        · rw [hr]; decide
      · rw [hr]; decide
theorem get_at (a : List UInt8) (i : Nat) (h : i < a.length) : (⟨a.toArray⟩ : ByteArray).get! (i + 0) = a.getD i 0 := by
  show a.toArray[i + 0]! = _
  rw [Nat.add_zero, getElem!_pos a.toArray i (by simpa using h), List.getD_eq_getElem?_getD, List.getElem?_eq_getElem h]
  simp
section
variable {E : Env} {d : Option Nat} {σ : Ss} {K : Ss → Prop} {t u : TypeId} {x y : Operand} {a b : List UInt8} {j cv pos : Nat}
theorem hook_srange (ht : E.P.underlying t = some .string) (hx : σ.opd x = .v (bst a)) (hf : σ.get σ.nx = ⟨0, .gone⟩)
    (hK : K (σ.ap d (.sl σ.nx) [(σ.nx, ⟨1, .arr (.ab (itAb a 0))⟩)] (σ.nx + 1))) : EvHook E d (.range t x) σ K := by
  refine ⟨[σ.nx], _, [(σ.nx, _)], _, fun X o _ hd ho hdn tm rs h1 h2 => ?_, hK, fun l hl => .inr (by simpa using hl)⟩
  have hu : rs σ.nx = ⟨0, .gone⟩ := (h2 _ (by simp)).trans hf
  have ex : opd tm x = σ.opd x := h1 x (by rw [ho]; simp [Op.operands])
  refine SStep0.inn ?_
  rintro ac w K Q ⟨hdf, hn, c, hp, hth, hpin⟩ hK
  have hx1 := opd_ok hth x
  rw [ex, hx] at hx1
  simp only [Sv.ok] at hx1
  have hrun := run_range_string (P := E.P) w t ⟨a.toArray⟩ ht
  obtain ⟨hp', hext⟩ := rearr (X := X) (w' := w.iter ⟨a.toArray⟩ 0) hp σ.nx ⟨w.heap.size, .pointer (some ⟨w.heap.size, 0, none⟩), fun y => y = w.heap.size⟩ 1 (.arr (.ab (itAb a 0))) [] (by simp) (by rw [hu]; exact Nat.one_pos) (.inl hu) rfl rfl rfl (by show w.heap.size ≤ (w.heap.push _).size; simp)
    (fun y hy => by
      have hlt : y < w.heap.size := hy.1
      show (w.heap.push _)[y]? = _
      rw [Array.getElem?_push, if_neg (by omega)])
    (fun y hy => .inr (.inr ⟨by rw [show y = w.heap.size from hy]; exact Nat.le_refl _, by rw [show y = w.heap.size from hy]; show w.heap.size < (w.heap.push _).size; simp⟩)) rfl
    (fun _ => ⟨ab_mk rfl ⟨w.heap.size, rfl, rfl, World.iter_heap w _ 0⟩, fun _ _ _ q => by cases q⟩)
  have eg : goneL rs [] = [] := rfl
  rw [eg] at hp' hext
  unfold Oper.wp
  have hrun2 : (execOp ac.eval o).run E.P w = .ok (.value (.pointer (some ⟨w.heap.size, 0, none⟩))) (w.iter ⟨a.toArray⟩ 0) := by
    simp [execOp, ho, hx1, hrun]
  rw [hrun2]
  refine hK _ _ (gam_put hdf hn hth hpin hext hp' (by rw [hd]; exact hdn) ?_)
  simp [Sv.ok, cnU, upd_same]
theorem hook_snext0 (hx : σ.opd x = .sl j) (hj : σ.get j = ⟨cv, .arr (.ab (itAb a pos))⟩) (hp0 : a.length ≤ pos)
    (hK : K (σ.ap d (.tup [.v (.bool false)]) [] σ.nx)) : EvHook E d (.next x true) σ K := by
  refine ⟨[j], _, [], _, fun X o _ hd ho hdn tm rs h1 h2 => ?_, hK, fun l hl => .inl ?_⟩
  · have hr := (h2 j (by simp)).trans hj
    have ex : opd tm x = σ.opd x := h1 x (by rw [ho]; simp [Op.operands])
    refine step_quiet (E := E) (by rw [hd]; exact hdn) fun ac w c hp h => ?_
    have hx1 := h x
    rw [ex, hx] at hx1
    simp only [Sv.ok] at hx1
    have hres := hp.res j
    rw [hr] at hres
    obtain ⟨F', hF, r, q1, q2, q3⟩ := ab_get hres.1
    have hrun := run_next_over (P := E.P) w r _ pos o.type q3 (by rw [bst_size]; omega)
    exact ⟨.tuple #[.bool false], by simp [execOp, ho, hx1.2, q1, hrun], by simp [Sv.ok, Sv.okL]⟩
  · simp only [List.mem_singleton] at hl
    subst hl
    exact reach_self (by simp [Op.operands, hx, Sv.ids])
theorem hook_snext (hx : σ.opd x = .sl j) (hj : σ.get j = ⟨cv, .arr (.ab (itAb a pos))⟩) (hp0 : pos < a.length)
    (hK : K (σ.ap d (.tup [.v (.bool true), .v (.int .i64 pos), .v (.int .i32 (Utf8.decode ⟨a.toArray⟩ pos).1)]) [(j, ⟨cv + 1, .arr (.ab (itAb a (pos + (Utf8.decode ⟨a.toArray⟩ pos).2)))⟩)] σ.nx)) : EvHook E d (.next x true) σ K := by
  refine ⟨[j], _, _, _, fun X o _ hd ho hdn tm rs h1 h2 => ?_, hK, fun l hl => .inr (by simpa using hl)⟩
  have hr := (h2 j (by simp)).trans hj
  have ex : opd tm x = σ.opd x := h1 x (by rw [ho]; simp [Op.operands])
  refine SStep0.inn ?_
  rintro ac w K Q ⟨hdf, hn, c, hp, ht, hpin⟩ hK
  have hx1 := opd_ok ht x
  rw [ex, hx] at hx1
  simp only [Sv.ok] at hx1
  have hres := hp.res j
  rw [hr] at hres
  obtain ⟨F', hF, r, q1, q2, q3⟩ := ab_get hres.1
  have hrun := run_next_at (P := E.P) w r _ pos o.type q3 (by rw [bst_size]; exact hp0)
  have hrl : r < w.heap.size := (Array.getElem?_eq_some_iff.1 q3).1
  obtain ⟨hp', hext⟩ := change_res (X := X) (w' := { w with heap := w.heap.setIfInBounds r (.stringIter ⟨a.toArray⟩ (pos + (Utf8.decode ⟨a.toArray⟩ pos).2)) }) hp j hx1.1 (cv + 1) (by rw [hr]; exact Nat.lt_succ_self _) (.arr (.ab (itAb a (pos + (Utf8.decode ⟨a.toArray⟩ pos).2)))) rfl rfl rfl (by simp)
    (fun y hy => by
      show (w.heap.setIfInBounds r _)[y]? = _
      rw [Array.getElem?_setIfInBounds, if_neg (fun e => hy (by rw [← e]; exact hF r q2))])
    (fun _ => ⟨ab_mk (hp.one j) ⟨r, q1, hF r q2, by
      show (w.heap.setIfInBounds r _)[r]? = _
      rw [Array.getElem?_setIfInBounds, if_pos rfl, if_pos hrl]⟩, hres.2⟩)
  unfold Oper.wp
  have hrun2 : (execOp ac.eval o).run E.P w = .ok (.value (.tuple #[.bool true, .int .i64 pos, .int .i32 (Utf8.decode ⟨a.toArray⟩ pos).1])) { w with heap := w.heap.setIfInBounds r (.stringIter ⟨a.toArray⟩ (pos + (Utf8.decode ⟨a.toArray⟩ pos).2)) } := by
    simp [execOp, ho, hx1.2, q1, hrun]
  rw [hrun2]
  exact hK _ _ (gam_put hdf hn ht hpin hext hp' (by rw [hd]; exact hdn) (by simp only [Sv.ok, Sv.okL]; exact ⟨_, rfl, _, _, rfl, rfl, _, _, rfl, rfl, _, _, rfl, rfl, rfl⟩))
end
def isErr : Value → Bool
  | .nilIface => false
  | _ => true
section
variable {E : Env} {d : Option Nat} {σ : Ss} {K : Ss → Prop} {t u : TypeId} {x : Operand}
theorem hook_ene {v : Value} (ht : E.P.underlying t = some (.interface (E.P.methodsAt t))) (hx : σ.opd x = .v v) (hv : v = .nilIface ∨ ∃ u z, v = .iface u z)
    (hK : K (σ.ap d (.v (.bool (isErr v))) [] σ.nx)) : EvHook E d (.binOp .neq t x (.const .nilIface) u) σ K := by
  refine ⟨[], _, [], _, fun X o _ hd ho hdn tm rs h1 h2 => ?_, hK, fun i hi => by simp at hi⟩
  refine step_val (E := E) (by rw [hd]; exact hdn) _ fun ac w c hp h => ?_
  have hx1 := h x
  have ex : opd tm x = σ.opd x := h1 x (by rw [ho]; simp [Op.operands])
  rw [ex, hx] at hx1
  simp only [Sv.ok] at hx1
  have hy1 : ac.eval (.const .nilIface) = .nilIface := rfl
  rcases hv with rfl | ⟨q, z, rfl⟩
  · simp [execOp, ho, hx1, hy1, eqGuard, run_neq_nil_nil _ _ ht, isErr]
  · simp [execOp, ho, hx1, hy1, eqGuard, run_neq_held_nil _ _ _ _ ht, isErr]
end
end Go.Eng
