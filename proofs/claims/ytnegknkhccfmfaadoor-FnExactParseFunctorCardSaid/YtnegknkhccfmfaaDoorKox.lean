/- Several texts in one: C16, C17. -/
import Derived.Test.YtnegknkhccfmfaaDoorKtx
import Derived.Test.YtnegknkhccfmfaaDoorKpx
set_option linter.unusedSimpArgs false
set_option linter.unusedVariables false
set_option maxRecDepth 100000
set_option maxHeartbeats 16000000
section
namespace Go.Eng
open Go Go.Proofs Go.Cats
theorem cal_markInt64SS : Callable Tryd.prog 31 := ⟨_, Tryd.func31, rfl, rfl⟩
theorem sp_markInt64SS {l : List (List Int)} {k : Int} (hk : 0 ≤ k) (hl : k + sumLen l ≤ 9223372036854775807) (hl2 : l.length ≤ 1048576) : Spec Tryd.prog 31 [.sl 0, iv k] [(0, ⟨1, .arr (intss l)⟩)] (iv (k + sumLen l)) [(0, ⟨1, .arr (intss (marksS k l))⟩)] := by
  refine spec_of_V (E := TE) 1 Tryd.func31 rfl (by simp [Tryd.f31]) fun X hn hX => ?_
  repeat' (first | (with_reducible first | refine V_seq ?_ | refine V_block ?_ | refine V_skip ?_ | refine V_ret ?_ | refine V_exit ?_) | ((with_reducible refine V_cond ?_); simp only [go_sem, simprocAttr]) | ((refine V_region (by rw [hn]; rfl) ?_); intro K hK) | ((first | with_reducible refine evOps_n ?_ | ((with_reducible apply evOps_g); rfl)); intro K hK; simp (contextual := true) only [go_sem, simprocAttr]) | with_reducible refine evOps_nil ?_ | ((with_reducible refine hK _ ?_); clear hK K) | (with_reducible first | refine And.intro ?_ ?_ | refine nxt_n ?_ | refine nxt_r ?_ | refine nxt_e ?_ | refine blk_n ?_ | refine blk_r ?_ | refine blk_same ?_ | refine blk_other (by decide) ?_ | refine noG_n ?_ | refine noG_r ?_ | refine noG_e ?_ | refine inR_mk ?_ ?_) | (refine fun (hc : (_ : Bool) = _) => ?_; try simp only [hcS] at hc))
  all_goals try exact om_
  refine V_loopK (G := {i : Nat // i ≤ l.length ∧ (True)}) (fun ⟨i, _⟩ => [(1, iv (k + sumLen (l.take i))), (5, iv i)]) [0, 4] (fun ⟨i, _⟩ => [(0, ⟨1, .arr (intss (marksS k (l.take i) ++ l.drop i))⟩)]) [0] (fun zz => l.length - zz.1) ⟨0, Nat.zero_le _, by simp [marksS, sumLen]⟩ ?_ ?_
  · exact Imp.au hX
  rintro ⟨i, hii, hwi⟩
  simp only [go_sem, simprocAttr]
  have e1 := marksS_getD l k i
  have e2 := sumLen_take l i
  have e3 := sumLen_le l (i + 1)
  have e4 := marksS_step l k i
  have e5 := sumLen_le l i
  repeat' (first | refine V_at 4 (Imp.open_ 0 i _ [] (.inr ⟨rfl, rfl⟩) (by simp [go_sem, simprocAttr]) (by simp [go_sem, simprocAttr]; omega) rfl (by simp only [go_sem, simprocAttr]) rfl) ?_ | refine V_at 3 (Imp.closeA 0 1 _ _ _ rfl rfl (by decide) (by simp [go_sem, simprocAttr]; omega)) ?_ | (with_reducible first | refine V_seq ?_ | refine V_block ?_ | refine V_skip ?_ | refine V_ret ?_ | refine V_exit ?_) | ((with_reducible refine V_cond ?_); simp only [go_sem, simprocAttr]) | ((refine V_region (by rw [hn]; rfl) ?_); intro K hK) | ((first | with_reducible refine evOps_n ?_ | ((with_reducible apply evOps_g); rfl)); intro K hK; simp (contextual := true) only [go_sem, simprocAttr]) | with_reducible refine evOps_nil ?_ | ((with_reducible refine hK _ ?_); clear hK K) | (with_reducible first | refine And.intro ?_ ?_ | refine nxt_n ?_ | refine nxt_r ?_ | refine nxt_e ?_ | refine blk_n ?_ | refine blk_r ?_ | refine blk_same ?_ | refine blk_other (by decide) ?_ | refine noG_n ?_ | refine noG_r ?_ | refine noG_e ?_ | refine inR_mk ?_ ?_) | ((with_reducible refine evCall_at 30 ?_); refine EvCall.mu (by first | (simp only [go_sem, simprocAttr]; rfl) | rfl) (by first | (simp only [go_sem, simprocAttr]; rfl) | rfl) (by first | (simp only [go_sem, simprocAttr]; rfl) | rfl) (sp_markInt64S ?_ ?_ ?_) cal_markInt64S (by first | (simp only [go_sem, simprocAttr]; rfl) | rfl) (by first | (simp only [go_sem, simprocAttr]; rfl) | rfl) (by simp [go_sem]) (by simp [go_sem]) ?_; all_goals try simp only [go_sem, simprocAttr]) | (refine fun (hc : (_ : Bool) = _) => ?_; try simp only [hcS] at hc))
  all_goals try exact om_
  all_goals try (rw [e1 (by omega)]; first | omega | (have := e2 (by omega); omega))
  · have h1 := e1 (by omega)
    have h2 := e2 (by omega)
    have h4 := e4 (by omega)
    refine ⟨⟨i + 1, by omega, (by trivial)⟩, by simp only; omega, Imp.auto hX (by simp only [go_sem, simprocAttr, h1, h4, h2, Int.natCast_add, Int.add_assoc])⟩
  · have e : i = l.length := by omega
    subst e
    (first | refine ret_auto ?_ | refine ret_auto' ?_); simp only [go_sem, simprocAttr, Tryd.f31]
    simp
theorem sp_heldInt64S_at {l : List Int} {k : Int} {n : Nat} (h : l = marks k n) (hk : 0 ≤ k) (hl : k + n ≤ 9223372036854775807) : Spec Tryd.prog 33 [.bor [] (ints l), iv k] [] (iv (k + n)) [] := by
  subst h
  have e : (marks k n).length = n := marks_length k n
  have h1 := sp_heldInt64S (l := marks k n) (k := k) hk (by rw [e]; exact hl)
  rwa [e, if_pos rfl] at h1
theorem cal_heldInt64SS : Callable Tryd.prog 49 := ⟨_, Tryd.func49, rfl, rfl⟩
theorem sp_heldInt64SS_at {m l : List (List Int)} {k : Int} (h : m = marksS k l) (hk : 0 ≤ k) (hl : k + sumLen l ≤ 9223372036854775807) (hl2 : l.length ≤ 1048576) : Spec Tryd.prog 49 [.bor [] (intss m), iv k] [] (iv (k + sumLen l)) [] := by
  subst h
  refine spec_of_V (E := TE) 0 Tryd.func49 rfl (by simp [Tryd.f49]) fun X hn hX => ?_
  repeat' (first | (with_reducible first | refine V_seq ?_ | refine V_block ?_ | refine V_skip ?_ | refine V_ret ?_ | refine V_exit ?_) | ((with_reducible refine V_cond ?_); simp only [go_sem, simprocAttr]) | ((refine V_region (by rw [hn]; rfl) ?_); intro K hK) | ((first | with_reducible refine evOps_n ?_ | ((with_reducible apply evOps_g); rfl)); intro K hK; simp (contextual := true) only [go_sem, simprocAttr]) | with_reducible refine evOps_nil ?_ | ((with_reducible refine hK _ ?_); clear hK K) | (with_reducible first | refine And.intro ?_ ?_ | refine nxt_n ?_ | refine nxt_r ?_ | refine nxt_e ?_ | refine blk_n ?_ | refine blk_r ?_ | refine blk_same ?_ | refine blk_other (by decide) ?_ | refine noG_n ?_ | refine noG_r ?_ | refine noG_e ?_ | refine inR_mk ?_ ?_) | (refine fun (hc : (_ : Bool) = _) => ?_; try simp only [hcS] at hc))
  all_goals try exact om_
  refine V_loopK (G := {i : Nat // i ≤ l.length ∧ (True)}) (fun ⟨i, _⟩ => [(1, iv (k + sumLen (l.take i))), (5, iv i)]) [0] (fun ⟨i, _⟩ => []) [] (fun zz => l.length - zz.1) ⟨0, Nat.zero_le _, by simp [sumLen]⟩ ?_ ?_
  · exact Imp.au hX
  rintro ⟨i, hii, hwi⟩
  simp only [go_sem, simprocAttr]
  have e1 := marksS_at l k i
  have e2 := sumLen_take l i
  have e3 := sumLen_le l (i + 1)
  by_cases hil : i < l.length
  · have e1 := e1 hil
    have e2 := e2 hil
    repeat' (first | (with_reducible first | refine V_seq ?_ | refine V_block ?_ | refine V_skip ?_ | refine V_ret ?_ | refine V_exit ?_) | ((with_reducible refine V_cond ?_); simp only [go_sem, simprocAttr]) | ((refine V_region (by rw [hn]; rfl) ?_); intro K hK) | ((first | with_reducible refine evOps_n ?_ | ((with_reducible apply evOps_g); rfl)); intro K hK; simp (contextual := true) only [go_sem, simprocAttr]) | with_reducible refine evOps_nil ?_ | ((with_reducible refine hK _ ?_); clear hK K) | (with_reducible first | refine And.intro ?_ ?_ | refine nxt_n ?_ | refine nxt_r ?_ | refine nxt_e ?_ | refine blk_n ?_ | refine blk_r ?_ | refine blk_same ?_ | refine blk_other (by decide) ?_ | refine noG_n ?_ | refine noG_r ?_ | refine noG_e ?_ | refine inR_mk ?_ ?_) | ((with_reducible refine evCall_at 33 ?_); refine EvCall.rq (a := (sp_heldInt64S_at (by first | omega | assumption | rfl) (by first | omega | assumption | rfl) (by first | omega | assumption | rfl))) (b := cal_heldInt64S) (c := ?_); all_goals try simp only [go_sem, simprocAttr]) | (refine fun (hc : (_ : Bool) = _) => ?_; try simp only [hcS] at hc))
    all_goals try exact om_
    refine ⟨⟨i + 1, by omega, (by trivial)⟩, by simp only; omega, Imp.auto hX (by simp only [go_sem, simprocAttr, e2, Int.natCast_add, Int.add_assoc])⟩
  · have e : i = l.length := by omega
    subst e
    repeat' (first | (with_reducible first | refine V_seq ?_ | refine V_block ?_ | refine V_skip ?_ | refine V_ret ?_ | refine V_exit ?_) | ((with_reducible refine V_cond ?_); simp only [go_sem, simprocAttr]) | ((refine V_region (by rw [hn]; rfl) ?_); intro K hK) | ((first | with_reducible refine evOps_n ?_ | ((with_reducible apply evOps_g); rfl)); intro K hK; simp (contextual := true) only [go_sem, simprocAttr]) | with_reducible refine evOps_nil ?_ | ((with_reducible refine hK _ ?_); clear hK K) | (with_reducible first | refine And.intro ?_ ?_ | refine nxt_n ?_ | refine nxt_r ?_ | refine nxt_e ?_ | refine blk_n ?_ | refine blk_r ?_ | refine blk_same ?_ | refine blk_other (by decide) ?_ | refine noG_n ?_ | refine noG_r ?_ | refine noG_e ?_ | refine inR_mk ?_ ?_) | (refine fun (hc : (_ : Bool) = _) => ?_; try simp only [hcS] at hc))
    all_goals try exact om_
    (first | refine ret_auto ?_ | refine ret_auto' ?_); simp only [go_sem, simprocAttr, Tryd.f49]
    rw [List.take_length]
/-! ### The values, marked -/
def _root_.Go.Cats.Cat.mk_ (k : Int) (c : Cat) : Cat := ⟨c.ob, marks k c.fr.length, marks (k + c.fr.length) c.to.length, marks (k + c.fr.length + c.to.length) c.id.length, marksS (k + c.fr.length + c.to.length + c.id.length) c.co⟩
def _root_.Go.Cats.Cat.mkn (c : Cat) : Nat := c.fr.length + c.to.length + c.id.length + sumLen c.co
def _root_.Go.Cats.Fun.mk_ (k : Int) (f : Fun) : Fun := ⟨f.src.mk_ k, f.tgt.mk_ (k + f.src.mkn), marks (k + f.src.mkn + f.tgt.mkn) f.obs.length, marks (k + f.src.mkn + f.tgt.mkn + f.obs.length) f.ars.length⟩
def _root_.Go.Cats.Fun.mkn (f : Fun) : Nat := f.src.mkn + f.tgt.mkn + f.obs.length + f.ars.length
structure MkOk (k : Int) (n : Nat) : Prop where
  lo : 0 ≤ k
  hi : k + n ≤ 9223372036854775807
theorem cal_markCategory : Callable Tryd.prog 10 := ⟨_, Tryd.func10, rfl, rfl⟩
theorem sp_markCategory {c : Cat} {k : Int} (hk : 0 ≤ k) (hl : k + c.mkn ≤ 9223372036854775807) (hb : CatB c) : Spec Tryd.prog 10 [.agg [iv c.ob, .sl 0, .sl 1, .sl 2, .sl 3], iv k] [(0, ⟨1, .arr (ints c.fr)⟩), (1, ⟨1, .arr (ints c.to)⟩), (2, ⟨1, .arr (ints c.id)⟩), (3, ⟨1, .arr (intss c.co)⟩)] (iv (k + c.mkn)) [(0, ⟨1, .arr (ints (c.mk_ k).fr)⟩), (1, ⟨1, .arr (ints (c.mk_ k).to)⟩), (2, ⟨1, .arr (ints (c.mk_ k).id)⟩), (3, ⟨1, .arr (intss (c.mk_ k).co)⟩)] := by
  refine spec_of_V (E := TE) 4 Tryd.func10 rfl (by simp [Tryd.f10]) fun X hn hX => ?_
  unfold Go.Cats.Cat.mkn at hl
  obtain ⟨b1, b2, b3, b4, b5, b6, b7⟩ := hb
  repeat' (first | (with_reducible first | refine V_seq ?_ | refine V_skip ?_ | refine V_ret ?_) | ((with_reducible refine V_cond ?_); simp only [go_sem, simprocAttr]) | ((refine V_region (by rw [hn]; rfl) ?_); intro K hK) | ((first | with_reducible refine evOps_n ?_ | ((with_reducible apply evOps_g); rfl)); intro K hK; simp (contextual := true) only [go_sem, simprocAttr]) | with_reducible refine evOps_nil ?_ | ((with_reducible refine hK _ ?_); clear hK K) | (with_reducible first | refine And.intro ?_ ?_ | refine nxt_n ?_ | refine nxt_r ?_ | refine inR_mk ?_ ?_) | ((with_reducible refine evCall_at 30 ?_); refine EvCall.mu (by first | (simp only [go_sem, simprocAttr]; rfl) | rfl) (by first | (simp only [go_sem, simprocAttr]; rfl) | rfl) (by first | (simp only [go_sem, simprocAttr]; rfl) | rfl) (sp_markInt64S ?_ ?_ ?_) cal_markInt64S (by first | (simp only [go_sem, simprocAttr]; rfl) | rfl) (by first | (simp only [go_sem, simprocAttr]; rfl) | rfl) (by simp [go_sem]) (by simp [go_sem]) ?_; all_goals try simp only [go_sem, simprocAttr]) | ((with_reducible refine evCall_at 31 ?_); refine EvCall.mu (by first | (simp only [go_sem, simprocAttr]; rfl) | rfl) (by first | (simp only [go_sem, simprocAttr]; rfl) | rfl) (by first | (simp only [go_sem, simprocAttr]; rfl) | rfl) (sp_markInt64SS ?_ ?_ ?_) cal_markInt64SS (by first | (simp only [go_sem, simprocAttr]; rfl) | rfl) (by first | (simp only [go_sem, simprocAttr]; rfl) | rfl) (by simp [go_sem]) (by simp [go_sem]) ?_; all_goals try simp only [go_sem, simprocAttr]) | (refine fun (hc : (_ : Bool) = _) => ?_; try simp only [hcS] at hc))
  all_goals try exact om_
  (first | refine ret_auto ?_ | refine ret_auto' ?_); simp only [go_sem, simprocAttr, Tryd.f10]
  exact ⟨⟨rfl, rfl, rfl, rfl⟩, iv_eq (by unfold Go.Cats.Cat.mkn; omega)⟩
theorem cal_markFunctor : Callable Tryd.prog 11 := ⟨_, Tryd.func11, rfl, rfl⟩
theorem sp_markFunctor {f : Fun} {k : Int} (hk : 0 ≤ k) (hl : k + f.mkn ≤ 9223372036854775807) (hb : FunB f) : Spec Tryd.prog 11 [.agg [iv f.src.ob, .sl 0, .sl 1, .sl 2, .sl 3, iv f.tgt.ob, .sl 4, .sl 5, .sl 6, .sl 7, .sl 8, .sl 9], iv k] [(0, ⟨1, .arr (ints f.src.fr)⟩), (1, ⟨1, .arr (ints f.src.to)⟩), (2, ⟨1, .arr (ints f.src.id)⟩), (3, ⟨1, .arr (intss f.src.co)⟩), (4, ⟨1, .arr (ints f.tgt.fr)⟩), (5, ⟨1, .arr (ints f.tgt.to)⟩), (6, ⟨1, .arr (ints f.tgt.id)⟩), (7, ⟨1, .arr (intss f.tgt.co)⟩), (8, ⟨1, .arr (ints f.obs)⟩), (9, ⟨1, .arr (ints f.ars)⟩)] (iv (k + f.mkn)) [(0, ⟨1, .arr (ints (f.mk_ k).src.fr)⟩), (1, ⟨1, .arr (ints (f.mk_ k).src.to)⟩), (2, ⟨1, .arr (ints (f.mk_ k).src.id)⟩), (3, ⟨1, .arr (intss (f.mk_ k).src.co)⟩), (4, ⟨1, .arr (ints (f.mk_ k).tgt.fr)⟩), (5, ⟨1, .arr (ints (f.mk_ k).tgt.to)⟩), (6, ⟨1, .arr (ints (f.mk_ k).tgt.id)⟩), (7, ⟨1, .arr (intss (f.mk_ k).tgt.co)⟩), (8, ⟨1, .arr (ints (f.mk_ k).obs)⟩), (9, ⟨1, .arr (ints (f.mk_ k).ars)⟩)] := by
  refine spec_of_V (E := TE) 10 Tryd.func11 rfl (by simp [Tryd.f11]) fun X hn hX => ?_
  unfold Go.Cats.Fun.mkn at hl
  obtain ⟨b1, b2, b3, b4⟩ := hb
  repeat' (first | (with_reducible first | refine V_seq ?_ | refine V_skip ?_ | refine V_ret ?_) | ((with_reducible refine V_cond ?_); simp only [go_sem, simprocAttr]) | ((refine V_region (by rw [hn]; rfl) ?_); intro K hK) | ((first | with_reducible refine evOps_n ?_ | ((with_reducible apply evOps_g); rfl)); intro K hK; simp (contextual := true) only [go_sem, simprocAttr]) | with_reducible refine evOps_nil ?_ | ((with_reducible refine hK _ ?_); clear hK K) | (with_reducible first | refine And.intro ?_ ?_ | refine nxt_n ?_ | refine nxt_r ?_ | refine inR_mk ?_ ?_) | ((with_reducible refine evCall_at 10 ?_); refine EvCall.mu (by first | (simp only [go_sem, simprocAttr]; rfl) | rfl) (by first | (simp only [go_sem, simprocAttr]; rfl) | rfl) (by first | (simp only [go_sem, simprocAttr]; rfl) | rfl) (sp_markCategory ?_ ?_ ?_) cal_markCategory (by first | (simp only [go_sem, simprocAttr]; rfl) | rfl) (by first | (simp only [go_sem, simprocAttr]; rfl) | rfl) (by simp [go_sem]) (by simp [go_sem]) ?_; all_goals try simp only [go_sem, simprocAttr]) | ((with_reducible refine evCall_at 30 ?_); refine EvCall.mu (by first | (simp only [go_sem, simprocAttr]; rfl) | rfl) (by first | (simp only [go_sem, simprocAttr]; rfl) | rfl) (by first | (simp only [go_sem, simprocAttr]; rfl) | rfl) (sp_markInt64S ?_ ?_ ?_) cal_markInt64S (by first | (simp only [go_sem, simprocAttr]; rfl) | rfl) (by first | (simp only [go_sem, simprocAttr]; rfl) | rfl) (by simp [go_sem]) (by simp [go_sem]) ?_; all_goals try simp only [go_sem, simprocAttr]) | (refine fun (hc : (_ : Bool) = _) => ?_; try simp only [hcS] at hc))
  all_goals try exact om_
  (first | refine ret_auto ?_ | refine ret_auto' ?_); simp only [go_sem, simprocAttr, Tryd.f11]
  exact ⟨⟨rfl, rfl, rfl, rfl, rfl, rfl, rfl, rfl, rfl, rfl⟩, iv_eq (by unfold Go.Cats.Fun.mkn; omega)⟩
/-! ### The marks are held -/
theorem cal_heldCategory : Callable Tryd.prog 32 := ⟨_, Tryd.func32, rfl, rfl⟩
theorem sp_heldCategory_at {d c : Cat} {k : Int} (h : d = c.mk_ k) (hk : 0 ≤ k) (hl : k + c.mkn ≤ 9223372036854775807) (hb : CatB c) : Spec Tryd.prog 32 [catV d, iv k] [] (iv (k + c.mkn)) [] := by
  subst h
  unfold Go.Cats.Cat.mkn at hl
  obtain ⟨b1, b2, b3, b4, b5, b6, b7⟩ := hb
  have e1 : (c.mk_ k).fr = marks k c.fr.length := rfl
  have e2 : (c.mk_ k).to = marks (k + c.fr.length) c.to.length := rfl
  have e3 : (c.mk_ k).id = marks (k + c.fr.length + c.to.length) c.id.length := rfl
  have e4 : (c.mk_ k).co = marksS (k + c.fr.length + c.to.length + c.id.length) c.co := rfl
  refine spec_of_V (E := TE) 0 Tryd.func32 rfl (by simp [Tryd.f32]) fun X hn hX => ?_
  repeat' (first | (with_reducible first | refine V_seq ?_ | refine V_skip ?_ | refine V_ret ?_) | ((with_reducible refine V_cond ?_); simp only [go_sem, simprocAttr]) | ((refine V_region (by rw [hn]; rfl) ?_); intro K hK) | ((first | with_reducible refine evOps_n ?_ | ((with_reducible apply evOps_g); rfl)); intro K hK; simp (contextual := true) only [go_sem, simprocAttr]) | with_reducible refine evOps_nil ?_ | ((with_reducible refine hK _ ?_); clear hK K) | (with_reducible first | refine And.intro ?_ ?_ | refine nxt_n ?_ | refine nxt_r ?_ | refine inR_mk ?_ ?_) | ((with_reducible refine evCall_at 33 ?_); refine EvCall.rq (a := (sp_heldInt64S_at (by first | omega | assumption | rfl) (by first | omega | assumption | rfl) (by first | omega | assumption | rfl))) (b := cal_heldInt64S) (c := ?_); all_goals try simp only [go_sem, simprocAttr]) | ((with_reducible refine evCall_at 49 ?_); refine EvCall.rq (a := (sp_heldInt64SS_at (by first | omega | assumption | rfl) (by first | omega | assumption | rfl) (by first | omega | assumption | rfl) (by first | omega | assumption | rfl))) (b := cal_heldInt64SS) (c := ?_); all_goals try simp only [go_sem, simprocAttr]) | (refine fun (hc : (_ : Bool) = _) => ?_; try simp only [hcS] at hc))
  all_goals try exact om_
  (first | refine ret_auto ?_ | refine ret_auto' ?_); simp only [go_sem, simprocAttr, Tryd.f32]
  exact iv_eq (by unfold Go.Cats.Cat.mkn; omega)
theorem cal_heldFunctor : Callable Tryd.prog 12 := ⟨_, Tryd.func12, rfl, rfl⟩
theorem sp_heldFunctor_at {d f : Fun} {k : Int} (h : d = f.mk_ k) (hk : 0 ≤ k) (hl : k + f.mkn ≤ 9223372036854775807) (hb : FunB f) : Spec Tryd.prog 12 [funV d, iv k] [] (iv (k + f.mkn)) [] := by
  subst h
  unfold Go.Cats.Fun.mkn at hl
  obtain ⟨b1, b2, b3, b4⟩ := hb
  have e0 : (f.mk_ k).src = f.src.mk_ k := rfl
  have e1 : (f.mk_ k).tgt = f.tgt.mk_ (k + f.src.mkn) := rfl
  have e2 : (f.mk_ k).obs = marks (k + f.src.mkn + f.tgt.mkn) f.obs.length := rfl
  have e3 : (f.mk_ k).ars = marks (k + f.src.mkn + f.tgt.mkn + f.obs.length) f.ars.length := rfl
  refine spec_of_V (E := TE) 0 Tryd.func12 rfl (by simp [Tryd.f12]) fun X hn hX => ?_
  repeat' (first | (with_reducible first | refine V_seq ?_ | refine V_skip ?_ | refine V_ret ?_) | ((with_reducible refine V_cond ?_); simp only [go_sem, simprocAttr]) | ((refine V_region (by rw [hn]; rfl) ?_); intro K hK) | ((first | with_reducible refine evOps_n ?_ | ((with_reducible apply evOps_g); rfl)); intro K hK; simp (contextual := true) only [go_sem, simprocAttr]) | with_reducible refine evOps_nil ?_ | ((with_reducible refine hK _ ?_); clear hK K) | (with_reducible first | refine And.intro ?_ ?_ | refine nxt_n ?_ | refine nxt_r ?_ | refine inR_mk ?_ ?_) | ((with_reducible refine evCall_at 32 ?_); refine EvCall.rq (a := (sp_heldCategory_at (by first | omega | assumption | rfl) (by first | omega | assumption | rfl) (by first | omega | assumption | rfl) (by first | omega | assumption | rfl))) (b := cal_heldCategory) (c := ?_); all_goals try simp only [go_sem, simprocAttr]) | ((with_reducible refine evCall_at 33 ?_); refine EvCall.rq (a := (sp_heldInt64S_at (by first | omega | assumption | rfl) (by first | omega | assumption | rfl) (by first | omega | assumption | rfl))) (b := cal_heldInt64S) (c := ?_); all_goals try simp only [go_sem, simprocAttr]) | (refine fun (hc : (_ : Bool) = _) => ?_; try simp only [hcS] at hc))
  all_goals try exact om_
  (first | refine ret_auto ?_ | refine ret_auto' ?_); simp only [go_sem, simprocAttr, Tryd.f12]
  exact iv_eq (by unfold Go.Cats.Fun.mkn; omega)
end Go.Eng
end
section
namespace Go.Eng
open Go Go.Proofs Go.Cats
def COut (f e : Fun) (c : Cat) (code : Int) : Prop := (CYes f e ∧ c = cmC f e (cmA f e).length ∧ code = 0) ∨ (CNo f e code ∧ c = ⟨0, [], [], [], []⟩)
theorem sumLen_le_of {l : List (List Int)} {a b : Nat} (ha : l.length ≤ a) (hb : ∀ i, i < l.length → (l.getD i []).length ≤ b) : sumLen l ≤ a * b := by
  induction l generalizing a with
  | nil => simp [sumLen]
  | cons x l ih =>
    have h1 := hb 0 (by simp)
    have h2 := ih (a := l.length) (Nat.le_refl _) fun i hi => by have := hb (i + 1) (by simp; omega); simpa using this
    have e : sumLen (x :: l) = x.length + sumLen l := by simp [sumLen]
    rw [e]
    have h3 : x.length ≤ b := by simpa using h1
    simp only [List.length_cons] at ha
    calc x.length + sumLen l ≤ b + l.length * b := by omega
      _ = (l.length + 1) * b := by rw [Nat.succ_mul]; omega
      _ ≤ a * b := Nat.mul_le_mul_right b ha
theorem _root_.Go.Cats.CatB.mkn {c : Cat} (h : CatB c) : c.mkn ≤ 1099514773504 := by
  have h1 := sumLen_le_of h.co h.row
  have := h.fr; have := h.to; have := h.id
  unfold Go.Cats.Cat.mkn; omega
theorem FunB.mkn {f : Fun} (h : FunB f) : f.mkn ≤ 2199031644160 := by
  have h0 := h.src.mkn
  have h1 := h.tgt.mkn
  have := h.obs; have := h.ars
  unfold Go.Cats.Fun.mkn; omega
end Go.Eng
end
