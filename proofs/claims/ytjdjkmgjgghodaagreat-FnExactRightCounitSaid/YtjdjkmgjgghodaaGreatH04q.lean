/- The law's own functions on natural maps: the door, copies, comparisons, marks. -/
import Derived.Test.YtjdjkmgjgghodaaGreatKdx
import Derived.Test.YtjdjkmgjgghodaaGreatD01q
import Derived.Test.YtjdjkmgjgghodaaGreatH03q
import Derived.Test.YtjdjkmgjgghodaaGreatA16q
set_option linter.unusedSimpArgs false
set_option linter.unusedVariables false
set_option maxRecDepth 100000
set_option maxHeartbeats 16000000
namespace Go.Eng
open Go Go.Proofs Go.Cats Go.ChangeShapes
structure SMT (m : SM) : Prop where
  src : SFT m.src
  tgt : SFT m.tgt
  bpa : (m.parts.length : Int) ≤ 9223372036854775807
  row : ∀ a, a < m.parts.length → ((m.parts.getD a []).length : Int) ≤ 9223372036854775807
  parts : ∀ r ∈ m.parts, ∀ n ∈ r, In64 n
section
variable {H : Type} {enc : TypeId × Value → H} {w : World} {held : Bool} {cn : Nat → Cn} {rs : Nat → Rs}
end
theorem SM.same {f g : SM} (h1 : f.src = g.src) (h2 : f.tgt = g.tgt) (h3 : f.parts = g.parts) : f = g := by cases f; cases g; simp_all
theorem cal_eqSetMap : Callable Tryz.prog 12 := ⟨_, Tryz.func12, rfl, rfl⟩
theorem sp_eqSetMap {f g : SM} (hf : SMB f) (hg : SMB g) : Spec Tryz.prog 12 [smV f, smV g] [] (bv (dec (f = g))) [] := by
  refine spec_of_V (E := TE) 0 Tryz.func12 rfl (by simp [Tryz.f12]) fun X hn hX => ?_
  obtain ⟨a1, a2, a3, a4⟩ := hf
  obtain ⟨b1, b2, b3, b4⟩ := hg
  repeat' (first | (with_reducible first | refine V_seq ?_ | refine V_block ?_ | refine V_skip ?_ | refine V_ret ?_ | refine V_exit ?_) | ((with_reducible refine V_cond ?_); simp only [go_sem, simprocAttr]) | ((first | refine V_region (by rw [hn]; rfl) ?_ | refine V_drawn hmix (by rw [hn]; rfl) ?_); intro K hK) | ((first | with_reducible refine evOps_n ?_ | ((with_reducible apply evOps_g); rfl) | with_reducible refine evOpsD_n ?_ | ((with_reducible apply evOpsD_g); rfl)); intro K hK; simp (contextual := true) only [go_sem, simprocAttr]) | with_reducible refine evOps_nil ?_ | ((with_reducible refine evOpsD_nil ?_ ?_); kernel_rfl) | ((with_reducible refine hK _ ?_); clear hK K) | (with_reducible first | refine And.intro ?_ ?_ | refine nxt_n ?_ | refine nxt_r ?_ | refine nxt_e ?_ | refine blk_n ?_ | refine blk_r ?_ | refine blk_same ?_ | refine blk_other (by decide) ?_ | refine noG_n ?_ | refine noG_r ?_ | refine noG_e ?_ | refine inR_mk ?_ ?_) | ((with_reducible refine evCall_at 14 ?_); refine EvCall.rd (by first | (simp only [go_sem, simprocAttr]; rfl) | rfl) (sp_eqSetFunctor ?_ ?_) cal_eqSetFunctor (by simp [go_sem]) (by simp [go_sem]) ?_; all_goals try simp only [go_sem, simprocAttr]) | ((with_reducible refine evCall_at 41 ?_); refine EvCall.rd (by first | (simp only [go_sem, simprocAttr]; rfl) | rfl) (sp_eqInt64SS ?_ ?_ ?_ ?_) cal_eqInt64SS (by simp [go_sem]) (by simp [go_sem]) ?_; all_goals try simp only [go_sem, simprocAttr]) | (refine fun (hc : (_ : Bool) = _) => ?_; try simp only [hcS] at hc))
  all_goals try (first | (with_reducible assumption) | ((try simp only [Cat.F, Cat.T, Cat.I, Cat.C, Fun.O, Fun.A, Cat.Entry, Int.toNat_natCast] at *); omega))
  all_goals try ((first | refine ret_auto ?_ | refine ret_auto' ?_); simp only [go_sem, simprocAttr, Tryz.f12]; exact bv_f (fun s => by subst s; contradiction))
  (first | refine ret_auto ?_ | refine ret_auto' ?_); simp only [go_sem, simprocAttr, Tryz.f12]
  exact bv_t (SM.same (by assumption) (by assumption) (by assumption))
def smSz (m : SM) : Nat := sfSz m.src + sfSz m.tgt + (m.parts.length + sumLen m.parts)
structure SML (m : SM) : Prop where
  src : SFL m.src
  tgt : SFL m.tgt
  parts : (m.parts.length : Int) ≤ 9223372036854775807
  row : ∀ a, a < m.parts.length → ((m.parts.getD a []).length : Int) ≤ 9223372036854775807
def _root_.Go.Cats.SM.mk_ (k : Int) (m : SM) : SM := ⟨m.src.mk_ k, m.tgt.mk_ (k + m.src.mkn), marksS (k + m.src.mkn + m.tgt.mkn) m.parts⟩
def _root_.Go.Cats.SM.mkn (m : SM) : Nat := m.src.mkn + m.tgt.mkn + sumLen m.parts
theorem _root_.Go.Cats.SMB.mkn {m : SM} (h : SMB m) : m.mkn ≤ 5497566527488 := by
  have h0 := h.src.mkn
  have h1 := h.tgt.mkn
  have h2 := sumLen_le_of h.parts h.row
  unfold Go.Cats.SM.mkn; omega
theorem SMT.b {m : SM} (h : SMT m) (k : smSz m ≤ 1048576) : SMB m := by
  unfold smSz at k
  exact ⟨h.src.b (by omega), h.tgt.b (by omega), by omega, fun a ha => by have := sumLen_get m.parts a ha; omega⟩
theorem SMT.l {m : SM} (h : SMT m) : SML m := ⟨h.src.l, h.tgt.l, h.bpa, h.row⟩
theorem cal_markSetMap : Callable Tryz.prog 17 := ⟨_, Tryz.func17, rfl, rfl⟩
theorem sp_markSetMap {m : SM} {k : Int} (hk : 0 ≤ k) (hl : k + m.mkn ≤ 9223372036854775807) (hb : SMB m) : Spec Tryz.prog 17 [.agg [iv m.src.shape.ob, .sl 0, .sl 1, .sl 2, .sl 3, .sl 4, .sl 5, iv m.tgt.shape.ob, .sl 6, .sl 7, .sl 8, .sl 9, .sl 10, .sl 11, .sl 12], iv k] [(0, ⟨1, .arr (ints m.src.shape.fr)⟩), (1, ⟨1, .arr (ints m.src.shape.to)⟩), (2, ⟨1, .arr (ints m.src.shape.id)⟩), (3, ⟨1, .arr (intss m.src.shape.co)⟩), (4, ⟨1, .arr (ints m.src.sizes)⟩), (5, ⟨1, .arr (intss m.src.acts)⟩), (6, ⟨1, .arr (ints m.tgt.shape.fr)⟩), (7, ⟨1, .arr (ints m.tgt.shape.to)⟩), (8, ⟨1, .arr (ints m.tgt.shape.id)⟩), (9, ⟨1, .arr (intss m.tgt.shape.co)⟩), (10, ⟨1, .arr (ints m.tgt.sizes)⟩), (11, ⟨1, .arr (intss m.tgt.acts)⟩), (12, ⟨1, .arr (intss m.parts)⟩)] (iv (k + m.mkn)) [(0, ⟨1, .arr (ints (m.mk_ k).src.shape.fr)⟩), (1, ⟨1, .arr (ints (m.mk_ k).src.shape.to)⟩), (2, ⟨1, .arr (ints (m.mk_ k).src.shape.id)⟩), (3, ⟨1, .arr (intss (m.mk_ k).src.shape.co)⟩), (4, ⟨1, .arr (ints (m.mk_ k).src.sizes)⟩), (5, ⟨1, .arr (intss (m.mk_ k).src.acts)⟩), (6, ⟨1, .arr (ints (m.mk_ k).tgt.shape.fr)⟩), (7, ⟨1, .arr (ints (m.mk_ k).tgt.shape.to)⟩), (8, ⟨1, .arr (ints (m.mk_ k).tgt.shape.id)⟩), (9, ⟨1, .arr (intss (m.mk_ k).tgt.shape.co)⟩), (10, ⟨1, .arr (ints (m.mk_ k).tgt.sizes)⟩), (11, ⟨1, .arr (intss (m.mk_ k).tgt.acts)⟩), (12, ⟨1, .arr (intss (m.mk_ k).parts)⟩)] := by
  refine spec_of_V (E := TE) 13 Tryz.func17 rfl (by simp [Tryz.f17]) fun X hn hX => ?_
  unfold Go.Cats.SM.mkn at hl
  obtain ⟨b1, b2, b3, b4⟩ := hb
  repeat' (first | (with_reducible first | refine V_seq ?_ | refine V_block ?_ | refine V_skip ?_ | refine V_ret ?_ | refine V_exit ?_) | ((with_reducible refine V_cond ?_); simp only [go_sem, simprocAttr]) | ((first | refine V_region (by rw [hn]; rfl) ?_ | refine V_drawn hmix (by rw [hn]; rfl) ?_); intro K hK) | ((first | with_reducible refine evOps_n ?_ | ((with_reducible apply evOps_g); rfl) | with_reducible refine evOpsD_n ?_ | ((with_reducible apply evOpsD_g); rfl)); intro K hK; simp (contextual := true) only [go_sem, simprocAttr]) | with_reducible refine evOps_nil ?_ | ((with_reducible refine evOpsD_nil ?_ ?_); kernel_rfl) | ((with_reducible refine hK _ ?_); clear hK K) | (with_reducible first | refine And.intro ?_ ?_ | refine nxt_n ?_ | refine nxt_r ?_ | refine nxt_e ?_ | refine blk_n ?_ | refine blk_r ?_ | refine blk_same ?_ | refine blk_other (by decide) ?_ | refine noG_n ?_ | refine noG_r ?_ | refine noG_e ?_ | refine inR_mk ?_ ?_) | ((with_reducible refine evCall_at 16 ?_); refine EvCall.mu (by first | (simp only [go_sem, simprocAttr]; rfl) | rfl) (by first | (simp only [go_sem, simprocAttr]; rfl) | rfl) (by first | (simp only [go_sem, simprocAttr]; rfl) | rfl) (sp_markSetFunctor ?_ ?_ ?_) cal_markSetFunctor (by first | (simp only [go_sem, simprocAttr]; rfl) | rfl) (by first | (simp only [go_sem, simprocAttr]; rfl) | rfl) (by simp [go_sem]) (by simp [go_sem]) ?_; all_goals try simp only [go_sem, simprocAttr]) | ((with_reducible refine evCall_at 46 ?_); refine EvCall.mu (by first | (simp only [go_sem, simprocAttr]; rfl) | rfl) (by first | (simp only [go_sem, simprocAttr]; rfl) | rfl) (by first | (simp only [go_sem, simprocAttr]; rfl) | rfl) (sp_markInt64SS ?_ ?_ ?_) cal_markInt64SS (by first | (simp only [go_sem, simprocAttr]; rfl) | rfl) (by first | (simp only [go_sem, simprocAttr]; rfl) | rfl) (by simp [go_sem]) (by simp [go_sem]) ?_; all_goals try simp only [go_sem, simprocAttr]) | (refine fun (hc : (_ : Bool) = _) => ?_; try simp only [hcS] at hc))
  all_goals try (first | (with_reducible assumption) | ((try simp only [Cat.F, Cat.T, Cat.I, Cat.C, Fun.O, Fun.A, Cat.Entry, Int.toNat_natCast] at *); omega))
  (first | refine ret_auto ?_ | refine ret_auto' ?_); simp only [go_sem, simprocAttr, Tryz.f17]
  exact ⟨⟨rfl, rfl, rfl, rfl, rfl, rfl, rfl, rfl, rfl, rfl, rfl, rfl, rfl⟩, iv_eq (by unfold Go.Cats.SM.mkn; omega)⟩
theorem cal_heldSetFunctor : Callable Tryz.prog 47 := ⟨_, Tryz.func47, rfl, rfl⟩
theorem sp_heldSetFunctor_at {d f : SF} {k : Int} (h : d = f.mk_ k) (hk : 0 ≤ k) (hl : k + f.mkn ≤ 9223372036854775807) (hb : SFB f) : Spec Tryz.prog 47 [sfV d, iv k] [] (iv (k + f.mkn)) [] := by
  subst h
  unfold Go.Cats.SF.mkn at hl
  obtain ⟨b1, b2, b3, b4⟩ := hb
  have e0 : (f.mk_ k).shape = f.shape.mk_ k := rfl
  have e1 : (f.mk_ k).sizes = marks (k + f.shape.mkn) f.sizes.length := rfl
  have e2 : (f.mk_ k).acts = marksS (k + f.shape.mkn + f.sizes.length) f.acts := rfl
  refine spec_of_V (E := TE) 0 Tryz.func47 rfl (by simp [Tryz.f47]) fun X hn hX => ?_
  repeat' (first | (with_reducible first | refine V_seq ?_ | refine V_block ?_ | refine V_skip ?_ | refine V_ret ?_ | refine V_exit ?_) | ((with_reducible refine V_cond ?_); simp only [go_sem, simprocAttr]) | ((first | refine V_region (by rw [hn]; rfl) ?_ | refine V_drawn hmix (by rw [hn]; rfl) ?_); intro K hK) | ((first | with_reducible refine evOps_n ?_ | ((with_reducible apply evOps_g); rfl) | with_reducible refine evOpsD_n ?_ | ((with_reducible apply evOpsD_g); rfl)); intro K hK; simp (contextual := true) only [go_sem, simprocAttr]) | with_reducible refine evOps_nil ?_ | ((with_reducible refine evOpsD_nil ?_ ?_); kernel_rfl) | ((with_reducible refine hK _ ?_); clear hK K) | (with_reducible first | refine And.intro ?_ ?_ | refine nxt_n ?_ | refine nxt_r ?_ | refine nxt_e ?_ | refine blk_n ?_ | refine blk_r ?_ | refine blk_same ?_ | refine blk_other (by decide) ?_ | refine noG_n ?_ | refine noG_r ?_ | refine noG_e ?_ | refine inR_mk ?_ ?_) | ((with_reducible refine evCall_at 72 ?_); refine EvCall.rd (by first | (simp only [go_sem, simprocAttr]; rfl) | rfl) (sp_heldCategory_at (by first | omega | assumption | rfl | exact (by assumption : SMB _).src | exact (by assumption : SMB _).tgt) (by first | omega | assumption | rfl | exact (by assumption : SMB _).src | exact (by assumption : SMB _).tgt) (by first | omega | assumption | rfl | exact (by assumption : SMB _).src | exact (by assumption : SMB _).tgt) (by first | omega | assumption | rfl | exact (by assumption : SMB _).src | exact (by assumption : SMB _).tgt)) cal_heldCategory (by simp [go_sem]) (by simp [go_sem]) ?_; all_goals try simp only [go_sem, simprocAttr]) | ((with_reducible refine evCall_at 73 ?_); refine EvCall.rd (by first | (simp only [go_sem, simprocAttr]; rfl) | rfl) (sp_heldInt64S_at (by first | omega | assumption | rfl | exact (by assumption : SMB _).src | exact (by assumption : SMB _).tgt) (by first | omega | assumption | rfl | exact (by assumption : SMB _).src | exact (by assumption : SMB _).tgt) (by first | omega | assumption | rfl | exact (by assumption : SMB _).src | exact (by assumption : SMB _).tgt)) cal_heldInt64S (by simp [go_sem]) (by simp [go_sem]) ?_; all_goals try simp only [go_sem, simprocAttr]) | ((with_reducible refine evCall_at 48 ?_); refine EvCall.rd (by first | (simp only [go_sem, simprocAttr]; rfl) | rfl) (sp_heldInt64SS_at (by first | omega | assumption | rfl | exact (by assumption : SMB _).src | exact (by assumption : SMB _).tgt) (by first | omega | assumption | rfl | exact (by assumption : SMB _).src | exact (by assumption : SMB _).tgt) (by first | omega | assumption | rfl | exact (by assumption : SMB _).src | exact (by assumption : SMB _).tgt) (by first | omega | assumption | rfl | exact (by assumption : SMB _).src | exact (by assumption : SMB _).tgt)) cal_heldInt64SS (by simp [go_sem]) (by simp [go_sem]) ?_; all_goals try simp only [go_sem, simprocAttr]) | (refine fun (hc : (_ : Bool) = _) => ?_; try simp only [hcS] at hc))
  all_goals try (first | (with_reducible assumption) | ((try simp only [Cat.F, Cat.T, Cat.I, Cat.C, Fun.O, Fun.A, Cat.Entry, Int.toNat_natCast] at *); omega))
  (first | refine ret_auto ?_ | refine ret_auto' ?_); simp only [go_sem, simprocAttr, Tryz.f47]
  exact iv_eq (by unfold Go.Cats.SF.mkn; omega)
theorem cal_heldSetMap : Callable Tryz.prog 18 := ⟨_, Tryz.func18, rfl, rfl⟩
theorem sp_heldSetMap_at {d m : SM} {k : Int} (h : d = m.mk_ k) (hk : 0 ≤ k) (hl : k + m.mkn ≤ 9223372036854775807) (hb : SMB m) : Spec Tryz.prog 18 [smV d, iv k] [] (iv (k + m.mkn)) [] := by
  subst h
  unfold Go.Cats.SM.mkn at hl
  obtain ⟨b1, b2, b3, b4⟩ := hb
  have e0 : (m.mk_ k).src = m.src.mk_ k := rfl
  have e1 : (m.mk_ k).tgt = m.tgt.mk_ (k + m.src.mkn) := rfl
  have e2 : (m.mk_ k).parts = marksS (k + m.src.mkn + m.tgt.mkn) m.parts := rfl
  refine spec_of_V (E := TE) 0 Tryz.func18 rfl (by simp [Tryz.f18]) fun X hn hX => ?_
  repeat' (first | (with_reducible first | refine V_seq ?_ | refine V_block ?_ | refine V_skip ?_ | refine V_ret ?_ | refine V_exit ?_) | ((with_reducible refine V_cond ?_); simp only [go_sem, simprocAttr]) | ((first | refine V_region (by rw [hn]; rfl) ?_ | refine V_drawn hmix (by rw [hn]; rfl) ?_); intro K hK) | ((first | with_reducible refine evOps_n ?_ | ((with_reducible apply evOps_g); rfl) | with_reducible refine evOpsD_n ?_ | ((with_reducible apply evOpsD_g); rfl)); intro K hK; simp (contextual := true) only [go_sem, simprocAttr]) | with_reducible refine evOps_nil ?_ | ((with_reducible refine evOpsD_nil ?_ ?_); kernel_rfl) | ((with_reducible refine hK _ ?_); clear hK K) | (with_reducible first | refine And.intro ?_ ?_ | refine nxt_n ?_ | refine nxt_r ?_ | refine nxt_e ?_ | refine blk_n ?_ | refine blk_r ?_ | refine blk_same ?_ | refine blk_other (by decide) ?_ | refine noG_n ?_ | refine noG_r ?_ | refine noG_e ?_ | refine inR_mk ?_ ?_) | ((with_reducible refine evCall_at 47 ?_); refine EvCall.rd (by first | (simp only [go_sem, simprocAttr]; rfl) | rfl) (sp_heldSetFunctor_at (by first | omega | assumption | rfl | exact (by assumption : SMB _).src | exact (by assumption : SMB _).tgt) (by first | omega | assumption | rfl | exact (by assumption : SMB _).src | exact (by assumption : SMB _).tgt) (by first | omega | assumption | rfl | exact (by assumption : SMB _).src | exact (by assumption : SMB _).tgt) (by first | omega | assumption | rfl | exact (by assumption : SMB _).src | exact (by assumption : SMB _).tgt)) cal_heldSetFunctor (by simp [go_sem]) (by simp [go_sem]) ?_; all_goals try simp only [go_sem, simprocAttr]) | ((with_reducible refine evCall_at 48 ?_); refine EvCall.rd (by first | (simp only [go_sem, simprocAttr]; rfl) | rfl) (sp_heldInt64SS_at (by first | omega | assumption | rfl | exact (by assumption : SMB _).src | exact (by assumption : SMB _).tgt) (by first | omega | assumption | rfl | exact (by assumption : SMB _).src | exact (by assumption : SMB _).tgt) (by first | omega | assumption | rfl | exact (by assumption : SMB _).src | exact (by assumption : SMB _).tgt) (by first | omega | assumption | rfl | exact (by assumption : SMB _).src | exact (by assumption : SMB _).tgt)) cal_heldInt64SS (by simp [go_sem]) (by simp [go_sem]) ?_; all_goals try simp only [go_sem, simprocAttr]) | (refine fun (hc : (_ : Bool) = _) => ?_; try simp only [hcS] at hc))
  all_goals try (first | (with_reducible assumption) | ((try simp only [Cat.F, Cat.T, Cat.I, Cat.C, Fun.O, Fun.A, Cat.Entry, Int.toNat_natCast] at *); omega))
  (first | refine ret_auto ?_ | refine ret_auto' ?_); simp only [go_sem, simprocAttr, Tryz.f18]
  exact iv_eq (by unfold Go.Cats.SM.mkn; omega)
end Go.Eng
