/- Texts, by the program: a number of at most six digits. -/
import Derived.Test.YtnegknkhccfmfaaDoorEngSuq
import Derived.Test.YtnegknkhccfmfaaDoorKgx
set_option linter.unusedSimpArgs false
set_option linter.unusedVariables false
set_option maxRecDepth 100000
set_option maxHeartbeats 16000000
namespace Go.Eng
open Go Go.Proofs Go.Cats
theorem decode_lo {a : Bts} {i : Nat} (h : i < a.length) (hb : (a.getD i 0).toNat < 128) : Utf8.decode ⟨a.toArray⟩ i = ((a.getD i 0).toNat, 1) := by
  have h1 := decode_ascii ⟨a.toArray⟩ i (by rw [bst_size]; exact h) (by rw [bst_get a i h]; exact hb)
  rw [bst_get a i h] at h1
  exact h1
theorem decode_hi {a : Bts} {i : Nat} (h : i < a.length) (hb : ¬ (a.getD i 0).toNat < 128) : 128 ≤ (Utf8.decode ⟨a.toArray⟩ i).1 ∧ (Utf8.decode ⟨a.toArray⟩ i).1 ≤ 2097151 :=
  decode_big _ i (by rw [get_at a i h]; exact hb)
theorem wrap32 {z : Int} (h0 : 0 ≤ z) (h1 : z < 256) : IntKind.i32.wrap z = z := by
  unfold IntKind.wrap IntKind.bits IntKind.signed
  simp
  omega
theorem wrap64' {z : Int} (h0 : 0 ≤ z) (h1 : z < 256) : IntKind.i64.wrap z = z := by
  unfold IntKind.wrap IntKind.bits IntKind.signed
  simp
  omega
def DgO (w : Bts) (x : Value) (n : Nat) (e : Value) : Prop := (DigOk w ∧ n = val w ∧ e = .nilIface) ∨ (¬ DigOk w ∧ n = 0 ∧ e = x)
theorem DgO.no {w : Bts} {x e : Value} {n : Nat} (h : DgO w x n e) (k : ¬ DigOk w) : n = 0 ∧ e = x := by
  rcases h with ⟨h, _⟩ | ⟨_, h⟩
  · exact absurd h k
  · exact h
theorem DgO.yes {w : Bts} {x e : Value} {n : Nat} (h : DgO w x n e) (k : DigOk w) : n = val w ∧ e = .nilIface := by
  rcases h with ⟨_, h⟩ | ⟨h, _⟩
  · exact h
  · exact absurd k h
attribute [local go_sem] List.size_toArray
theorem ty_i32 : (Tryd.prog.underlying 21).isSome = true ∧ Tryd.prog.underlying 2 = some (.int .i64) := ⟨by rw [Tryd.underlying21]; rfl, Tryd.underlying2⟩
theorem cal_digits : Callable Tryd.prog 45 := ⟨_, Tryd.func45, rfl, rfl⟩
theorem sp_digits {x e : Value} {w : Bts} {n : Nat} (hl : w.length ≤ 1048576) (hx : x = .nilIface ∨ ∃ u z, x = .iface u z) (ho : DgO w x n e) : SpecR Tryd.prog 45 [.v (bst w)] [] (.tup [iv n, .v e]) [] (GlR 0 x 1) := by
  refine specR_of_V (E := TE) 0 Tryd.func45 rfl (by simp [Tryd.f45]) fun X hn hX hG => ?_
  repeat' (first | (with_reducible first | refine V_seq ?_ | refine V_block ?_ | refine V_skip ?_ | refine V_ret ?_ | refine V_exit ?_) | ((with_reducible refine V_cond ?_); simp only [go_sem, simprocAttr]) | ((first | refine V_region (by rw [hn]; rfl) ?_ | refine V_drawn hmix (by rw [hn]; rfl) ?_); intro K hK) | ((first | with_reducible refine evOps_n ?_ | ((with_reducible apply evOps_g); rfl) | with_reducible refine evOpsD_n ?_ | ((with_reducible apply evOpsD_g); rfl)); intro K hK; simp (contextual := true) only [go_sem, simprocAttr]) | with_reducible refine evOps_nil ?_ | ((with_reducible refine evOpsD_nil ?_ ?_); kernel_rfl) | ((with_reducible refine hK _ ?_); clear hK K) | (with_reducible first | refine And.intro ?_ ?_ | refine nxt_n ?_ | refine nxt_r ?_ | refine nxt_e ?_ | refine blk_n ?_ | refine blk_r ?_ | refine blk_same ?_ | refine blk_other (by decide) ?_ | refine noG_n ?_ | refine noG_r ?_ | refine noG_e ?_ | refine inR_mk ?_ ?_) | (refine hook_srange (a := w) Tryd.underlying9 (by simp only [go_sem, simprocAttr]) rfl ?_; simp only [go_sem, simprocAttr]) | (refine fun (hc : (_ : Bool) = _) => ?_; try simp only [hcS] at hc))
  all_goals try exact om_
  refine V_loopK (G := {i : Nat // i ≤ w.length ∧ i ≤ 6 ∧ (∀ b ∈ w.take i, Dg b) ∧ (0 < i → ¬ Lz w)}) (fun i => [(4, iv (val (w.take i.1))), (8, .sl 0)]) [0] (fun i => [(0, ⟨1, .arr (.ab (itAb w i.1))⟩)]) [0] (fun i => w.length - i.1) ⟨0, Nat.zero_le _, by omega, by simp, by omega⟩ ?_ ?_
  · exact Imp.auto hX (by simp [go_sem, simprocAttr, val, valF])
  rintro ⟨i, hi, hi6, hd, hz⟩
  simp only [go_sem, simprocAttr]
  have hv1 := val_lt hd
  have hv2 : 10 ^ (w.take i).length ≤ 10 ^ 6 := Nat.pow_le_pow_right (by decide) (by rw [List.length_take]; omega)
  have hv : val (w.take i) < 1000000 := by omega
  rcases Nat.lt_or_ge i w.length with hlt | hge
  · have hx2 : x = .nilIface ∨ ∃ u z, x = .iface u z := hx
    have hmem : w.getD i 0 ∈ w := by rw [List.getD_eq_getElem?_getD, List.getElem?_eq_getElem hlt]; exact List.getElem_mem hlt
    have htk : ∀ b, b ∈ w.take (i + 1) → b ∈ w.take i ∨ b = w.getD i 0 := fun b hb => by
      rw [List.take_succ_eq_append_getElem hlt] at hb
      rcases List.mem_append.1 hb with h | h
      · exact .inl h
      · refine .inr ?_
        rw [List.getD_eq_getElem?_getD, List.getElem?_eq_getElem hlt]
        exact List.mem_singleton.1 h
    have hsn := val_take hlt
    by_cases hb : (w.getD i 0).toNat < 128
    · have hde := decode_lo hlt hb
      obtain ⟨c, hc0⟩ : ∃ c : Nat, (w.getD i 0).toNat = c := ⟨_, rfl⟩
      rw [hc0] at hde hb hsn
      by_cases hok : 48 ≤ c ∧ c ≤ 57 ∧ i ≤ 5 ∧ ¬ (i = 0 ∧ c = 48 ∧ 1 < w.length)
      · have hev : (10 * ((val (w.take i) : Nat) : Int) + ((c : Int) - 48)) = ((val (w.take (i + 1)) : Nat) : Int) := by rw [hsn]; omega
        have hd2 : ∀ b ∈ w.take (i + 1), Dg b := fun b hb => by
          rcases htk b hb with h | h
          · exact hd b h
          · subst h; unfold Dg; rw [hc0]; omega
        have hz2 : 0 < i + 1 → ¬ Lz w := fun _ h => by
          by_cases h0 : i = 0
          · refine hok.2.2.2 ⟨h0, ?_, h.1⟩
            rw [← hc0, h0, h.2]; rfl
          · exact hz (by omega) h
        repeat' (first | (with_reducible first | refine V_seq ?_ | refine V_block ?_ | refine V_skip ?_ | refine V_ret ?_ | refine V_exit ?_) | ((with_reducible refine V_cond ?_); simp only [go_sem, simprocAttr]) | ((first | refine V_region (by rw [hn]; rfl) ?_ | refine V_drawn hmix (by rw [hn]; rfl) ?_); intro K hK) | ((first | with_reducible refine evOps_n ?_ | ((with_reducible apply evOps_g); rfl) | with_reducible refine evOpsD_n ?_ | ((with_reducible apply evOpsD_g); rfl)); intro K hK; simp (contextual := true) only [go_sem, simprocAttr]) | with_reducible refine evOps_nil ?_ | ((with_reducible refine evOpsD_nil ?_ ?_); kernel_rfl) | ((with_reducible refine hK _ ?_); clear hK K) | (with_reducible first | refine And.intro ?_ ?_ | refine nxt_n ?_ | refine nxt_r ?_ | refine nxt_e ?_ | refine blk_n ?_ | refine blk_r ?_ | refine blk_same ?_ | refine blk_other (by decide) ?_ | refine noG_n ?_ | refine noG_r ?_ | refine noG_e ?_ | refine inR_mk ?_ ?_) | (refine hook_snext (a := w) (pos := i) (cv := 1) (j := 0) (by simp only [go_sem, simprocAttr]) (by simp only [go_sem, simprocAttr]) hlt ?_; simp only [go_sem, simprocAttr, hde]) | (refine hook_int (k := .i64) (q := .i32) (n := (c : Int) - 48) ty_i32.1 ty_i32.2 (by simp only [go_sem, simprocAttr]; rw [wrap32 (by omega) (by omega)]) ?_; rw [wrap64' (by omega) (by omega)]; simp only [go_sem, simprocAttr]) | (refine fun (hc : (_ : Bool) = _) => ?_; try simp only [hcS] at hc))
        all_goals try exact om_
        all_goals try (exfalso; omega)
        all_goals exact ⟨⟨i + 1, by omega, by omega, hd2, hz2⟩, by simp only; omega, Imp.auto hX (by simp [go_sem, simprocAttr, hev])⟩
      · have hno : ¬ DigOk w := fun h => hok (by
          have h1 := h.ref.dg _ hmem
          unfold Dg at h1
          rw [hc0] at h1
          refine ⟨h1.1, h1.2, by have := h.le6; omega, fun k => h.ref.lz ⟨k.2.2, ?_⟩⟩
          have h0 := k.1
          subst h0
          exact UInt8.toNat_inj.1 (by rw [hc0, k.2.1]; rfl))
        obtain ⟨rfl, rfl⟩ := ho.no hno
        repeat' (first | ((refine V_drawnX (id := 6) hmix (by rw [hn]; rfl) ?_); intro K hK) | ((refine V_drawnX (id := 9) hmix (by rw [hn]; rfl) ?_); intro K hK) | ((with_reducible refine evOpsDX_nil ?_ ?_); kernel_rfl) | (refine evOpsDX_h ?_; intro K hK; refine HkX.glob hG Tryd.underlying55 ?_; simp (contextual := true) only [go_sem, simprocAttr]) | ((with_reducible refine evOpsDX_n ?_); intro K hK; simp (contextual := true) only [go_sem, simprocAttr]) | (with_reducible first | refine V_seq ?_ | refine V_block ?_ | refine V_skip ?_ | refine V_ret ?_ | refine V_exit ?_) | ((with_reducible refine V_cond ?_); simp only [go_sem, simprocAttr]) | ((first | refine V_region (by rw [hn]; rfl) ?_ | refine V_drawn hmix (by rw [hn]; rfl) ?_); intro K hK) | ((first | with_reducible refine evOps_n ?_ | ((with_reducible apply evOps_g); rfl) | with_reducible refine evOpsD_n ?_ | ((with_reducible apply evOpsD_g); rfl)); intro K hK; simp (contextual := true) only [go_sem, simprocAttr]) | with_reducible refine evOps_nil ?_ | ((with_reducible refine evOpsD_nil ?_ ?_); kernel_rfl) | ((with_reducible refine hK _ ?_); clear hK K) | (with_reducible first | refine And.intro ?_ ?_ | refine nxt_n ?_ | refine nxt_r ?_ | refine nxt_e ?_ | refine blk_n ?_ | refine blk_r ?_ | refine blk_same ?_ | refine blk_other (by decide) ?_ | refine noG_n ?_ | refine noG_r ?_ | refine noG_e ?_ | refine inR_mk ?_ ?_) | (refine hook_snext (a := w) (pos := i) (cv := 1) (j := 0) (by simp only [go_sem, simprocAttr]) (by simp only [go_sem, simprocAttr]) hlt ?_; simp only [go_sem, simprocAttr, hde]) | (refine fun (hc : (_ : Bool) = _) => ?_; try simp only [hcS] at hc))
        all_goals try exact om_
        all_goals ((first | refine ret_auto ?_ | refine ret_auto' ?_); simp only [go_sem, simprocAttr, Tryd.f45])
    · obtain ⟨c, hc0⟩ : ∃ c : Nat, (Utf8.decode ⟨w.toArray⟩ i).1 = c := ⟨_, rfl⟩
      obtain ⟨hc1, hc2⟩ := decode_hi hlt hb
      rw [hc0] at hc1 hc2
      have hno : ¬ DigOk w := fun h => by
        have h1 := h.ref.dg _ hmem
        unfold Dg at h1
        omega
      obtain ⟨rfl, rfl⟩ := ho.no hno
      repeat' (first | ((refine V_drawnX (id := 6) hmix (by rw [hn]; rfl) ?_); intro K hK) | ((refine V_drawnX (id := 9) hmix (by rw [hn]; rfl) ?_); intro K hK) | ((with_reducible refine evOpsDX_nil ?_ ?_); kernel_rfl) | (refine evOpsDX_h ?_; intro K hK; refine HkX.glob hG Tryd.underlying55 ?_; simp (contextual := true) only [go_sem, simprocAttr]) | ((with_reducible refine evOpsDX_n ?_); intro K hK; simp (contextual := true) only [go_sem, simprocAttr]) | (with_reducible first | refine V_seq ?_ | refine V_block ?_ | refine V_skip ?_ | refine V_ret ?_ | refine V_exit ?_) | ((with_reducible refine V_cond ?_); simp only [go_sem, simprocAttr]) | ((first | refine V_region (by rw [hn]; rfl) ?_ | refine V_drawn hmix (by rw [hn]; rfl) ?_); intro K hK) | ((first | with_reducible refine evOps_n ?_ | ((with_reducible apply evOps_g); rfl) | with_reducible refine evOpsD_n ?_ | ((with_reducible apply evOpsD_g); rfl)); intro K hK; simp (contextual := true) only [go_sem, simprocAttr]) | with_reducible refine evOps_nil ?_ | ((with_reducible refine evOpsD_nil ?_ ?_); kernel_rfl) | ((with_reducible refine hK _ ?_); clear hK K) | (with_reducible first | refine And.intro ?_ ?_ | refine nxt_n ?_ | refine nxt_r ?_ | refine nxt_e ?_ | refine blk_n ?_ | refine blk_r ?_ | refine blk_same ?_ | refine blk_other (by decide) ?_ | refine noG_n ?_ | refine noG_r ?_ | refine noG_e ?_ | refine inR_mk ?_ ?_) | (refine hook_snext (a := w) (pos := i) (cv := 1) (j := 0) (by simp only [go_sem, simprocAttr]) (by simp only [go_sem, simprocAttr]) hlt ?_; simp only [go_sem, simprocAttr, hc0]) | (refine fun (hc : (_ : Bool) = _) => ?_; try simp only [hcS] at hc))
      all_goals try exact om_
      all_goals try (exfalso; omega)
      all_goals ((first | refine ret_auto ?_ | refine ret_auto' ?_); simp only [go_sem, simprocAttr, Tryd.f45])
  · obtain rfl : i = w.length := by omega
    rw [List.take_length] at hd hv
    rw [List.take_length]
    by_cases h0 : w = []
    · have hno : ¬ DigOk w := fun h => by have := h.ref.pos; rw [h0] at this; simp at this
      obtain ⟨rfl, rfl⟩ := ho.no hno
      repeat' (first | ((refine V_drawnX (id := 6) hmix (by rw [hn]; rfl) ?_); intro K hK) | ((refine V_drawnX (id := 9) hmix (by rw [hn]; rfl) ?_); intro K hK) | ((with_reducible refine evOpsDX_nil ?_ ?_); kernel_rfl) | (refine evOpsDX_h ?_; intro K hK; refine HkX.glob hG Tryd.underlying55 ?_; simp (contextual := true) only [go_sem, simprocAttr]) | ((with_reducible refine evOpsDX_n ?_); intro K hK; simp (contextual := true) only [go_sem, simprocAttr]) | (with_reducible first | refine V_seq ?_ | refine V_block ?_ | refine V_skip ?_ | refine V_ret ?_ | refine V_exit ?_) | ((with_reducible refine V_cond ?_); simp only [go_sem, simprocAttr]) | ((first | refine V_region (by rw [hn]; rfl) ?_ | refine V_drawn hmix (by rw [hn]; rfl) ?_); intro K hK) | ((first | with_reducible refine evOps_n ?_ | ((with_reducible apply evOps_g); rfl) | with_reducible refine evOpsD_n ?_ | ((with_reducible apply evOpsD_g); rfl)); intro K hK; simp (contextual := true) only [go_sem, simprocAttr]) | with_reducible refine evOps_nil ?_ | ((with_reducible refine evOpsD_nil ?_ ?_); kernel_rfl) | ((with_reducible refine hK _ ?_); clear hK K) | (with_reducible first | refine And.intro ?_ ?_ | refine nxt_n ?_ | refine nxt_r ?_ | refine nxt_e ?_ | refine blk_n ?_ | refine blk_r ?_ | refine blk_same ?_ | refine blk_other (by decide) ?_ | refine noG_n ?_ | refine noG_r ?_ | refine noG_e ?_ | refine inR_mk ?_ ?_) | (refine hook_snext0 (a := w) (pos := w.length) (cv := 1) (j := 0) (by simp only [go_sem, simprocAttr]) (by simp only [go_sem, simprocAttr]) (Nat.le_refl _) ?_; simp only [go_sem, simprocAttr]) | (refine hook_seq (a := w) (b := []) Tryd.underlying9 (by simp only [go_sem, simprocAttr]) rfl ?_; simp only [go_sem, simprocAttr]) | (refine fun (hc : (_ : Bool) = _) => ?_; try simp only [hcS] at hc))
      all_goals try exact om_
      all_goals first | contradiction | skip
      all_goals ((first | refine ret_auto ?_ | refine ret_auto' ?_); simp only [go_sem, simprocAttr, Tryd.f45])
    · have hyes : DigOk w := ⟨⟨List.length_pos_iff.2 h0, by omega, hz (List.length_pos_iff.2 h0), hd⟩, hi6⟩
      obtain ⟨rfl, rfl⟩ := ho.yes hyes
      repeat' (first | ((refine V_drawnX (id := 6) hmix (by rw [hn]; rfl) ?_); intro K hK) | ((refine V_drawnX (id := 9) hmix (by rw [hn]; rfl) ?_); intro K hK) | ((with_reducible refine evOpsDX_nil ?_ ?_); kernel_rfl) | (refine evOpsDX_h ?_; intro K hK; refine HkX.glob hG Tryd.underlying55 ?_; simp (contextual := true) only [go_sem, simprocAttr]) | ((with_reducible refine evOpsDX_n ?_); intro K hK; simp (contextual := true) only [go_sem, simprocAttr]) | (with_reducible first | refine V_seq ?_ | refine V_block ?_ | refine V_skip ?_ | refine V_ret ?_ | refine V_exit ?_) | ((with_reducible refine V_cond ?_); simp only [go_sem, simprocAttr]) | ((first | refine V_region (by rw [hn]; rfl) ?_ | refine V_drawn hmix (by rw [hn]; rfl) ?_); intro K hK) | ((first | with_reducible refine evOps_n ?_ | ((with_reducible apply evOps_g); rfl) | with_reducible refine evOpsD_n ?_ | ((with_reducible apply evOpsD_g); rfl)); intro K hK; simp (contextual := true) only [go_sem, simprocAttr]) | with_reducible refine evOps_nil ?_ | ((with_reducible refine evOpsD_nil ?_ ?_); kernel_rfl) | ((with_reducible refine hK _ ?_); clear hK K) | (with_reducible first | refine And.intro ?_ ?_ | refine nxt_n ?_ | refine nxt_r ?_ | refine nxt_e ?_ | refine blk_n ?_ | refine blk_r ?_ | refine blk_same ?_ | refine blk_other (by decide) ?_ | refine noG_n ?_ | refine noG_r ?_ | refine noG_e ?_ | refine inR_mk ?_ ?_) | (refine hook_snext0 (a := w) (pos := w.length) (cv := 1) (j := 0) (by simp only [go_sem, simprocAttr]) (by simp only [go_sem, simprocAttr]) (Nat.le_refl _) ?_; simp only [go_sem, simprocAttr]) | (refine hook_seq (a := w) (b := []) Tryd.underlying9 (by simp only [go_sem, simprocAttr]) rfl ?_; simp only [go_sem, simprocAttr]) | (refine fun (hc : (_ : Bool) = _) => ?_; try simp only [hcS] at hc))
      all_goals try exact om_
      all_goals first | contradiction | skip
      all_goals ((first | refine ret_auto ?_ | refine ret_auto' ?_); simp only [go_sem, simprocAttr, Tryd.f45])
end Go.Eng
