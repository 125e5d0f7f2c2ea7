/- Links, by the reference: the choices at an entry. -/
import Derived.Test.YtgbjgeignbjjnaaB03q
import Derived.Test.YtgbjgeignbjjnaaB04q
set_option linter.unusedSimpArgs false
set_option linter.unusedVariables false
set_option maxRecDepth 100000
set_option maxHeartbeats 16000000
namespace Go.Eng
open Go Go.Proofs Go.Cats
def _root_.Go.Cats.fitK (ls : List Link) (A : List Int) (n : Nat) (e : Int) (k : Nat) : Bool := ((atL ls n ls.length).take k).all fun q => linkFit A n e (ls.getD q default)
theorem fitK_zero (ls : List Link) (A : List Int) (n : Nat) (e : Int) : fitK ls A n e 0 = true := rfl
theorem fitK_succ {ls : List Link} {A : List Int} {n k : Nat} {e : Int} (h : k < (atL ls n ls.length).length) (hf : fitK ls A n e k = true) : fitK ls A n e (k + 1) = linkFit A n e (ls.getD ((atL ls n ls.length).getD k 0) default) := by
  unfold fitK at hf ⊢
  rw [List.take_add_one, List.getElem?_eq_getElem h, Option.toList_some, List.all_append, hf, Bool.true_and]
  have e1 : (atL ls n ls.length).getD k 0 = (atL ls n ls.length)[k] := by rw [List.getD_eq_getElem?_getD, List.getElem?_eq_getElem h]; rfl
  rw [e1]
  simp
theorem fitK_all {ls : List Link} {A : List Int} {n k : Nat} {e : Int} (h : (atL ls n ls.length).length ≤ k) : fitK ls A n e k = fitsL ls A n e := by
  unfold fitK fitsL
  rw [List.take_of_length_le h]
theorem fitK_no {ls : List Link} {A : List Int} {n k : Nat} {e : Int} (h : fitK ls A n e k = false) : ¬ fitsL ls A n e = true := fun q => by
  have : fitK ls A n e k = true := List.all_eq_true.2 fun x hx => List.all_eq_true.1 q x (List.mem_of_mem_take hx)
  rw [h] at this
  cases this
theorem linkFit_1 {A : List Int} {n : Nat} {e : Int} {l : Link} (h1 : l.i = n) (h2 : l.j = n) : linkFit A n e l = decide (l.left.getD e.toNat 0 = l.right.getD e.toNat 0) := by unfold linkFit; rw [if_pos ⟨h1, h2⟩]
theorem linkFit_2 {A : List Int} {n : Nat} {e : Int} {l : Link} (h1 : l.i = n) (h2 : ¬ l.j = n) (h3 : 0 ≤ A.getD l.j.toNat 0) : linkFit A n e l = decide (l.left.getD e.toNat 0 = l.right.getD (A.getD l.j.toNat 0).toNat 0) := by unfold linkFit; rw [if_neg (fun q => h2 q.2), if_pos ⟨h1, h3⟩]
theorem linkFit_3 {A : List Int} {n : Nat} {e : Int} {l : Link} (h1 : ¬ l.i = n) (h2 : l.j = n) (h3 : 0 ≤ A.getD l.i.toNat 0) : linkFit A n e l = decide (l.left.getD (A.getD l.i.toNat 0).toNat 0 = l.right.getD e.toNat 0) := by unfold linkFit; rw [if_neg (fun q => h1 q.1), if_neg (fun q => h1 q.1), if_pos ⟨h2, h3⟩]
theorem linkFit_4 {A : List Int} {n : Nat} {e : Int} {l : Link} (h1 : ¬ l.i = n ∨ (¬ l.j = n ∧ A.getD l.j.toNat 0 < 0)) (h2 : ¬ l.j = n ∨ (¬ l.i = n ∧ A.getD l.i.toNat 0 < 0)) : linkFit A n e l = true := by
  unfold linkFit
  rw [if_neg (fun q => by omega), if_neg (fun q => by omega), if_neg (fun q => by omega)]
theorem atL_mem {ls : List Link} {n m k : Nat} (h : k < (atL ls n m).length) : (atL ls n m).getD k 0 < m := by
  rw [List.getD_eq_getElem?_getD, List.getElem?_eq_getElem h]
  exact List.mem_range.1 (List.mem_filter.1 (List.getElem_mem h)).1
theorem atL_len (ls : List Link) (n m : Nat) : (atL ls n m).length ≤ m := by
  have := List.length_filter_le (fun k => decide ((ls.getD k default).i = n) || decide ((ls.getD k default).j = n)) (List.range m)
  rwa [List.length_range] at this
structure AtW (ls : List Link) (S : List Nat) (T : List (List Int)) : Prop where
  len : T.length = S.length
  row : ∀ i, i < S.length → T.getD i [] = (atL ls i ls.length).map fun k : Nat => (k : Int)
attribute [local go_sem] fitK_zero chL_zero
theorem cal_l22Choices : Callable Try.prog 76 := ⟨_, Try.func76, rfl, rfl⟩
theorem sp_l22Choices_n {lvs : List (Link × RawV)} {S : List Nat} {Sz A : List Int} {T F : List (List Int)} {m : Int} {n : Nat} (hw : LinksW S (lvs.map (·.1))) (hl : S.length = Sz.length) (h9 : ∀ i, Sz.getD i 0 = S.getD i 0) (hb : ∀ i, S.getD i 0 ≤ 1048576) (hc : lvs.length ≤ 1048576)
    (hT : AtW (lvs.map (·.1)) S T) (hA : A.length = S.length) (hr : ∀ j, j < A.length → A.getD j 0 < S.getD j 0) (hn0 : n < S.length) :
    SpecR Try.prog 76 [.bptr [] [ints Sz, linksD lvs, intss T, .v (.int .i64 m), intss F], .bor [] (ints A), iv n] [] (.sl 0) [(0, ⟨1, .arr (ints (chL (lvs.map (·.1)) A n (S.getD n 0)))⟩)] (LLent lvs) := by
  have hll : (lvs.map (·.1)).length = lvs.length := by simp
  have hal := atL_len (lvs.map (·.1)) n (lvs.map (·.1)).length
  have hTl := hT.len
  have hTr := hT.row n hn0
  have hTk : (T.getD n []).length = (atL (lvs.map (·.1)) n (lvs.map (·.1)).length).length := by rw [hTr]; simp
  have hS0 := hb n
  have hS1 := h9 n
  refine specR_of_V (E := TE) 0 Try.func76 rfl (by simp [Try.f76]) fun X hn hX hLL => ?_
  repeat' (first | (with_reducible first | refine V_seq ?_ | refine V_block ?_ | refine V_skip ?_ | refine V_ret ?_ | refine V_exit ?_) | ((with_reducible refine V_cond ?_); simp only [go_sem, simprocAttr]) | ((first | refine V_region (by rw [hn]; rfl) ?_ | refine V_drawn hmix (by rw [hn]; rfl) ?_); intro K hK) | ((first | with_reducible refine evOps_n ?_ | ((with_reducible apply evOps_g); rfl) | with_reducible refine evOpsD_n ?_ | ((with_reducible apply evOpsD_g); rfl)); intro K hK; simp (contextual := true) only [go_sem, simprocAttr]) | with_reducible refine evOps_nil ?_ | ((with_reducible refine evOpsD_nil ?_ ?_); kernel_rfl) | ((with_reducible refine hK _ ?_); clear hK K) | (with_reducible first | refine And.intro ?_ ?_ | refine nxt_n ?_ | refine nxt_r ?_ | refine nxt_e ?_ | refine blk_n ?_ | refine blk_r ?_ | refine blk_same ?_ | refine blk_other (by decide) ?_ | refine noG_n ?_ | refine noG_r ?_ | refine noG_e ?_ | refine inR_mk ?_ ?_) | (refine fun (hc : (_ : Bool) = _) => ?_; try simp only [hcS] at hc))
  all_goals try exact om_
  refine V_loopK (G := {e : Nat // e ≤ (S.getD n 0) ∧ (True)}) (fun ⟨e, _⟩ => [(8, iv e), (7, .sl 0)]) [0, 1, 2, 6] (fun ⟨e, _⟩ => [(0, ⟨1, .arr (ints (chL (lvs.map (·.1)) A n e))⟩)]) [0] (fun zz => (S.getD n 0) - zz.1) ⟨0, Nat.zero_le _, by first | trivial | simp⟩ ?_ ?_
  · exact Imp.au hX
  rintro ⟨e, hie, hwe⟩
  simp only [go_sem, simprocAttr]
  have hcl := chL_len (ls := lvs.map (·.1)) (A := A) (n := n) e
  rcases Nat.lt_or_ge e (S.getD n 0) with hlt | hge
  · repeat' (first | (with_reducible first | refine V_seq ?_ | refine V_block ?_ | refine V_skip ?_ | refine V_ret ?_ | refine V_exit ?_) | ((with_reducible refine V_cond ?_); simp only [go_sem, simprocAttr]) | ((first | refine V_region (by rw [hn]; rfl) ?_ | refine V_drawn hmix (by rw [hn]; rfl) ?_); intro K hK) | ((first | with_reducible refine evOps_n ?_ | ((with_reducible apply evOps_g); rfl) | with_reducible refine evOpsD_n ?_ | ((with_reducible apply evOpsD_g); rfl)); intro K hK; simp (contextual := true) only [go_sem, simprocAttr]) | with_reducible refine evOps_nil ?_ | ((with_reducible refine evOpsD_nil ?_ ?_); kernel_rfl) | ((with_reducible refine hK _ ?_); clear hK K) | (with_reducible first | refine And.intro ?_ ?_ | refine nxt_n ?_ | refine nxt_r ?_ | refine nxt_e ?_ | refine blk_n ?_ | refine blk_r ?_ | refine blk_same ?_ | refine blk_other (by decide) ?_ | refine noG_n ?_ | refine noG_r ?_ | refine noG_e ?_ | refine inR_mk ?_ ?_) | (refine fun (hc : (_ : Bool) = _) => ?_; try simp only [hcS] at hc))
    all_goals try exact om_
    refine V_loopK (G := {k : Nat // k ≤ (T.getD n []).length ∧ (True)}) (fun ⟨k, _⟩ => [(10, iv k), (9, .v (.bool (fitK (lvs.map (·.1)) A n e k)))]) [0, 1, 2, 6, 7, 8] (fun ⟨k, _⟩ => []) [] (fun zz => (T.getD n []).length - zz.1) ⟨0, Nat.zero_le _, by first | trivial | simp⟩ ?_ ?_
    · exact Imp.au hX
    rintro ⟨k, hik, hwk⟩
    simp only [go_sem, simprocAttr]
    rcases Nat.lt_or_ge k (T.getD n []).length with hkl | hkg
    · cases hf : fitK (lvs.map (·.1)) A n e k with
      | false =>
        repeat' (first | (with_reducible first | refine V_seq ?_ | refine V_block ?_ | refine V_skip ?_ | refine V_ret ?_ | refine V_exit ?_) | ((with_reducible refine V_cond ?_); simp only [go_sem, simprocAttr]) | ((first | refine V_region (by rw [hn]; rfl) ?_ | refine V_drawn hmix (by rw [hn]; rfl) ?_); intro K hK) | ((first | with_reducible refine evOps_n ?_ | ((with_reducible apply evOps_g); rfl) | with_reducible refine evOpsD_n ?_ | ((with_reducible apply evOpsD_g); rfl)); intro K hK; simp (contextual := true) only [go_sem, simprocAttr]) | with_reducible refine evOps_nil ?_ | ((with_reducible refine evOpsD_nil ?_ ?_); kernel_rfl) | ((with_reducible refine hK _ ?_); clear hK K) | (with_reducible first | refine And.intro ?_ ?_ | refine nxt_n ?_ | refine nxt_r ?_ | refine nxt_e ?_ | refine blk_n ?_ | refine blk_r ?_ | refine blk_same ?_ | refine blk_other (by decide) ?_ | refine noG_n ?_ | refine noG_r ?_ | refine noG_e ?_ | refine inR_mk ?_ ?_) | (refine fun (hc : (_ : Bool) = _) => ?_; try simp only [hcS] at hc))
        all_goals try exact om_
        · refine ⟨⟨e + 1, by omega, (by trivial)⟩, by simp only; omega, Imp.auto hX (by simp only [go_sem, simprocAttr, chL_no (fitK_no hf)])⟩
      | true =>
        have hk2 : k < (atL (lvs.map (·.1)) n (lvs.map (·.1)).length).length := by omega
        have hsu := fitK_succ hk2 hf
        have hme := atL_mem hk2
        obtain ⟨z, hz⟩ : ∃ z, (atL (lvs.map (·.1)) n (lvs.map (·.1)).length).getD k 0 = z := ⟨_, rfl⟩
        rw [hz] at hsu hme
        have hTz : (T.getD n []).getD k 0 = (z : Int) := by rw [hTr, ← hz, List.getD_eq_getElem?_getD, List.getElem?_map, List.getD_eq_getElem?_getD, List.getElem?_eq_getElem hk2]; rfl
        have p1 := links_part lvs z (by omega)
        have hpm : lvs.getD z default ∈ lvs := by rw [List.getD_eq_getElem?_getD, List.getElem?_eq_getElem (by omega)]; exact List.getElem_mem (by omega)
        have hpe : (lvs.map (·.1)).getD z default = (lvs.getD z default).1 := by rw [List.getD_eq_getElem?_getD, List.getElem?_map, List.getD_eq_getElem?_getD, List.getElem?_eq_getElem (by omega)]; rfl
        rw [hpe] at hsu
        obtain ⟨p, hp⟩ : ∃ p, lvs.getD z default = p := ⟨_, rfl⟩
        rw [hp] at p1 hpm hsu
        have hp1 : p.1 ∈ lvs.map (·.1) := List.mem_map.2 ⟨p, hpm, rfl⟩
        have w1 := hw.i p.1 hp1
        have w2 := hw.j p.1 hp1
        have w3 := hw.left p.1 hp1
        have w4 := hw.right p.1 hp1
        have r1 := hr p.1.i.toNat (by omega)
        have r2 := hr p.1.j.toNat (by omega)
        have w5 : p.1.i = n → p.1.left.length = S.getD n 0 := fun h => by rw [w3, h, Int.toNat_natCast]
        have w6 : p.1.j = n → p.1.right.length = S.getD n 0 := fun h => by rw [w4, h, Int.toNat_natCast]
        have p2 : (linksD lvs).part (((T.getD n []).getD k 0).toNat * 4) 4 = [.v (.int .i64 p.1.i), .v (.int .i64 p.1.j), .v p.2.x, ints p.1.right] := by rw [hTz, Int.toNat_natCast, p1]; rfl
        repeat' (first | (rw [p2]) | ((refine V_drawnX hmix (by rw [hn]; rfl) ?_); intro K hK) | ((with_reducible refine evOpsDX_nil ?_ ?_); kernel_rfl) | (refine evOpsDX_h ?_; intro K hK; refine hook_idxR (x := .tmp 67) (y := .tmp 68) (k := .i64) (u := p.2.x) (A := p.1.left) (n := (e:Int)) (by simp only [go_sem, simprocAttr]) (by simp only [go_sem, simprocAttr]) (hLL _ hpm) rfl (by omega) (by omega) ?_; simp (contextual := true) only [go_sem, simprocAttr]) | (refine evOpsDX_h ?_; intro K hK; refine hook_idxR (x := .tmp 91) (y := .tmp 92) (k := .i64) (u := p.2.x) (A := p.1.left) (n := (e:Int)) (by simp only [go_sem, simprocAttr]) (by simp only [go_sem, simprocAttr]) (hLL _ hpm) rfl (by omega) (by omega) ?_; simp (contextual := true) only [go_sem, simprocAttr]) | (refine evOpsDX_h ?_; intro K hK; refine hook_idxR (x := .tmp 119) (y := .tmp 124) (k := .i64) (u := p.2.x) (A := p.1.left) (n := A.getD p.1.i.toNat 0) (by simp only [go_sem, simprocAttr]) (by simp only [go_sem, simprocAttr]) (hLL _ hpm) rfl (by omega) (by omega) ?_; simp (contextual := true) only [go_sem, simprocAttr]) | ((with_reducible refine evOpsDX_nil ?_ ?_); kernel_rfl) | (refine evOpsDX_h ?_; intro K hK; refine hook_idxR (k := .i64) (u := p.2.x) (A := p.1.left) (n := (e:Int)) ?_ ?_ (hLL _ hpm) rfl ?_ ?_ ?_; focus (simp only [go_sem, simprocAttr]; done); focus (simp only [go_sem, simprocAttr]; done); focus omega; focus omega; simp (contextual := true) only [go_sem, simprocAttr]) | (refine evOpsDX_h ?_; intro K hK; refine hook_idxR (k := .i64) (u := p.2.x) (A := p.1.left) (n := A.getD p.1.i.toNat 0) ?_ ?_ (hLL _ hpm) rfl ?_ ?_ ?_; focus (simp only [go_sem, simprocAttr]; done); focus (simp only [go_sem, simprocAttr]; done); focus omega; focus omega; simp (contextual := true) only [go_sem, simprocAttr]) | ((with_reducible refine evOpsDX_n ?_); intro K hK; simp (contextual := true) only [go_sem, simprocAttr]) | (with_reducible first | refine V_seq ?_ | refine V_block ?_ | refine V_skip ?_ | refine V_ret ?_ | refine V_exit ?_) | ((with_reducible refine V_cond ?_); simp only [go_sem, simprocAttr]) | ((first | refine V_region (by rw [hn]; rfl) ?_ | refine V_drawn hmix (by rw [hn]; rfl) ?_); intro K hK) | ((first | with_reducible refine evOps_n ?_ | ((with_reducible apply evOps_g); rfl) | with_reducible refine evOpsD_n ?_ | ((with_reducible apply evOpsD_g); rfl)); intro K hK; simp (contextual := true) only [go_sem, simprocAttr]) | with_reducible refine evOps_nil ?_ | ((with_reducible refine evOpsD_nil ?_ ?_); kernel_rfl) | ((with_reducible refine hK _ ?_); clear hK K) | (with_reducible first | refine And.intro ?_ ?_ | refine nxt_n ?_ | refine nxt_r ?_ | refine nxt_e ?_ | refine blk_n ?_ | refine blk_r ?_ | refine blk_same ?_ | refine blk_other (by decide) ?_ | refine noG_n ?_ | refine noG_r ?_ | refine noG_e ?_ | refine inR_mk ?_ ?_) | (refine fun (hc : (_ : Bool) = _) => ?_; try simp only [hcS] at hc))
        all_goals try exact om_
        · have e1 := linkFit_1 (A := A) (n := n) (e := (e : Int)) (l := p.1) (by omega) (by omega)
          rw [Int.toNat_natCast] at e1
          refine ⟨⟨k + 1, by omega, (by trivial)⟩, by simp only; omega, Imp.auto hX (by simp only [go_sem, simprocAttr, hsu, e1])⟩
        · have e1 := linkFit_2 (A := A) (n := n) (e := (e : Int)) (l := p.1) (by omega) (by omega) (by omega)
          rw [Int.toNat_natCast] at e1
          refine ⟨⟨k + 1, by omega, (by trivial)⟩, by simp only; omega, Imp.auto hX (by simp only [go_sem, simprocAttr, hsu, e1])⟩
        · have e1 := linkFit_4 (A := A) (n := n) (e := (e : Int)) (l := p.1) (by omega) (by omega)
          refine ⟨⟨k + 1, by omega, (by trivial)⟩, by simp only; omega, Imp.auto hX (by simp only [go_sem, simprocAttr, hsu, e1])⟩
        · have e1 := linkFit_3 (A := A) (n := n) (e := (e : Int)) (l := p.1) (by omega) (by omega) (by omega)
          rw [Int.toNat_natCast] at e1
          refine ⟨⟨k + 1, by omega, (by trivial)⟩, by simp only; omega, Imp.auto hX (by simp only [go_sem, simprocAttr, hsu, e1])⟩
        · have e1 := linkFit_4 (A := A) (n := n) (e := (e : Int)) (l := p.1) (by omega) (by omega)
          refine ⟨⟨k + 1, by omega, (by trivial)⟩, by simp only; omega, Imp.auto hX (by simp only [go_sem, simprocAttr, hsu, e1])⟩
        · have e1 := linkFit_4 (A := A) (n := n) (e := (e : Int)) (l := p.1) (by omega) (by omega)
          refine ⟨⟨k + 1, by omega, (by trivial)⟩, by simp only; omega, Imp.auto hX (by simp only [go_sem, simprocAttr, hsu, e1])⟩
    · cases hf : fitK (lvs.map (·.1)) A n e k with
      | false =>
        repeat' (first | (with_reducible first | refine V_seq ?_ | refine V_block ?_ | refine V_skip ?_ | refine V_ret ?_ | refine V_exit ?_) | ((with_reducible refine V_cond ?_); simp only [go_sem, simprocAttr]) | ((first | refine V_region (by rw [hn]; rfl) ?_ | refine V_drawn hmix (by rw [hn]; rfl) ?_); intro K hK) | ((first | with_reducible refine evOps_n ?_ | ((with_reducible apply evOps_g); rfl) | with_reducible refine evOpsD_n ?_ | ((with_reducible apply evOpsD_g); rfl)); intro K hK; simp (contextual := true) only [go_sem, simprocAttr]) | with_reducible refine evOps_nil ?_ | ((with_reducible refine evOpsD_nil ?_ ?_); kernel_rfl) | ((with_reducible refine hK _ ?_); clear hK K) | (with_reducible first | refine And.intro ?_ ?_ | refine nxt_n ?_ | refine nxt_r ?_ | refine nxt_e ?_ | refine blk_n ?_ | refine blk_r ?_ | refine blk_same ?_ | refine blk_other (by decide) ?_ | refine noG_n ?_ | refine noG_r ?_ | refine noG_e ?_ | refine inR_mk ?_ ?_) | (refine fun (hc : (_ : Bool) = _) => ?_; try simp only [hcS] at hc))
        all_goals try exact om_
        · refine ⟨⟨e + 1, by omega, (by trivial)⟩, by simp only; omega, Imp.auto hX (by simp only [go_sem, simprocAttr, chL_no (fitK_no hf)])⟩
      | true =>
        rw [fitK_all (by omega)] at hf
        repeat' (first | (with_reducible first | refine V_seq ?_ | refine V_block ?_ | refine V_skip ?_ | refine V_ret ?_ | refine V_exit ?_) | ((with_reducible refine V_cond ?_); simp only [go_sem, simprocAttr]) | ((first | refine V_region (by rw [hn]; rfl) ?_ | refine V_drawn hmix (by rw [hn]; rfl) ?_); intro K hK) | ((first | with_reducible refine evOps_n ?_ | ((with_reducible apply evOps_g); rfl) | with_reducible refine evOpsD_n ?_ | ((with_reducible apply evOpsD_g); rfl)); intro K hK; simp (contextual := true) only [go_sem, simprocAttr]) | with_reducible refine evOps_nil ?_ | ((with_reducible refine evOpsD_nil ?_ ?_); kernel_rfl) | ((with_reducible refine hK _ ?_); clear hK K) | (with_reducible first | refine And.intro ?_ ?_ | refine nxt_n ?_ | refine nxt_r ?_ | refine nxt_e ?_ | refine blk_n ?_ | refine blk_r ?_ | refine blk_same ?_ | refine blk_other (by decide) ?_ | refine noG_n ?_ | refine noG_r ?_ | refine noG_e ?_ | refine inR_mk ?_ ?_) | (refine fun (hc : (_ : Bool) = _) => ?_; try simp only [hcS] at hc))
        all_goals try exact om_
        · refine ⟨⟨e + 1, by omega, (by trivial)⟩, by simp only; omega, Imp.auto hX (by simp only [go_sem, simprocAttr, chL_yes hf])⟩
  · repeat' (first | (with_reducible first | refine V_seq ?_ | refine V_block ?_ | refine V_skip ?_ | refine V_ret ?_ | refine V_exit ?_) | ((with_reducible refine V_cond ?_); simp only [go_sem, simprocAttr]) | ((first | refine V_region (by rw [hn]; rfl) ?_ | refine V_drawn hmix (by rw [hn]; rfl) ?_); intro K hK) | ((first | with_reducible refine evOps_n ?_ | ((with_reducible apply evOps_g); rfl) | with_reducible refine evOpsD_n ?_ | ((with_reducible apply evOpsD_g); rfl)); intro K hK; simp (contextual := true) only [go_sem, simprocAttr]) | with_reducible refine evOps_nil ?_ | ((with_reducible refine evOpsD_nil ?_ ?_); kernel_rfl) | ((with_reducible refine hK _ ?_); clear hK K) | (with_reducible first | refine And.intro ?_ ?_ | refine nxt_n ?_ | refine nxt_r ?_ | refine nxt_e ?_ | refine blk_n ?_ | refine blk_r ?_ | refine blk_same ?_ | refine blk_other (by decide) ?_ | refine noG_n ?_ | refine noG_r ?_ | refine noG_e ?_ | refine inR_mk ?_ ?_) | (refine fun (hc : (_ : Bool) = _) => ?_; try simp only [hcS] at hc))
    all_goals try exact om_
    (first | refine ret_auto ?_ | refine ret_auto' ?_); simp only [go_sem, simprocAttr, Try.f76]
    rw [show e = S.getD n 0 by omega]
end Go.Eng
