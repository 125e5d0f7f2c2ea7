/- Maps between profunctors: the sizes and rules, by the program. -/
import Derived.Test.YtgbjgeignbjjnaaX06q
import Derived.Test.YtgbjgeignbjjnaaB09q
set_option linter.unusedSimpArgs false
set_option linter.unusedVariables false
set_option maxRecDepth 100000
set_option maxHeartbeats 16000000
namespace Go.Eng
open Go Go.Proofs Go.Cats
def brX (p q : Prof) (XB : List (List RawV)) (a y e : Nat) : Rule × RawV := (brr p q a y e, (XB.getD a []).getD y default)
def hrX (p q : Prof) (XH : List (List RawV)) (b x e : Nat) : Rule × RawV := (hrr p q b x e, (XH.getD b []).getD x default)
def rvB (p q : Prof) (XB : List (List RawV)) : List (Rule × RawV) := gP (brX p q XB) (bLen p) p.tgt.ob.toNat p.src.fr.length 0
def rvH (p q : Prof) (XH : List (List RawV)) : List (Rule × RawV) := gP (hrX p q XH) (hLen p) p.src.ob.toNat p.tgt.fr.length 0
def rvA (p q : Prof) (XB XH : List (List RawV)) : List (Rule × RawV) := rvB p q XB ++ rvH p q XH
section
variable {p q : Prof} {XB XH : List (List RawV)}
theorem rvA_1 : (rvA p q XB XH).map (·.1) = ruA p q := by
  unfold rvA rvB rvH ruA
  rw [List.map_append, gA_map, gA_map]; rfl
theorem rvA_len (s : PrShape p) : (rvA p q XB XH).length ≤ 41984 := by
  have := ruA_len (q := q) s
  rw [← rvA_1 (XB := XB) (XH := XH), List.length_map] at this
  exact this
theorem rvA_lent (t : PrShape q) (e1 : p.src = q.src) (e2 : p.tgt = q.tgt) {w : World} {R : Nat → Prop} (hb : PLn q.bef XB w R) (hh : PLn q.beh XH w R) : ∀ r ∈ rvA p q XB XH, RdV w R (ints r.1.by_) r.2.x := fun r hr => by
  unfold rvA rvB rvH at hr
  rcases List.mem_append.1 hr with hr | hr
  · obtain ⟨a, y, e, ha, hy, he, rfl⟩ := mem_gA.1 hr
    rw [e1] at ha
    rw [e2] at hy
    exact hb a (by rw [t.bel]; exact ha) y (by rw [t.w.bl a ha]; exact hy)
  · obtain ⟨b, x, e, hb', hx, he, rfl⟩ := mem_gA.1 hr
    rw [e2] at hb'
    rw [e1] at hx
    exact hh b (by rw [t.hel]; exact hb') x (by rw [t.w.hl b hb']; exact hx)
end
attribute [local go_sem] szP_zero gP_zero
theorem cal_Profunctor_mapRules : Callable Try.prog 25 := ⟨_, Try.func25, rfl, rfl⟩
theorem sp_Profunctor_mapRules {p q : Prof} {XB XH : List (List RawV)} (s : PrShape p) (t : PrShape q) (e1 : p.src = q.src) (e2 : p.tgt = q.tgt) (nb : NmL q.bef XB) (nh : NmL q.beh XH) : Spec Try.prog 25 [.bptr [] (profD p), .bptr [] (profW q XB XH)] [] (.tup [.sl 0, .sl 1]) [(0, ⟨1, .arr (ints (szA p q))⟩), (1, ⟨1, .arr (rulesD (rvA p q XB XH))⟩)] := by
  refine spec_of_V (E := TE) 0 Try.func25 rfl (by simp [Try.f25]) fun X hn hX => ?_
  have o1 := s.src.toShape.ob0
  have o2 := s.tgt.toShape.ob0
  have o3 := s.src.toShape.ob8
  have o4 := s.tgt.toShape.ob8
  have m1 := s.src.toShape.m40
  have m2 := s.tgt.toShape.m40
  have tl := s.src.toShape.tol
  have tl2 := s.tgt.toShape.tol
  have z1 := s.szl
  have z2 := s.bel
  have z3 := s.hel
  have y1 := t.szl
  have y2 := t.bel
  have y3 := t.hel
  rw [← e1] at y1 y2
  rw [← e2] at y3
  have n1 := nb.len
  have n2 := nh.len
  obtain ⟨w1, w2, w3, w4, w5, w6⟩ := s.w
  obtain ⟨v1, v2, v3, v4, v5, v6⟩ := t.w
  rw [← e1, ← e2] at v1 v2 v3 v4 v5 v6
  have zl : p.sz.length = p.src.ob.toNat := by omega
  have hst := sp_Profunctor_starts s
  have stl := stL_len (p := p) (x := p.src.ob.toNat)
  repeat' (first | (with_reducible first | refine V_seq ?_ | refine V_block ?_ | refine V_skip ?_ | refine V_ret ?_ | refine V_exit ?_) | ((with_reducible refine V_cond ?_); simp only [go_sem, simprocAttr]) | ((first | refine V_region (by rw [hn]; rfl) ?_ | refine V_drawn hmix (by rw [hn]; rfl) ?_); intro K hK) | ((first | with_reducible refine evOps_n ?_ | ((with_reducible apply evOps_g); rfl) | with_reducible refine evOpsD_n ?_ | ((with_reducible apply evOpsD_g); rfl)); intro K hK; simp (contextual := true) only [go_sem, simprocAttr]) | with_reducible refine evOps_nil ?_ | ((with_reducible refine evOpsD_nil ?_ ?_); kernel_rfl) | ((with_reducible refine hK _ ?_); clear hK K) | (with_reducible first | refine And.intro ?_ ?_ | refine nxt_n ?_ | refine nxt_r ?_ | refine nxt_e ?_ | refine blk_n ?_ | refine blk_r ?_ | refine blk_same ?_ | refine blk_other (by decide) ?_ | refine noG_n ?_ | refine noG_r ?_ | refine noG_e ?_ | refine inR_mk ?_ ?_) | ((with_reducible refine evCall_at 24 ?_); refine EvCall.mk (hst) cal_Profunctor_starts [(0,0)] [] (by simp [go_sem] <;> (repeat' (first | rfl | constructor))) (by simp [go_sem] <;> (repeat' (first | rfl | constructor))) ?_; all_goals try simp only [go_sem, simprocAttr]) | (refine fun (hc : (_ : Bool) = _) => ?_; try simp only [hcS] at hc))
  all_goals try exact om_
  refine V_loopK (G := {x : Nat // x ≤ p.sz.length ∧ (True)}) (fun ⟨x, _⟩ => [(38, iv x), (6, .sl 0), (8, .sl 1), (9, .sl 2)]) [0, 1, 4, 5, 36, 37] (fun ⟨x, _⟩ => [(1, ⟨1, .arr (ints (szP p q x 0))⟩)]) [1] (fun zz => p.sz.length - zz.1) ⟨0, Nat.zero_le _, by first | trivial | simp⟩ ?_ ?_
  · exact Imp.au hX
  rintro ⟨x, hix, hwx⟩
  simp only [go_sem, simprocAttr]
  rcases Nat.lt_or_ge x p.sz.length with hlx | hgx
  · have g1 := w1 x (by omega)
    have g2 := v1 x (by omega)
    repeat' (first | (with_reducible first | refine V_seq ?_ | refine V_block ?_ | refine V_skip ?_ | refine V_ret ?_ | refine V_exit ?_) | ((with_reducible refine V_cond ?_); simp only [go_sem, simprocAttr]) | ((first | refine V_region (by rw [hn]; rfl) ?_ | refine V_drawn hmix (by rw [hn]; rfl) ?_); intro K hK) | ((first | with_reducible refine evOps_n ?_ | ((with_reducible apply evOps_g); rfl) | with_reducible refine evOpsD_n ?_ | ((with_reducible apply evOpsD_g); rfl)); intro K hK; simp (contextual := true) only [go_sem, simprocAttr]) | with_reducible refine evOps_nil ?_ | ((with_reducible refine evOpsD_nil ?_ ?_); kernel_rfl) | ((with_reducible refine hK _ ?_); clear hK K) | (with_reducible first | refine And.intro ?_ ?_ | refine nxt_n ?_ | refine nxt_r ?_ | refine nxt_e ?_ | refine blk_n ?_ | refine blk_r ?_ | refine blk_same ?_ | refine blk_other (by decide) ?_ | refine noG_n ?_ | refine noG_r ?_ | refine noG_e ?_ | refine inR_mk ?_ ?_) | (refine fun (hc : (_ : Bool) = _) => ?_; try simp only [hcS] at hc))
    all_goals try exact om_
    refine V_loopK (G := {y : Nat // y ≤ (p.sz.getD x []).length ∧ (True)}) (fun ⟨y, _⟩ => [(45, iv y), (6, .sl 0), (8, .sl 1), (9, .sl 2), (10, iv x), (11, .bor [] (ints (p.sz.getD x [])))]) [0, 1, 4, 5, 36, 37, 38, 43, 44] (fun ⟨y, _⟩ => [(1, ⟨1, .arr (ints (szP p q x y))⟩)]) [1] (fun zz => (p.sz.getD x []).length - zz.1) ⟨0, Nat.zero_le _, by first | trivial | simp⟩ ?_ ?_
    · exact Imp.au hX
    rintro ⟨y, hiy, hwy⟩
    simp only [go_sem, simprocAttr]
    rcases Nat.lt_or_ge y (p.sz.getD x []).length with hly | hgy
    · have l1 := szP_len (q := q) s (show x < p.src.ob.toNat by omega) (show y ≤ p.tgt.ob.toNat by omega)
      have l2 := off_bd s (show x < p.src.ob.toNat by omega) (show y ≤ p.tgt.ob.toNat by omega)
      obtain ⟨l3, l4⟩ : 0 ≤ (p.sz.getD x []).getD y 0 ∧ (p.sz.getD x []).getD y 0 < 65 := w2 x y (by omega) (by omega)
      have l5 : (List.replicate ((p.sz.getD x []).getD y 0).toNat ((q.sz.getD x []).getD y 0)).length ≤ 64 := by rw [List.length_replicate]; omega
      have hre := sp_repeated_b (x := (q.sz.getD x []).getD y 0) (n := (p.sz.getD x []).getD y 0) l3 (by omega)
      have e3 := szP_succ (p := p) (q := q) (x := x) (y := y)
      repeat' (first | (with_reducible first | refine V_seq ?_ | refine V_block ?_ | refine V_skip ?_ | refine V_ret ?_ | refine V_exit ?_) | ((with_reducible refine V_cond ?_); simp only [go_sem, simprocAttr]) | ((first | refine V_region (by rw [hn]; rfl) ?_ | refine V_drawn hmix (by rw [hn]; rfl) ?_); intro K hK) | ((first | with_reducible refine evOps_n ?_ | ((with_reducible apply evOps_g); rfl) | with_reducible refine evOpsD_n ?_ | ((with_reducible apply evOpsD_g); rfl)); intro K hK; simp (contextual := true) only [go_sem, simprocAttr]) | with_reducible refine evOps_nil ?_ | ((with_reducible refine evOpsD_nil ?_ ?_); kernel_rfl) | ((with_reducible refine hK _ ?_); clear hK K) | (with_reducible first | refine And.intro ?_ ?_ | refine nxt_n ?_ | refine nxt_r ?_ | refine nxt_e ?_ | refine blk_n ?_ | refine blk_r ?_ | refine blk_same ?_ | refine blk_other (by decide) ?_ | refine noG_n ?_ | refine noG_r ?_ | refine noG_e ?_ | refine inR_mk ?_ ?_) | ((with_reducible refine evCall_at 47 ?_); refine EvCall.mk (hre) cal_repeated [(0,3)] [] (by simp [go_sem] <;> (repeat' (first | rfl | constructor))) (by simp [go_sem] <;> (repeat' (first | rfl | constructor))) ?_; all_goals try simp only [go_sem, simprocAttr]) | (refine fun (hc : (_ : Bool) = _) => ?_; try simp only [hcS] at hc))
      all_goals try exact om_
      refine ⟨⟨y + 1, by omega, (by trivial)⟩, by simp only; omega, Imp.auto hX (by simp only [go_sem, simprocAttr, ← e3])⟩
    · have ey : y = (p.sz.getD x []).length := by omega
      subst ey
      have e3 := szP_next (p := p) (q := q) (x := x)
      rw [← g1] at e3
      repeat' (first | (with_reducible first | refine V_seq ?_ | refine V_block ?_ | refine V_skip ?_ | refine V_ret ?_ | refine V_exit ?_) | ((with_reducible refine V_cond ?_); simp only [go_sem, simprocAttr]) | ((first | refine V_region (by rw [hn]; rfl) ?_ | refine V_drawn hmix (by rw [hn]; rfl) ?_); intro K hK) | ((first | with_reducible refine evOps_n ?_ | ((with_reducible apply evOps_g); rfl) | with_reducible refine evOpsD_n ?_ | ((with_reducible apply evOpsD_g); rfl)); intro K hK; simp (contextual := true) only [go_sem, simprocAttr]) | with_reducible refine evOps_nil ?_ | ((with_reducible refine evOpsD_nil ?_ ?_); kernel_rfl) | ((with_reducible refine hK _ ?_); clear hK K) | (with_reducible first | refine And.intro ?_ ?_ | refine nxt_n ?_ | refine nxt_r ?_ | refine nxt_e ?_ | refine blk_n ?_ | refine blk_r ?_ | refine blk_same ?_ | refine blk_other (by decide) ?_ | refine noG_n ?_ | refine noG_r ?_ | refine noG_e ?_ | refine inR_mk ?_ ?_) | (refine fun (hc : (_ : Bool) = _) => ?_; try simp only [hcS] at hc))
      all_goals try exact om_
      refine ⟨⟨x + 1, by omega, (by trivial)⟩, by simp only; omega, Imp.auto hX (by simp only [go_sem, simprocAttr, ← e3])⟩
  · have ex : x = p.sz.length := by omega
    subst ex
    have e3 : szP p q p.sz.length 0 = szA p q := by rw [zl]; rfl
    rw [e3]
    have hbl : ∀ a, a < p.src.fr.length → ∀ y, y < p.tgt.ob.toNat → bLen p a y ≤ 64 := fun a ha y hy => bLen_le s ha hy
    have hhl : ∀ b, b < p.tgt.fr.length → ∀ x, x < p.src.ob.toNat → hLen p b x ≤ 64 := fun b hb x hx => hLen_le s hb hx
    repeat' (first | (with_reducible first | refine V_seq ?_ | refine V_block ?_ | refine V_skip ?_ | refine V_ret ?_ | refine V_exit ?_) | ((with_reducible refine V_cond ?_); simp only [go_sem, simprocAttr]) | ((first | refine V_region (by rw [hn]; rfl) ?_ | refine V_drawn hmix (by rw [hn]; rfl) ?_); intro K hK) | ((first | with_reducible refine evOps_n ?_ | ((with_reducible apply evOps_g); rfl) | with_reducible refine evOpsD_n ?_ | ((with_reducible apply evOpsD_g); rfl)); intro K hK; simp (contextual := true) only [go_sem, simprocAttr]) | with_reducible refine evOps_nil ?_ | ((with_reducible refine evOpsD_nil ?_ ?_); kernel_rfl) | ((with_reducible refine hK _ ?_); clear hK K) | (with_reducible first | refine And.intro ?_ ?_ | refine nxt_n ?_ | refine nxt_r ?_ | refine nxt_e ?_ | refine blk_n ?_ | refine blk_r ?_ | refine blk_same ?_ | refine blk_other (by decide) ?_ | refine noG_n ?_ | refine noG_r ?_ | refine noG_e ?_ | refine inR_mk ?_ ?_) | (refine fun (hc : (_ : Bool) = _) => ?_; try simp only [hcS] at hc))
    all_goals try exact om_
    refine V_loopK (G := {a : Nat // a ≤ p.bef.length ∧ (True)}) (fun ⟨a, _⟩ => [(71, iv a), (6, .sl 0), (8, .sl 1), (9, .sl 2)]) [0, 1, 4, 5, 69, 70] (fun ⟨a, _⟩ => [(2, ⟨1, .arr (rulesD (gP (brX p q XB) (bLen p) p.tgt.ob.toNat a 0))⟩)]) [2] (fun zz => p.bef.length - zz.1) ⟨0, Nat.zero_le _, by first | trivial | simp⟩ ?_ ?_
    · exact Imp.au hX
    rintro ⟨a, hia, hwa⟩
    simp only [go_sem, simprocAttr]
    rcases Nat.lt_or_ge a p.bef.length with hla | hga
    · have ha2 : a < p.src.fr.length := by omega
      have g1 := w3 a ha2
      have g2 := v3 a ha2
      have g3 := nb.row a (by omega)
      have f1 := s.src.toShape.frw a ha2
      have f2 := s.src.toShape.tow a (by omega)
      repeat' (first | (with_reducible first | refine V_seq ?_ | refine V_block ?_ | refine V_skip ?_ | refine V_ret ?_ | refine V_exit ?_) | ((with_reducible refine V_cond ?_); simp only [go_sem, simprocAttr]) | ((first | refine V_region (by rw [hn]; rfl) ?_ | refine V_drawn hmix (by rw [hn]; rfl) ?_); intro K hK) | ((first | with_reducible refine evOps_n ?_ | ((with_reducible apply evOps_g); rfl) | with_reducible refine evOpsD_n ?_ | ((with_reducible apply evOpsD_g); rfl)); intro K hK; simp (contextual := true) only [go_sem, simprocAttr]) | with_reducible refine evOps_nil ?_ | ((with_reducible refine evOpsD_nil ?_ ?_); kernel_rfl) | ((with_reducible refine hK _ ?_); clear hK K) | (with_reducible first | refine And.intro ?_ ?_ | refine nxt_n ?_ | refine nxt_r ?_ | refine nxt_e ?_ | refine blk_n ?_ | refine blk_r ?_ | refine blk_same ?_ | refine blk_other (by decide) ?_ | refine noG_n ?_ | refine noG_r ?_ | refine noG_e ?_ | refine inR_mk ?_ ?_) | (refine fun (hc : (_ : Bool) = _) => ?_; try simp only [hcS] at hc))
      all_goals try exact om_
      refine V_loopK (G := {y : Nat // y ≤ (p.bef.getD a []).length ∧ (True)}) (fun ⟨y, _⟩ => [(78, iv y), (6, .sl 0), (8, .sl 1), (9, .sl 2), (14, iv a), (15, .bor [] (intss (p.bef.getD a [])))]) [0, 1, 4, 5, 69, 70, 71, 76, 77] (fun ⟨y, _⟩ => [(2, ⟨1, .arr (rulesD (gP (brX p q XB) (bLen p) p.tgt.ob.toNat a y))⟩)]) [2] (fun zz => (p.bef.getD a []).length - zz.1) ⟨0, Nat.zero_le _, by first | trivial | simp⟩ ?_ ?_
      · exact Imp.au hX
      rintro ⟨y, hiy, hwy⟩
      simp only [go_sem, simprocAttr]
      rcases Nat.lt_or_ge y (p.bef.getD a []).length with hly | hgy
      · have hy2 : y < p.tgt.ob.toNat := by omega
        obtain ⟨b1, b2⟩ : ((p.bef.getD a []).getD y []).length = ((p.sz.getD (p.src.to.getD a 0).toNat []).getD y 0).toNat ∧ Within ((p.bef.getD a []).getD y []) ((p.sz.getD (p.src.fr.getD a 0).toNat []).getD y 0) := w5 a y ha2 hy2
        have gl := gP_len (g := brX p q XB) (len := bLen p) hbl (by omega) m1 ha2 (show y ≤ p.tgt.ob.toNat by omega)
        have d1 : 0 ≤ (p.sz.getD (p.src.to.getD a 0).toNat []).getD y 0 ∧ (p.sz.getD (p.src.to.getD a 0).toNat []).getD y 0 < 65 := w2 (p.src.to.getD a 0).toNat y (by omega) hy2
        have d2 : 0 ≤ (p.sz.getD (p.src.fr.getD a 0).toNat []).getD y 0 ∧ (p.sz.getD (p.src.fr.getD a 0).toNat []).getD y 0 < 65 := w2 (p.src.fr.getD a 0).toNat y (by omega) hy2
        have k1 := stL_at (p := p) (x := (p.src.to.getD a 0).toNat) (n := p.src.ob.toNat) (by omega)
        have k2 := stL_at (p := p) (x := (p.src.fr.getD a 0).toNat) (n := p.src.ob.toNat) (by omega)
        have k3 := stR_at (p := p) (x := (p.src.to.getD a 0).toNat) (y := y) (n := p.tgt.ob.toNat) hy2
        have k4 := stR_at (p := p) (x := (p.src.fr.getD a 0).toNat) (y := y) (n := p.tgt.ob.toNat) hy2
        have k5 := stR_len (p := p) (x := (p.src.to.getD a 0).toNat) (y := p.tgt.ob.toNat)
        have k6 := stR_len (p := p) (x := (p.src.fr.getD a 0).toNat) (y := p.tgt.ob.toNat)
        have j1 := off_bd s (show (p.src.to.getD a 0).toNat < p.src.ob.toNat by omega) (show y ≤ p.tgt.ob.toNat by omega)
        have j2 := off_bd s (show (p.src.fr.getD a 0).toNat < p.src.ob.toNat by omega) (show y ≤ p.tgt.ob.toNat by omega)
        repeat' (first | (with_reducible first | refine V_seq ?_ | refine V_block ?_ | refine V_skip ?_ | refine V_ret ?_ | refine V_exit ?_) | ((with_reducible refine V_cond ?_); simp only [go_sem, simprocAttr]) | ((first | refine V_region (by rw [hn]; rfl) ?_ | refine V_drawn hmix (by rw [hn]; rfl) ?_); intro K hK) | ((first | with_reducible refine evOps_n ?_ | ((with_reducible apply evOps_g); rfl) | with_reducible refine evOpsD_n ?_ | ((with_reducible apply evOpsD_g); rfl)); intro K hK; simp (contextual := true) only [go_sem, simprocAttr]) | with_reducible refine evOps_nil ?_ | ((with_reducible refine evOpsD_nil ?_ ?_); kernel_rfl) | ((with_reducible refine hK _ ?_); clear hK K) | (with_reducible first | refine And.intro ?_ ?_ | refine nxt_n ?_ | refine nxt_r ?_ | refine nxt_e ?_ | refine blk_n ?_ | refine blk_r ?_ | refine blk_same ?_ | refine blk_other (by decide) ?_ | refine noG_n ?_ | refine noG_r ?_ | refine noG_e ?_ | refine inR_mk ?_ ?_) | (refine fun (hc : (_ : Bool) = _) => ?_; try simp only [hcS] at hc))
        all_goals try exact om_
        refine V_loopK (G := {e : Nat // e ≤ ((p.bef.getD a []).getD y []).length ∧ (True)}) (fun ⟨e, _⟩ => [(85, iv e), (6, .sl 0), (8, .sl 1), (9, .sl 2), (14, iv a), (15, .bor [] (intss (p.bef.getD a []))), (16, iv y), (17, .bor [] (ints ((p.bef.getD a []).getD y [])))]) [0, 1, 4, 5, 69, 70, 71, 76, 77, 78, 83, 84] (fun ⟨e, _⟩ => [(2, ⟨1, .arr (rulesD (gP (brX p q XB) (bLen p) p.tgt.ob.toNat a y ++ gE (brX p q XB) a y e))⟩)]) [2] (fun zz => ((p.bef.getD a []).getD y []).length - zz.1) ⟨0, Nat.zero_le _, by first | trivial | simp⟩ ?_ ?_
        · exact Imp.auto hX (by simp [go_sem, simprocAttr, gE_zero, List.append_nil])
        rintro ⟨e, hie, hwe⟩
        simp only [go_sem, simprocAttr]
        have el := gE_len (g := brX p q XB) (a := a) (y := y) (e := e)
        have el2 : (gP (brX p q XB) (bLen p) p.tgt.ob.toNat a y ++ gE (brX p q XB) a y e).length ≤ 20992 + e := by rw [List.length_append]; omega
        rcases Nat.lt_or_ge e ((p.bef.getD a []).getD y []).length with hle | hge
        · have b3 := b2 e hle
          have ro : Dt.sl 3 (.v (.int .i64 0)) [.v (.int .i64 (p.off (p.src.to.getD a 0).toNat y + e)), .v (.int .i64 (p.off (p.src.fr.getD a 0).toNat y + ((p.bef.getD a []).getD y []).getD e 0)), .v ((XB.getD a []).getD y default).x] = rulesD [brX p q XB a y e] := rfl
          have hnx := gE_succ (g := brX p q XB) (a := a) (y := y) (e := e)
          repeat' (first | (rw [k1]) | (rw [k2]) | (rw [k3]) | (rw [k4]) | (rw [ro]) | (with_reducible first | refine V_seq ?_ | refine V_block ?_ | refine V_skip ?_ | refine V_ret ?_ | refine V_exit ?_) | ((with_reducible refine V_cond ?_); simp only [go_sem, simprocAttr]) | ((first | refine V_region (by rw [hn]; rfl) ?_ | refine V_drawn hmix (by rw [hn]; rfl) ?_); intro K hK) | ((first | with_reducible refine evOps_n ?_ | ((with_reducible apply evOps_g); rfl) | with_reducible refine evOpsD_n ?_ | ((with_reducible apply evOpsD_g); rfl)); intro K hK; simp (contextual := true) only [go_sem, simprocAttr]) | with_reducible refine evOps_nil ?_ | ((with_reducible refine evOpsD_nil ?_ ?_); kernel_rfl) | ((with_reducible refine hK _ ?_); clear hK K) | (with_reducible first | refine And.intro ?_ ?_ | refine nxt_n ?_ | refine nxt_r ?_ | refine nxt_e ?_ | refine blk_n ?_ | refine blk_r ?_ | refine blk_same ?_ | refine blk_other (by decide) ?_ | refine noG_n ?_ | refine noG_r ?_ | refine noG_e ?_ | refine inR_mk ?_ ?_) | (refine fun (hc : (_ : Bool) = _) => ?_; try simp only [hcS] at hc))
          all_goals try exact om_
          refine ⟨⟨e + 1, by omega, (by trivial)⟩, by simp only; omega, Imp.auto hX (by simp only [go_sem, simprocAttr, hnx, ← List.append_assoc])⟩
        · have ee : e = ((p.bef.getD a []).getD y []).length := by omega
          subst ee
          have hnx : gP (brX p q XB) (bLen p) p.tgt.ob.toNat a (y + 1) = gP (brX p q XB) (bLen p) p.tgt.ob.toNat a y ++ gE (brX p q XB) a y ((p.bef.getD a []).getD y []).length := gP_succ
          repeat' (first | (with_reducible first | refine V_seq ?_ | refine V_block ?_ | refine V_skip ?_ | refine V_ret ?_ | refine V_exit ?_) | ((with_reducible refine V_cond ?_); simp only [go_sem, simprocAttr]) | ((first | refine V_region (by rw [hn]; rfl) ?_ | refine V_drawn hmix (by rw [hn]; rfl) ?_); intro K hK) | ((first | with_reducible refine evOps_n ?_ | ((with_reducible apply evOps_g); rfl) | with_reducible refine evOpsD_n ?_ | ((with_reducible apply evOpsD_g); rfl)); intro K hK; simp (contextual := true) only [go_sem, simprocAttr]) | with_reducible refine evOps_nil ?_ | ((with_reducible refine evOpsD_nil ?_ ?_); kernel_rfl) | ((with_reducible refine hK _ ?_); clear hK K) | (with_reducible first | refine And.intro ?_ ?_ | refine nxt_n ?_ | refine nxt_r ?_ | refine nxt_e ?_ | refine blk_n ?_ | refine blk_r ?_ | refine blk_same ?_ | refine blk_other (by decide) ?_ | refine noG_n ?_ | refine noG_r ?_ | refine noG_e ?_ | refine inR_mk ?_ ?_) | (refine fun (hc : (_ : Bool) = _) => ?_; try simp only [hcS] at hc))
          all_goals try exact om_
          refine ⟨⟨y + 1, by omega, (by trivial)⟩, by simp only; omega, Imp.auto hX (by simp only [go_sem, simprocAttr, ← hnx])⟩
      · have ey : y = (p.bef.getD a []).length := by omega
        subst ey
        have hnx : gP (brX p q XB) (bLen p) p.tgt.ob.toNat (a + 1) 0 = gP (brX p q XB) (bLen p) p.tgt.ob.toNat a (p.bef.getD a []).length := by rw [g1]; exact gP_next
        repeat' (first | (with_reducible first | refine V_seq ?_ | refine V_block ?_ | refine V_skip ?_ | refine V_ret ?_ | refine V_exit ?_) | ((with_reducible refine V_cond ?_); simp only [go_sem, simprocAttr]) | ((first | refine V_region (by rw [hn]; rfl) ?_ | refine V_drawn hmix (by rw [hn]; rfl) ?_); intro K hK) | ((first | with_reducible refine evOps_n ?_ | ((with_reducible apply evOps_g); rfl) | with_reducible refine evOpsD_n ?_ | ((with_reducible apply evOpsD_g); rfl)); intro K hK; simp (contextual := true) only [go_sem, simprocAttr]) | with_reducible refine evOps_nil ?_ | ((with_reducible refine evOpsD_nil ?_ ?_); kernel_rfl) | ((with_reducible refine hK _ ?_); clear hK K) | (with_reducible first | refine And.intro ?_ ?_ | refine nxt_n ?_ | refine nxt_r ?_ | refine nxt_e ?_ | refine blk_n ?_ | refine blk_r ?_ | refine blk_same ?_ | refine blk_other (by decide) ?_ | refine noG_n ?_ | refine noG_r ?_ | refine noG_e ?_ | refine inR_mk ?_ ?_) | (refine fun (hc : (_ : Bool) = _) => ?_; try simp only [hcS] at hc))
        all_goals try exact om_
        refine ⟨⟨a + 1, by omega, (by trivial)⟩, by simp only; omega, Imp.auto hX (by simp only [go_sem, simprocAttr, ← hnx])⟩
    · have ea : a = p.bef.length := by omega
      subst ea
      have hTB : gP (brX p q XB) (bLen p) p.tgt.ob.toNat p.bef.length 0 = rvB p q XB := by rw [z2]; rfl
      rw [hTB]
      have tbl : (rvB p q XB).length ≤ 20992 := gA_len (g := brX p q XB) (len := bLen p) hbl (by omega) m1
      repeat' (first | (with_reducible first | refine V_seq ?_ | refine V_block ?_ | refine V_skip ?_ | refine V_ret ?_ | refine V_exit ?_) | ((with_reducible refine V_cond ?_); simp only [go_sem, simprocAttr]) | ((first | refine V_region (by rw [hn]; rfl) ?_ | refine V_drawn hmix (by rw [hn]; rfl) ?_); intro K hK) | ((first | with_reducible refine evOps_n ?_ | ((with_reducible apply evOps_g); rfl) | with_reducible refine evOpsD_n ?_ | ((with_reducible apply evOpsD_g); rfl)); intro K hK; simp (contextual := true) only [go_sem, simprocAttr]) | with_reducible refine evOps_nil ?_ | ((with_reducible refine evOpsD_nil ?_ ?_); kernel_rfl) | ((with_reducible refine hK _ ?_); clear hK K) | (with_reducible first | refine And.intro ?_ ?_ | refine nxt_n ?_ | refine nxt_r ?_ | refine nxt_e ?_ | refine blk_n ?_ | refine blk_r ?_ | refine blk_same ?_ | refine blk_other (by decide) ?_ | refine noG_n ?_ | refine noG_r ?_ | refine noG_e ?_ | refine inR_mk ?_ ?_) | (refine fun (hc : (_ : Bool) = _) => ?_; try simp only [hcS] at hc))
      all_goals try exact om_
      refine V_loopK (G := {b : Nat // b ≤ p.beh.length ∧ (True)}) (fun ⟨b, _⟩ => [(144, iv b), (6, .sl 0), (8, .sl 1), (9, .sl 2)]) [0, 1, 4, 5, 142, 143] (fun ⟨b, _⟩ => [(2, ⟨1, .arr (rulesD (rvB p q XB ++ gP (hrX p q XH) (hLen p) p.src.ob.toNat b 0))⟩)]) [2] (fun zz => p.beh.length - zz.1) ⟨0, Nat.zero_le _, by first | trivial | simp⟩ ?_ ?_
      · exact Imp.auto hX (by simp [go_sem, simprocAttr, gP_zero, List.append_nil])
      rintro ⟨b, hib, hwb⟩
      simp only [go_sem, simprocAttr]
      rcases Nat.lt_or_ge b p.beh.length with hlb | hgb
      · have hb2 : b < p.tgt.fr.length := by omega
        have g1 := w4 b hb2
        have g2 := v4 b hb2
        have g3 := nh.row b (by omega)
        have f1 := s.tgt.toShape.frw b hb2
        have f2 := s.tgt.toShape.tow b (by omega)
        repeat' (first | (with_reducible first | refine V_seq ?_ | refine V_block ?_ | refine V_skip ?_ | refine V_ret ?_ | refine V_exit ?_) | ((with_reducible refine V_cond ?_); simp only [go_sem, simprocAttr]) | ((first | refine V_region (by rw [hn]; rfl) ?_ | refine V_drawn hmix (by rw [hn]; rfl) ?_); intro K hK) | ((first | with_reducible refine evOps_n ?_ | ((with_reducible apply evOps_g); rfl) | with_reducible refine evOpsD_n ?_ | ((with_reducible apply evOpsD_g); rfl)); intro K hK; simp (contextual := true) only [go_sem, simprocAttr]) | with_reducible refine evOps_nil ?_ | ((with_reducible refine evOpsD_nil ?_ ?_); kernel_rfl) | ((with_reducible refine hK _ ?_); clear hK K) | (with_reducible first | refine And.intro ?_ ?_ | refine nxt_n ?_ | refine nxt_r ?_ | refine nxt_e ?_ | refine blk_n ?_ | refine blk_r ?_ | refine blk_same ?_ | refine blk_other (by decide) ?_ | refine noG_n ?_ | refine noG_r ?_ | refine noG_e ?_ | refine inR_mk ?_ ?_) | (refine fun (hc : (_ : Bool) = _) => ?_; try simp only [hcS] at hc))
        all_goals try exact om_
        refine V_loopK (G := {x : Nat // x ≤ (p.beh.getD b []).length ∧ (True)}) (fun ⟨x, _⟩ => [(151, iv x), (6, .sl 0), (8, .sl 1), (9, .sl 2), (20, iv b), (21, .bor [] (intss (p.beh.getD b [])))]) [0, 1, 4, 5, 142, 143, 144, 149, 150] (fun ⟨x, _⟩ => [(2, ⟨1, .arr (rulesD (rvB p q XB ++ gP (hrX p q XH) (hLen p) p.src.ob.toNat b x))⟩)]) [2] (fun zz => (p.beh.getD b []).length - zz.1) ⟨0, Nat.zero_le _, by first | trivial | simp⟩ ?_ ?_
        · exact Imp.au hX
        rintro ⟨x, hix, hwx⟩
        simp only [go_sem, simprocAttr]
        rcases Nat.lt_or_ge x (p.beh.getD b []).length with hlx | hgx
        · have hx2 : x < p.src.ob.toNat := by omega
          obtain ⟨b1, b2⟩ : ((p.beh.getD b []).getD x []).length = ((p.sz.getD x []).getD (p.tgt.fr.getD b 0).toNat 0).toNat ∧ Within ((p.beh.getD b []).getD x []) ((p.sz.getD x []).getD (p.tgt.to.getD b 0).toNat 0) := w6 b x hb2 hx2
          have gl := gP_len (g := hrX p q XH) (len := hLen p) hhl (by omega) m2 hb2 (show x ≤ p.src.ob.toNat by omega)
          have d1 : 0 ≤ (p.sz.getD x []).getD (p.tgt.fr.getD b 0).toNat 0 ∧ (p.sz.getD x []).getD (p.tgt.fr.getD b 0).toNat 0 < 65 := w2 x (p.tgt.fr.getD b 0).toNat hx2 (by omega)
          have d2 : 0 ≤ (p.sz.getD x []).getD (p.tgt.to.getD b 0).toNat 0 ∧ (p.sz.getD x []).getD (p.tgt.to.getD b 0).toNat 0 < 65 := w2 x (p.tgt.to.getD b 0).toNat hx2 (by omega)
          have k1 := stL_at (p := p) (x := x) (n := p.src.ob.toNat) (by omega)
          have k3 := stR_at (p := p) (x := x) (y := (p.tgt.fr.getD b 0).toNat) (n := p.tgt.ob.toNat) (by omega)
          have k4 := stR_at (p := p) (x := x) (y := (p.tgt.to.getD b 0).toNat) (n := p.tgt.ob.toNat) (by omega)
          have k5 := stR_len (p := p) (x := x) (y := p.tgt.ob.toNat)
          have j1 := off_bd s hx2 (show (p.tgt.fr.getD b 0).toNat ≤ p.tgt.ob.toNat by omega)
          have j2 := off_bd s hx2 (show (p.tgt.to.getD b 0).toNat ≤ p.tgt.ob.toNat by omega)
          repeat' (first | (with_reducible first | refine V_seq ?_ | refine V_block ?_ | refine V_skip ?_ | refine V_ret ?_ | refine V_exit ?_) | ((with_reducible refine V_cond ?_); simp only [go_sem, simprocAttr]) | ((first | refine V_region (by rw [hn]; rfl) ?_ | refine V_drawn hmix (by rw [hn]; rfl) ?_); intro K hK) | ((first | with_reducible refine evOps_n ?_ | ((with_reducible apply evOps_g); rfl) | with_reducible refine evOpsD_n ?_ | ((with_reducible apply evOpsD_g); rfl)); intro K hK; simp (contextual := true) only [go_sem, simprocAttr]) | with_reducible refine evOps_nil ?_ | ((with_reducible refine evOpsD_nil ?_ ?_); kernel_rfl) | ((with_reducible refine hK _ ?_); clear hK K) | (with_reducible first | refine And.intro ?_ ?_ | refine nxt_n ?_ | refine nxt_r ?_ | refine nxt_e ?_ | refine blk_n ?_ | refine blk_r ?_ | refine blk_same ?_ | refine blk_other (by decide) ?_ | refine noG_n ?_ | refine noG_r ?_ | refine noG_e ?_ | refine inR_mk ?_ ?_) | (refine fun (hc : (_ : Bool) = _) => ?_; try simp only [hcS] at hc))
          all_goals try exact om_
          refine V_loopK (G := {e : Nat // e ≤ ((p.beh.getD b []).getD x []).length ∧ (True)}) (fun ⟨e, _⟩ => [(158, iv e), (6, .sl 0), (8, .sl 1), (9, .sl 2), (20, iv b), (21, .bor [] (intss (p.beh.getD b []))), (22, iv x), (23, .bor [] (ints ((p.beh.getD b []).getD x [])))]) [0, 1, 4, 5, 142, 143, 144, 149, 150, 151, 156, 157] (fun ⟨e, _⟩ => [(2, ⟨1, .arr (rulesD (rvB p q XB ++ gP (hrX p q XH) (hLen p) p.src.ob.toNat b x ++ gE (hrX p q XH) b x e))⟩)]) [2] (fun zz => ((p.beh.getD b []).getD x []).length - zz.1) ⟨0, Nat.zero_le _, by first | trivial | simp⟩ ?_ ?_
          · exact Imp.auto hX (by simp [go_sem, simprocAttr, gE_zero, List.append_nil])
          rintro ⟨e, hie, hwe⟩
          simp only [go_sem, simprocAttr]
          have el := gE_len (g := hrX p q XH) (a := b) (y := x) (e := e)
          have el2 : (rvB p q XB ++ gP (hrX p q XH) (hLen p) p.src.ob.toNat b x ++ gE (hrX p q XH) b x e).length ≤ 41984 + e := by rw [List.length_append, List.length_append]; omega
          rcases Nat.lt_or_ge e ((p.beh.getD b []).getD x []).length with hle | hge
          · obtain ⟨b3, b4⟩ : 0 ≤ ((p.beh.getD b []).getD x []).getD e 0 ∧ ((p.beh.getD b []).getD x []).getD e 0 < (p.sz.getD x []).getD (p.tgt.to.getD b 0).toNat 0 := b2 e hle
            have ro : Dt.sl 3 (.v (.int .i64 0)) [.v (.int .i64 (p.off x (p.tgt.fr.getD b 0).toNat + e)), .v (.int .i64 (p.off x (p.tgt.to.getD b 0).toNat + ((p.beh.getD b []).getD x []).getD e 0)), .v ((XH.getD b []).getD x default).x] = rulesD [hrX p q XH b x e] := rfl
            have hnx := gE_succ (g := hrX p q XH) (a := b) (y := x) (e := e)
            repeat' (first | (rw [k1]) | (rw [k3]) | (rw [k4]) | (rw [ro]) | (with_reducible first | refine V_seq ?_ | refine V_block ?_ | refine V_skip ?_ | refine V_ret ?_ | refine V_exit ?_) | ((with_reducible refine V_cond ?_); simp only [go_sem, simprocAttr]) | ((first | refine V_region (by rw [hn]; rfl) ?_ | refine V_drawn hmix (by rw [hn]; rfl) ?_); intro K hK) | ((first | with_reducible refine evOps_n ?_ | ((with_reducible apply evOps_g); rfl) | with_reducible refine evOpsD_n ?_ | ((with_reducible apply evOpsD_g); rfl)); intro K hK; simp (contextual := true) only [go_sem, simprocAttr]) | with_reducible refine evOps_nil ?_ | ((with_reducible refine evOpsD_nil ?_ ?_); kernel_rfl) | ((with_reducible refine hK _ ?_); clear hK K) | (with_reducible first | refine And.intro ?_ ?_ | refine nxt_n ?_ | refine nxt_r ?_ | refine nxt_e ?_ | refine blk_n ?_ | refine blk_r ?_ | refine blk_same ?_ | refine blk_other (by decide) ?_ | refine noG_n ?_ | refine noG_r ?_ | refine noG_e ?_ | refine inR_mk ?_ ?_) | (refine fun (hc : (_ : Bool) = _) => ?_; try simp only [hcS] at hc))
            all_goals try exact om_
            refine ⟨⟨e + 1, by omega, (by trivial)⟩, by simp only; omega, Imp.auto hX (by simp only [go_sem, simprocAttr, hnx, ← List.append_assoc])⟩
          · have ee : e = ((p.beh.getD b []).getD x []).length := by omega
            subst ee
            have hnx : gP (hrX p q XH) (hLen p) p.src.ob.toNat b (x + 1) = gP (hrX p q XH) (hLen p) p.src.ob.toNat b x ++ gE (hrX p q XH) b x ((p.beh.getD b []).getD x []).length := gP_succ
            repeat' (first | (with_reducible first | refine V_seq ?_ | refine V_block ?_ | refine V_skip ?_ | refine V_ret ?_ | refine V_exit ?_) | ((with_reducible refine V_cond ?_); simp only [go_sem, simprocAttr]) | ((first | refine V_region (by rw [hn]; rfl) ?_ | refine V_drawn hmix (by rw [hn]; rfl) ?_); intro K hK) | ((first | with_reducible refine evOps_n ?_ | ((with_reducible apply evOps_g); rfl) | with_reducible refine evOpsD_n ?_ | ((with_reducible apply evOpsD_g); rfl)); intro K hK; simp (contextual := true) only [go_sem, simprocAttr]) | with_reducible refine evOps_nil ?_ | ((with_reducible refine evOpsD_nil ?_ ?_); kernel_rfl) | ((with_reducible refine hK _ ?_); clear hK K) | (with_reducible first | refine And.intro ?_ ?_ | refine nxt_n ?_ | refine nxt_r ?_ | refine nxt_e ?_ | refine blk_n ?_ | refine blk_r ?_ | refine blk_same ?_ | refine blk_other (by decide) ?_ | refine noG_n ?_ | refine noG_r ?_ | refine noG_e ?_ | refine inR_mk ?_ ?_) | (refine fun (hc : (_ : Bool) = _) => ?_; try simp only [hcS] at hc))
            all_goals try exact om_
            refine ⟨⟨x + 1, by omega, (by trivial)⟩, by simp only; omega, Imp.auto hX (by simp only [go_sem, simprocAttr, hnx, List.append_assoc])⟩
        · have ey : x = (p.beh.getD b []).length := by omega
          subst ey
          have hnx : gP (hrX p q XH) (hLen p) p.src.ob.toNat (b + 1) 0 = gP (hrX p q XH) (hLen p) p.src.ob.toNat b (p.beh.getD b []).length := by rw [g1]; exact gP_next
          repeat' (first | (with_reducible first | refine V_seq ?_ | refine V_block ?_ | refine V_skip ?_ | refine V_ret ?_ | refine V_exit ?_) | ((with_reducible refine V_cond ?_); simp only [go_sem, simprocAttr]) | ((first | refine V_region (by rw [hn]; rfl) ?_ | refine V_drawn hmix (by rw [hn]; rfl) ?_); intro K hK) | ((first | with_reducible refine evOps_n ?_ | ((with_reducible apply evOps_g); rfl) | with_reducible refine evOpsD_n ?_ | ((with_reducible apply evOpsD_g); rfl)); intro K hK; simp (contextual := true) only [go_sem, simprocAttr]) | with_reducible refine evOps_nil ?_ | ((with_reducible refine evOpsD_nil ?_ ?_); kernel_rfl) | ((with_reducible refine hK _ ?_); clear hK K) | (with_reducible first | refine And.intro ?_ ?_ | refine nxt_n ?_ | refine nxt_r ?_ | refine nxt_e ?_ | refine blk_n ?_ | refine blk_r ?_ | refine blk_same ?_ | refine blk_other (by decide) ?_ | refine noG_n ?_ | refine noG_r ?_ | refine noG_e ?_ | refine inR_mk ?_ ?_) | (refine fun (hc : (_ : Bool) = _) => ?_; try simp only [hcS] at hc))
          all_goals try exact om_
          refine ⟨⟨b + 1, by omega, (by trivial)⟩, by simp only; omega, Imp.auto hX (by simp only [go_sem, simprocAttr, ← hnx])⟩
      · have ea : b = p.beh.length := by omega
        subst ea
        have hTH : rvB p q XB ++ gP (hrX p q XH) (hLen p) p.src.ob.toNat p.beh.length 0 = rvA p q XB XH := by rw [z3]; rfl
        rw [hTH]
        repeat' (first | (with_reducible first | refine V_seq ?_ | refine V_block ?_ | refine V_skip ?_ | refine V_ret ?_ | refine V_exit ?_) | ((with_reducible refine V_cond ?_); simp only [go_sem, simprocAttr]) | ((first | refine V_region (by rw [hn]; rfl) ?_ | refine V_drawn hmix (by rw [hn]; rfl) ?_); intro K hK) | ((first | with_reducible refine evOps_n ?_ | ((with_reducible apply evOps_g); rfl) | with_reducible refine evOpsD_n ?_ | ((with_reducible apply evOpsD_g); rfl)); intro K hK; simp (contextual := true) only [go_sem, simprocAttr]) | with_reducible refine evOps_nil ?_ | ((with_reducible refine evOpsD_nil ?_ ?_); kernel_rfl) | ((with_reducible refine hK _ ?_); clear hK K) | (with_reducible first | refine And.intro ?_ ?_ | refine nxt_n ?_ | refine nxt_r ?_ | refine nxt_e ?_ | refine blk_n ?_ | refine blk_r ?_ | refine blk_same ?_ | refine blk_other (by decide) ?_ | refine noG_n ?_ | refine noG_r ?_ | refine noG_e ?_ | refine inR_mk ?_ ?_) | (refine fun (hc : (_ : Bool) = _) => ?_; try simp only [hcS] at hc))
        all_goals try exact om_
        (first | refine ret_auto ?_ | refine ret_auto' ?_); simp only [go_sem, simprocAttr, Try.f25]
end Go.Eng
