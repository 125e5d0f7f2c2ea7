/- Maps between profunctors by the reference: the sizes and the links. -/
import Derived.Test.YtgbjgeignbjjnaaX08q
import Derived.Test.YtgbjgeignbjjnaaB07q
set_option linter.unusedSimpArgs false
set_option linter.unusedVariables false
set_option maxRecDepth 100000
set_option maxHeartbeats 16000000
namespace Go.Eng
open Go Go.Proofs Go.Cats
theorem _root_.Go.Cats.gP_congr {α : Type} {g h : Nat → Nat → Nat → α} {len : Nat → Nat → Nat} {n m : Nat} (k : ∀ a y e, a < m → y < n → e < len a y → g a y e = h a y e) : gP g len n m 0 = gP h len n m 0 := by
  unfold gP
  rw [show gR g len m 0 = [] from rfl, show gR h len m 0 = [] from rfl]
  congr 1
  refine coll_congr fun a ha => ?_
  unfold gR
  refine coll_congr fun y hy => ?_
  unfold gE
  refine List.map_congr_left fun e he => ?_
  exact k a y e ha hy (List.mem_range.1 he)
def brL (p q : Prof) (XB : List (List RawV)) (a y e : Nat) : Link × RawV := (⟨p.off (p.src.to.getD a 0).toNat y + e, p.off (p.src.fr.getD a 0).toNat y + ((p.bef.getD a []).getD y []).getD e 0, (q.bef.getD a []).getD y [], nums ((q.sz.getD (p.src.fr.getD a 0).toNat []).getD y 0).toNat⟩, (XB.getD a []).getD y default)
def hrL (p q : Prof) (XH : List (List RawV)) (b x e : Nat) : Link × RawV := (⟨p.off x (p.tgt.fr.getD b 0).toNat + e, p.off x (p.tgt.to.getD b 0).toNat + ((p.beh.getD b []).getD x []).getD e 0, (q.beh.getD b []).getD x [], nums ((q.sz.getD x []).getD (p.tgt.to.getD b 0).toNat 0).toNat⟩, (XH.getD b []).getD x default)
def lvB (p q : Prof) (XB : List (List RawV)) : List (Link × RawV) := gP (brL p q XB) (bLen p) p.tgt.ob.toNat p.src.fr.length 0
def lvH (p q : Prof) (XH : List (List RawV)) : List (Link × RawV) := gP (hrL p q XH) (hLen p) p.src.ob.toNat p.tgt.fr.length 0
def lvA (p q : Prof) (XB XH : List (List RawV)) : List (Link × RawV) := lvB p q XB ++ lvH p q XH
section
variable {p q : Prof} {XB XH : List (List RawV)}
theorem lvA_map (s : PrShape p) (t : PrShape q) (e1 : p.src = q.src) (e2 : p.tgt = q.tgt) : lvA p q XB XH = (rvA p q XB XH).map fun r => (linkR (natS (szA p q)) r.1, r.2) := by
  have hat := natS_at (Sz := szA p q) fun i hi => (szA_in t e1 e2 i hi).1
  unfold lvA rvA lvB lvH rvB rvH
  rw [List.map_append, gA_map, gA_map]
  congr 1
  · refine gP_congr fun a y e ha hy he => ?_
    have f1 := s.src.toShape.frw a ha
    have f2 := s.src.toShape.tow a (by have := s.src.toShape.tol; omega)
    obtain ⟨b1, b2⟩ := s.w.b1 a y ha hy
    have he' : e < (p.B a y).length := he
    have d2 := b2 e he'
    have o1 := (off_bd s (show (p.src.fr.getD a 0).toNat < p.src.ob.toNat by omega) (show y ≤ p.tgt.ob.toNat by omega)).1
    have h1 := szA_at (q := q) s (show (p.src.fr.getD a 0).toNat < p.src.ob.toNat by omega) hy (i := p.off (p.src.fr.getD a 0).toNat y + (p.B a y).getD e 0) (by omega) (by omega)
    have h2 := hat (p.off (p.src.fr.getD a 0).toNat y + (p.B a y).getD e 0).toNat
    rw [h1] at h2
    unfold brL brX linkR brr
    simp only
    rw [show (natS (szA p q)).getD (p.off (p.src.fr.getD a 0).toNat y + (p.B a y).getD e 0).toNat 0 = (q.S (p.src.fr.getD a 0).toNat y).toNat by omega]
  · refine gP_congr fun b x e hb hx he => ?_
    have f1 := s.tgt.toShape.frw b hb
    have f2 := s.tgt.toShape.tow b (by have := s.tgt.toShape.tol; omega)
    obtain ⟨b1, b2⟩ := s.w.h1 b x hb hx
    have he' : e < (p.H b x).length := he
    have d2 := b2 e he'
    have o1 := (off_bd s hx (show (p.tgt.to.getD b 0).toNat ≤ p.tgt.ob.toNat by omega)).1
    have h1 := szA_at (q := q) s hx (show (p.tgt.to.getD b 0).toNat < p.tgt.ob.toNat by omega) (i := p.off x (p.tgt.to.getD b 0).toNat + (p.H b x).getD e 0) (by omega) (by omega)
    have h2 := hat (p.off x (p.tgt.to.getD b 0).toNat + (p.H b x).getD e 0).toNat
    rw [h1] at h2
    unfold hrL hrX linkR hrr
    simp only
    rw [show (natS (szA p q)).getD (p.off x (p.tgt.to.getD b 0).toNat + (p.H b x).getD e 0).toNat 0 = (q.S x (p.tgt.to.getD b 0).toNat).toNat by omega]
theorem lvA_1 (s : PrShape p) (t : PrShape q) (e1 : p.src = q.src) (e2 : p.tgt = q.tgt) : (lvA p q XB XH).map (·.1) = (ruA p q).map (linkR (natS (szA p q))) := by
  rw [lvA_map s t e1 e2, ← rvA_1 (XB := XB) (XH := XH), List.map_map, List.map_map]
  rfl
theorem lvA_len (s : PrShape p) (t : PrShape q) (e1 : p.src = q.src) (e2 : p.tgt = q.tgt) : (lvA p q XB XH).length ≤ 41984 := by
  rw [lvA_map s t e1 e2, List.length_map]
  exact rvA_len s
theorem lvA_lent (s : PrShape p) (t : PrShape q) (e1 : p.src = q.src) (e2 : p.tgt = q.tgt) {w : World} {R : Nat → Prop} (hb : PLn q.bef XB w R) (hh : PLn q.beh XH w R) : LLent (lvA p q XB XH) w R := fun r hr => by
  rw [lvA_map s t e1 e2] at hr
  obtain ⟨r', hr', rfl⟩ := List.mem_map.1 hr
  exact rvA_lent t e1 e2 hb hh r' hr'
end
def _root_.Go.Cats.pmL (p q : Prof) : List (List Int) := allL (ruA p q) (natS (szA p q))
theorem lnk_ones (l : List (Link × RawV)) : (linksD l).ones = true := by
  simp only [linksD, Dt.ones, Dt.cells, List.all_eq_true, List.mem_flatMap, forall_exists_index, and_imp]
  rintro x p _ hx
  simp only [linkC, List.mem_cons, List.not_mem_nil, or_false] at hx
  rcases hx with rfl | rfl | rfl | rfl
  · rfl
  · rfl
  · exact p.2.one
  · rfl
theorem brL_flat {p q : Prof} {XB : List (List RawV)} {a y e : Nat} : (linksD [brL p q XB a y e]).flat = false := rfl
theorem hrL_flat {p q : Prof} {XB : List (List RawV)} {a y e : Nat} : (linksD [hrL p q XB a y e]).flat = false := rfl
theorem sp_l22Repeat_i {x n : Int} (h0 : 0 ≤ n) (h1 : n ≤ 1048576) : Spec Try.prog 40 [iv x, iv n] [] (.sl 0) [(0, ⟨1, .arr (ints (List.replicate n.toNat x))⟩)] := by
  obtain ⟨m, rfl⟩ := Int.eq_ofNat_of_zero_le h0
  exact sp_l22Repeat (by omega)
theorem sp_l23Count_i {n : Int} (h0 : 0 ≤ n) (h1 : n ≤ 1048576) : Spec Try.prog 41 [iv n] [] (.sl 0) [(0, ⟨1, .arr (ints (nums n.toNat))⟩)] := by
  obtain ⟨m, rfl⟩ := Int.eq_ofNat_of_zero_le h0
  exact sp_l23Count (by omega)
attribute [local go_sem] lnk_ones brL_flat hrL_flat szP_zero gP_zero List.set_cons_succ List.set_cons_zero
theorem cal_l32Maps : Callable Try.prog 18 := ⟨_, Try.func18, rfl, rfl⟩
theorem sp_l32Maps {p q : Prof} {M : Nat} (s : PrShape p) (t : PrShape q) (e1 : p.src = q.src) (e2 : p.tgt = q.tgt) (hnum : p.num ≤ 4096) (hM0 : 0 < M) (hM : M ≤ 4096) : Spec Try.prog 18 [profV p, profV q, iv M] [] (.sl 0) [(0, ⟨1, .arr (intss ((pmL p q).take M))⟩)] := by
  refine spec_of_V (E := TE) 0 Try.func18 rfl (by simp [Try.f18]) fun X hn hX => ?_
  have o1 := s.src.toShape.ob0
  have o2 := s.tgt.toShape.ob0
  have o3 := s.src.toShape.ob8
  have o4 := s.tgt.toShape.ob8
  have m1 := s.src.toShape.m40
  have m2 := s.tgt.toShape.m40
  have tl := s.src.toShape.tol
  have tl2 := s.tgt.toShape.tol
  have z1 := s.szl
  have z2 := s.bel
  have z3 := s.hel
  have y1 := t.szl
  have y2 := t.bel
  have y3 := t.hel
  rw [← e1] at y1 y2
  rw [← e2] at y3
  obtain ⟨w1, w2, w3, w4, w5, w6⟩ := s.w
  obtain ⟨v1, v2, v3, v4, v5, v6⟩ := t.w
  rw [← e1, ← e2] at v1 v2 v3 v4 v5 v6
  have zl : p.sz.length = p.src.ob.toNat := by omega
  have hbl : ∀ a, a < p.src.fr.length → ∀ y, y < p.tgt.ob.toNat → bLen p a y ≤ 64 := fun a ha y hy => bLen_le s ha hy
  have hhl : ∀ b, b < p.tgt.fr.length → ∀ x, x < p.src.ob.toNat → hLen p b x ≤ 64 := fun b hb x hx => hLen_le s hb hx
  repeat' (first | (refine V_nameCell 1 1 11 1 _ q.bef rfl rfl fun XB nb pb => ?_; simp only [go_sem, simprocAttr, List.set_cons_succ, List.set_cons_zero]) | (refine V_nameCell 1 1 12 1 _ q.beh rfl rfl fun XH nh ph => ?_; simp only [go_sem, simprocAttr, List.set_cons_succ, List.set_cons_zero]) | (with_reducible first | refine V_seq ?_ | refine V_block ?_ | refine V_skip ?_ | refine V_ret ?_ | refine V_exit ?_) | ((with_reducible refine V_cond ?_); simp only [go_sem, simprocAttr]) | ((first | refine V_region (by rw [hn]; rfl) ?_ | refine V_drawn hmix (by rw [hn]; rfl) ?_); intro K hK) | ((first | with_reducible refine evOps_n ?_ | ((with_reducible apply evOps_g); rfl) | with_reducible refine evOpsD_n ?_ | ((with_reducible apply evOpsD_g); rfl)); intro K hK; simp (contextual := true) only [go_sem, simprocAttr]) | with_reducible refine evOps_nil ?_ | ((with_reducible refine evOpsD_nil ?_ ?_); kernel_rfl) | ((with_reducible refine hK _ ?_); clear hK K) | (with_reducible first | refine And.intro ?_ ?_ | refine nxt_n ?_ | refine nxt_r ?_ | refine nxt_e ?_ | refine blk_n ?_ | refine blk_r ?_ | refine blk_same ?_ | refine blk_other (by decide) ?_ | refine noG_n ?_ | refine noG_r ?_ | refine noG_e ?_ | refine inR_mk ?_ ?_) | (refine fun (hc : (_ : Bool) = _) => ?_; try simp only [hcS] at hc))
  all_goals try exact om_
  have n1 := nb.len
  have n2 := nh.len
  refine V_loopK (G := {x : Nat // x ≤ p.src.ob.toNat ∧ (True)}) (fun ⟨x, _⟩ => [(11, iv x), (9, .sl 4), (10, .sl 5)]) [2, 3, 4, 6, 7, 8] (fun ⟨x, _⟩ => [(4, ⟨1, .arr (ints (szP p q x 0))⟩)]) [4] (fun zz => p.src.ob.toNat - zz.1) ⟨0, Nat.zero_le _, by first | trivial | simp⟩ ?_ ?_
  · exact Imp.au hX
  rintro ⟨x, hix, hwx⟩
  simp only [go_sem, simprocAttr]
  rcases Nat.lt_or_ge x p.src.ob.toNat with hlx | hgx
  · have g1 := w1 x hlx
    have g2 := v1 x hlx
    repeat' (first | (with_reducible first | refine V_seq ?_ | refine V_block ?_ | refine V_skip ?_ | refine V_ret ?_ | refine V_exit ?_) | ((with_reducible refine V_cond ?_); simp only [go_sem, simprocAttr]) | ((first | refine V_region (by rw [hn]; rfl) ?_ | refine V_drawn hmix (by rw [hn]; rfl) ?_); intro K hK) | ((first | with_reducible refine evOps_n ?_ | ((with_reducible apply evOps_g); rfl) | with_reducible refine evOpsD_n ?_ | ((with_reducible apply evOpsD_g); rfl)); intro K hK; simp (contextual := true) only [go_sem, simprocAttr]) | with_reducible refine evOps_nil ?_ | ((with_reducible refine evOpsD_nil ?_ ?_); kernel_rfl) | ((with_reducible refine hK _ ?_); clear hK K) | (with_reducible first | refine And.intro ?_ ?_ | refine nxt_n ?_ | refine nxt_r ?_ | refine nxt_e ?_ | refine blk_n ?_ | refine blk_r ?_ | refine blk_same ?_ | refine blk_other (by decide) ?_ | refine noG_n ?_ | refine noG_r ?_ | refine noG_e ?_ | refine inR_mk ?_ ?_) | (refine fun (hc : (_ : Bool) = _) => ?_; try simp only [hcS] at hc))
    all_goals try exact om_
    refine V_loopK (G := {y : Nat // y ≤ p.tgt.ob.toNat ∧ (True)}) (fun ⟨y, _⟩ => [(12, iv y), (9, .sl 4), (10, .sl 5), (11, iv x)]) [2, 3, 4, 6, 7, 8] (fun ⟨y, _⟩ => [(4, ⟨1, .arr (ints (szP p q x y))⟩)]) [4] (fun zz => p.tgt.ob.toNat - zz.1) ⟨0, Nat.zero_le _, by first | trivial | simp⟩ ?_ ?_
    · exact Imp.au hX
    rintro ⟨y, hiy, hwy⟩
    simp only [go_sem, simprocAttr]
    rcases Nat.lt_or_ge y p.tgt.ob.toNat with hly | hgy
    · have l1 := szP_len (q := q) s hlx (show y ≤ p.tgt.ob.toNat by omega)
      have l2 := off_bd s hlx (show y ≤ p.tgt.ob.toNat by omega)
      obtain ⟨l3, l4⟩ : 0 ≤ (p.sz.getD x []).getD y 0 ∧ (p.sz.getD x []).getD y 0 < 65 := w2 x y hlx hly
      have l5 : (List.replicate ((p.sz.getD x []).getD y 0).toNat ((q.sz.getD x []).getD y 0)).length ≤ 64 := by rw [List.length_replicate]; omega
      have hre := sp_l22Repeat_i (x := (q.sz.getD x []).getD y 0) (n := (p.sz.getD x []).getD y 0) l3 (by omega)
      have e3 := szP_succ (p := p) (q := q) (x := x) (y := y)
      repeat' (first | (with_reducible first | refine V_seq ?_ | refine V_block ?_ | refine V_skip ?_ | refine V_ret ?_ | refine V_exit ?_) | ((with_reducible refine V_cond ?_); simp only [go_sem, simprocAttr]) | ((first | refine V_region (by rw [hn]; rfl) ?_ | refine V_drawn hmix (by rw [hn]; rfl) ?_); intro K hK) | ((first | with_reducible refine evOps_n ?_ | ((with_reducible apply evOps_g); rfl) | with_reducible refine evOpsD_n ?_ | ((with_reducible apply evOpsD_g); rfl)); intro K hK; simp (contextual := true) only [go_sem, simprocAttr]) | with_reducible refine evOps_nil ?_ | ((with_reducible refine evOpsD_nil ?_ ?_); kernel_rfl) | ((with_reducible refine hK _ ?_); clear hK K) | (with_reducible first | refine And.intro ?_ ?_ | refine nxt_n ?_ | refine nxt_r ?_ | refine nxt_e ?_ | refine blk_n ?_ | refine blk_r ?_ | refine blk_same ?_ | refine blk_other (by decide) ?_ | refine noG_n ?_ | refine noG_r ?_ | refine noG_e ?_ | refine inR_mk ?_ ?_) | ((with_reducible refine evCall_at 40 ?_); refine EvCall.mk (hre) cal_l22Repeat [(0,6)] [] (by simp [go_sem] <;> (repeat' (first | rfl | constructor))) (by simp [go_sem] <;> (repeat' (first | rfl | constructor))) ?_; all_goals try simp only [go_sem, simprocAttr]) | (refine fun (hc : (_ : Bool) = _) => ?_; try simp only [hcS] at hc))
      all_goals try exact om_
      refine ⟨⟨y + 1, by omega, (by trivial)⟩, by simp only; omega, Imp.auto hX (by simp only [go_sem, simprocAttr, ← e3])⟩
    · have ey : y = p.tgt.ob.toNat := by omega
      subst ey
      have e3 := szP_next (p := p) (q := q) (x := x)
      repeat' (first | (with_reducible first | refine V_seq ?_ | refine V_block ?_ | refine V_skip ?_ | refine V_ret ?_ | refine V_exit ?_) | ((with_reducible refine V_cond ?_); simp only [go_sem, simprocAttr]) | ((first | refine V_region (by rw [hn]; rfl) ?_ | refine V_drawn hmix (by rw [hn]; rfl) ?_); intro K hK) | ((first | with_reducible refine evOps_n ?_ | ((with_reducible apply evOps_g); rfl) | with_reducible refine evOpsD_n ?_ | ((with_reducible apply evOpsD_g); rfl)); intro K hK; simp (contextual := true) only [go_sem, simprocAttr]) | with_reducible refine evOps_nil ?_ | ((with_reducible refine evOpsD_nil ?_ ?_); kernel_rfl) | ((with_reducible refine hK _ ?_); clear hK K) | (with_reducible first | refine And.intro ?_ ?_ | refine nxt_n ?_ | refine nxt_r ?_ | refine nxt_e ?_ | refine blk_n ?_ | refine blk_r ?_ | refine blk_same ?_ | refine blk_other (by decide) ?_ | refine noG_n ?_ | refine noG_r ?_ | refine noG_e ?_ | refine inR_mk ?_ ?_) | (refine fun (hc : (_ : Bool) = _) => ?_; try simp only [hcS] at hc))
      all_goals try exact om_
      refine ⟨⟨x + 1, by omega, (by trivial)⟩, by simp only; omega, Imp.auto hX (by simp only [go_sem, simprocAttr, ← e3])⟩
  · have ex : x = p.src.ob.toNat := by omega
    subst ex
    rw [show szP p q p.src.ob.toNat 0 = szA p q from rfl]
    repeat' (first | (with_reducible first | refine V_seq ?_ | refine V_block ?_ | refine V_skip ?_ | refine V_ret ?_ | refine V_exit ?_) | ((with_reducible refine V_cond ?_); simp only [go_sem, simprocAttr]) | ((first | refine V_region (by rw [hn]; rfl) ?_ | refine V_drawn hmix (by rw [hn]; rfl) ?_); intro K hK) | ((first | with_reducible refine evOps_n ?_ | ((with_reducible apply evOps_g); rfl) | with_reducible refine evOpsD_n ?_ | ((with_reducible apply evOpsD_g); rfl)); intro K hK; simp (contextual := true) only [go_sem, simprocAttr]) | with_reducible refine evOps_nil ?_ | ((with_reducible refine evOpsD_nil ?_ ?_); kernel_rfl) | ((with_reducible refine hK _ ?_); clear hK K) | (with_reducible first | refine And.intro ?_ ?_ | refine nxt_n ?_ | refine nxt_r ?_ | refine nxt_e ?_ | refine blk_n ?_ | refine blk_r ?_ | refine blk_same ?_ | refine blk_other (by decide) ?_ | refine noG_n ?_ | refine noG_r ?_ | refine noG_e ?_ | refine inR_mk ?_ ?_) | (refine fun (hc : (_ : Bool) = _) => ?_; try simp only [hcS] at hc))
    all_goals try exact om_
    refine V_loopK (G := {a : Nat // a ≤ p.src.fr.length ∧ (True)}) (fun ⟨a, _⟩ => [(13, iv a), (9, .sl 4), (10, .sl 5)]) [2, 3, 4, 6, 7, 8] (fun ⟨a, _⟩ => [(5, ⟨1, .arr (linksD (gP (brL p q XB) (bLen p) p.tgt.ob.toNat a 0))⟩)]) [5] (fun zz => p.src.fr.length - zz.1) ⟨0, Nat.zero_le _, by first | trivial | simp⟩ ?_ ?_
    · exact Imp.au hX
    rintro ⟨a, hia, hwa⟩
    simp only [go_sem, simprocAttr]
    rcases Nat.lt_or_ge a p.src.fr.length with ha2 | hga
    · have g1 := w3 a ha2
      have g2 := v3 a ha2
      have g3 := nb.row a (by omega)
      have f1 := s.src.toShape.frw a ha2
      have f2 := s.src.toShape.tow a (by omega)
      repeat' (first | (with_reducible first | refine V_seq ?_ | refine V_block ?_ | refine V_skip ?_ | refine V_ret ?_ | refine V_exit ?_) | ((with_reducible refine V_cond ?_); simp only [go_sem, simprocAttr]) | ((first | refine V_region (by rw [hn]; rfl) ?_ | refine V_drawn hmix (by rw [hn]; rfl) ?_); intro K hK) | ((first | with_reducible refine evOps_n ?_ | ((with_reducible apply evOps_g); rfl) | with_reducible refine evOpsD_n ?_ | ((with_reducible apply evOpsD_g); rfl)); intro K hK; simp (contextual := true) only [go_sem, simprocAttr]) | with_reducible refine evOps_nil ?_ | ((with_reducible refine evOpsD_nil ?_ ?_); kernel_rfl) | ((with_reducible refine hK _ ?_); clear hK K) | (with_reducible first | refine And.intro ?_ ?_ | refine nxt_n ?_ | refine nxt_r ?_ | refine nxt_e ?_ | refine blk_n ?_ | refine blk_r ?_ | refine blk_same ?_ | refine blk_other (by decide) ?_ | refine noG_n ?_ | refine noG_r ?_ | refine noG_e ?_ | refine inR_mk ?_ ?_) | (refine fun (hc : (_ : Bool) = _) => ?_; try simp only [hcS] at hc))
      all_goals try exact om_
      refine V_loopK (G := {y : Nat // y ≤ p.tgt.ob.toNat ∧ (True)}) (fun ⟨y, _⟩ => [(14, iv y), (9, .sl 4), (10, .sl 5), (13, iv a)]) [2, 3, 4, 6, 7, 8] (fun ⟨y, _⟩ => [(5, ⟨1, .arr (linksD (gP (brL p q XB) (bLen p) p.tgt.ob.toNat a y))⟩)]) [5] (fun zz => p.tgt.ob.toNat - zz.1) ⟨0, Nat.zero_le _, by first | trivial | simp⟩ ?_ ?_
      · exact Imp.au hX
      rintro ⟨y, hiy, hwy⟩
      simp only [go_sem, simprocAttr]
      rcases Nat.lt_or_ge y p.tgt.ob.toNat with hy2 | hgy
      · obtain ⟨b1, b2⟩ : ((p.bef.getD a []).getD y []).length = ((p.sz.getD (p.src.to.getD a 0).toNat []).getD y 0).toNat ∧ Within ((p.bef.getD a []).getD y []) ((p.sz.getD (p.src.fr.getD a 0).toNat []).getD y 0) := w5 a y ha2 hy2
        have gl := gP_len (g := brL p q XB) (len := bLen p) hbl (by omega) m1 ha2 (show y ≤ p.tgt.ob.toNat by omega)
        have d1 : 0 ≤ (p.sz.getD (p.src.to.getD a 0).toNat []).getD y 0 ∧ (p.sz.getD (p.src.to.getD a 0).toNat []).getD y 0 < 65 := w2 (p.src.to.getD a 0).toNat y (by omega) hy2
        have d2 : 0 ≤ (p.sz.getD (p.src.fr.getD a 0).toNat []).getD y 0 ∧ (p.sz.getD (p.src.fr.getD a 0).toNat []).getD y 0 < 65 := w2 (p.src.fr.getD a 0).toNat y (by omega) hy2
        have d3 : 0 ≤ (q.sz.getD (p.src.fr.getD a 0).toNat []).getD y 0 ∧ (q.sz.getD (p.src.fr.getD a 0).toNat []).getD y 0 < 65 := v2 (p.src.fr.getD a 0).toNat y (by omega) hy2
        have d4 := w1 (p.src.to.getD a 0).toNat (by omega)
        have d5 := v1 (p.src.fr.getD a 0).toNat (by omega)
        have j1 := off_bd s (show (p.src.to.getD a 0).toNat < p.src.ob.toNat by omega) (show y ≤ p.tgt.ob.toNat by omega)
        have j2 := off_bd s (show (p.src.fr.getD a 0).toNat < p.src.ob.toNat by omega) (show y ≤ p.tgt.ob.toNat by omega)
        have h1 := sp_l32Offset s (x := (p.src.to.getD a 0).toNat) (y := y) (by omega) (by omega) (by omega)
        have h2 := sp_l32Offset s (x := (p.src.fr.getD a 0).toNat) (y := y) (by omega) (by omega) (by omega)
        rw [Int.toNat_of_nonneg f2.1] at h1
        rw [Int.toNat_of_nonneg f1.1] at h2
        repeat' (first | (with_reducible first | refine V_seq ?_ | refine V_block ?_ | refine V_skip ?_ | refine V_ret ?_ | refine V_exit ?_) | ((with_reducible refine V_cond ?_); simp only [go_sem, simprocAttr]) | ((first | refine V_region (by rw [hn]; rfl) ?_ | refine V_drawn hmix (by rw [hn]; rfl) ?_); intro K hK) | ((first | with_reducible refine evOps_n ?_ | ((with_reducible apply evOps_g); rfl) | with_reducible refine evOpsD_n ?_ | ((with_reducible apply evOpsD_g); rfl)); intro K hK; simp (contextual := true) only [go_sem, simprocAttr]) | with_reducible refine evOps_nil ?_ | ((with_reducible refine evOpsD_nil ?_ ?_); kernel_rfl) | ((with_reducible refine hK _ ?_); clear hK K) | (with_reducible first | refine And.intro ?_ ?_ | refine nxt_n ?_ | refine nxt_r ?_ | refine nxt_e ?_ | refine blk_n ?_ | refine blk_r ?_ | refine blk_same ?_ | refine blk_other (by decide) ?_ | refine noG_n ?_ | refine noG_r ?_ | refine noG_e ?_ | refine inR_mk ?_ ?_) | ((with_reducible refine (id ?_ : EvCall _ _ [_,iv (p.src.to.getD a 0),_] _ _)); refine EvCall.mk (h1) cal_l32Offset [] [] (by simp [go_sem] <;> (repeat' (first | rfl | constructor))) (by simp [go_sem] <;> (repeat' (first | rfl | constructor))) ?_; all_goals try simp only [go_sem, simprocAttr]) | ((with_reducible refine (id ?_ : EvCall _ _ [_,iv (p.src.fr.getD a 0),_] _ _)); refine EvCall.mk (h2) cal_l32Offset [] [] (by simp [go_sem] <;> (repeat' (first | rfl | constructor))) (by simp [go_sem] <;> (repeat' (first | rfl | constructor))) ?_; all_goals try simp only [go_sem, simprocAttr]) | (refine fun (hc : (_ : Bool) = _) => ?_; try simp only [hcS] at hc))
        all_goals try exact om_
        refine V_loopK (G := {e : Nat // e ≤ ((p.bef.getD a []).getD y []).length ∧ (True)}) (fun ⟨e, _⟩ => [(17, iv e), (9, .sl 4), (10, .sl 5), (13, iv a), (14, iv y), (15, iv (p.off (p.src.to.getD a 0).toNat y)), (16, iv (p.off (p.src.fr.getD a 0).toNat y))]) [2, 3, 4, 6, 7, 8] (fun ⟨e, _⟩ => [(5, ⟨1, .arr (linksD (gP (brL p q XB) (bLen p) p.tgt.ob.toNat a y ++ gE (brL p q XB) a y e))⟩)]) [5] (fun zz => ((p.bef.getD a []).getD y []).length - zz.1) ⟨0, Nat.zero_le _, by first | trivial | simp⟩ ?_ ?_
        · exact Imp.auto hX (by simp [go_sem, simprocAttr, gE_zero, List.append_nil])
        rintro ⟨e, hie, hwe⟩
        simp only [go_sem, simprocAttr]
        have el := gE_len (g := brL p q XB) (a := a) (y := y) (e := e)
        have el2 : (gP (brL p q XB) (bLen p) p.tgt.ob.toNat a y ++ gE (brL p q XB) a y e).length ≤ 20992 + e := by rw [List.length_append]; omega
        rcases Nat.lt_or_ge e ((p.bef.getD a []).getD y []).length with hle | hge
        · obtain ⟨b3, b4⟩ : 0 ≤ ((p.bef.getD a []).getD y []).getD e 0 ∧ ((p.bef.getD a []).getD y []).getD e 0 < (p.sz.getD (p.src.fr.getD a 0).toNat []).getD y 0 := b2 e hle
          have ro : Dt.sl 4 (.v (.int .i64 0)) [.v (.int .i64 (p.off (p.src.to.getD a 0).toNat y + e)), .v (.int .i64 (p.off (p.src.fr.getD a 0).toNat y + ((p.bef.getD a []).getD y []).getD e 0)), .v ((XB.getD a []).getD y default).x, ints (nums ((q.sz.getD (p.src.fr.getD a 0).toNat []).getD y 0).toNat)] = linksD [brL p q XB a y e] := rfl
          have hnx := gE_succ (g := brL p q XB) (a := a) (y := y) (e := e)
          have hco := sp_l23Count_i (n := (q.sz.getD (p.src.fr.getD a 0).toNat []).getD y 0) d3.1 (by omega)
          repeat' (first | (rw [ro]) | (with_reducible first | refine V_seq ?_ | refine V_block ?_ | refine V_skip ?_ | refine V_ret ?_ | refine V_exit ?_) | ((with_reducible refine V_cond ?_); simp only [go_sem, simprocAttr]) | ((first | refine V_region (by rw [hn]; rfl) ?_ | refine V_drawn hmix (by rw [hn]; rfl) ?_); intro K hK) | ((first | with_reducible refine evOps_n ?_ | ((with_reducible apply evOps_g); rfl) | with_reducible refine evOpsD_n ?_ | ((with_reducible apply evOpsD_g); rfl)); intro K hK; simp (contextual := true) only [go_sem, simprocAttr]) | with_reducible refine evOps_nil ?_ | ((with_reducible refine evOpsD_nil ?_ ?_); kernel_rfl) | ((with_reducible refine hK _ ?_); clear hK K) | (with_reducible first | refine And.intro ?_ ?_ | refine nxt_n ?_ | refine nxt_r ?_ | refine nxt_e ?_ | refine blk_n ?_ | refine blk_r ?_ | refine blk_same ?_ | refine blk_other (by decide) ?_ | refine noG_n ?_ | refine noG_r ?_ | refine noG_e ?_ | refine inR_mk ?_ ?_) | ((with_reducible refine evCall_at 41 ?_); refine EvCall.mk (hco) cal_l23Count [(0,6)] [] (by simp [go_sem] <;> (repeat' (first | rfl | constructor))) (by simp [go_sem] <;> (repeat' (first | rfl | constructor))) ?_; all_goals try simp only [go_sem, simprocAttr]) | (refine fun (hc : (_ : Bool) = _) => ?_; try simp only [hcS] at hc))
          all_goals try exact om_
          refine ⟨⟨e + 1, by omega, (by trivial)⟩, by simp only; omega, Imp.auto hX (by simp only [go_sem, simprocAttr, hnx, ← List.append_assoc])⟩
        · have ee : e = ((p.bef.getD a []).getD y []).length := by omega
          subst ee
          have hnx : gP (brL p q XB) (bLen p) p.tgt.ob.toNat a (y + 1) = gP (brL p q XB) (bLen p) p.tgt.ob.toNat a y ++ gE (brL p q XB) a y ((p.bef.getD a []).getD y []).length := gP_succ
          repeat' (first | (with_reducible first | refine V_seq ?_ | refine V_block ?_ | refine V_skip ?_ | refine V_ret ?_ | refine V_exit ?_) | ((with_reducible refine V_cond ?_); simp only [go_sem, simprocAttr]) | ((first | refine V_region (by rw [hn]; rfl) ?_ | refine V_drawn hmix (by rw [hn]; rfl) ?_); intro K hK) | ((first | with_reducible refine evOps_n ?_ | ((with_reducible apply evOps_g); rfl) | with_reducible refine evOpsD_n ?_ | ((with_reducible apply evOpsD_g); rfl)); intro K hK; simp (contextual := true) only [go_sem, simprocAttr]) | with_reducible refine evOps_nil ?_ | ((with_reducible refine evOpsD_nil ?_ ?_); kernel_rfl) | ((with_reducible refine hK _ ?_); clear hK K) | (with_reducible first | refine And.intro ?_ ?_ | refine nxt_n ?_ | refine nxt_r ?_ | refine nxt_e ?_ | refine blk_n ?_ | refine blk_r ?_ | refine blk_same ?_ | refine blk_other (by decide) ?_ | refine noG_n ?_ | refine noG_r ?_ | refine noG_e ?_ | refine inR_mk ?_ ?_) | (refine fun (hc : (_ : Bool) = _) => ?_; try simp only [hcS] at hc))
          all_goals try exact om_
          refine ⟨⟨y + 1, by omega, (by trivial)⟩, by simp only; omega, Imp.auto hX (by simp only [go_sem, simprocAttr, ← hnx])⟩
      · have ey : y = p.tgt.ob.toNat := by omega
        subst ey
        have hnx : gP (brL p q XB) (bLen p) p.tgt.ob.toNat (a + 1) 0 = gP (brL p q XB) (bLen p) p.tgt.ob.toNat a p.tgt.ob.toNat := gP_next
        repeat' (first | (with_reducible first | refine V_seq ?_ | refine V_block ?_ | refine V_skip ?_ | refine V_ret ?_ | refine V_exit ?_) | ((with_reducible refine V_cond ?_); simp only [go_sem, simprocAttr]) | ((first | refine V_region (by rw [hn]; rfl) ?_ | refine V_drawn hmix (by rw [hn]; rfl) ?_); intro K hK) | ((first | with_reducible refine evOps_n ?_ | ((with_reducible apply evOps_g); rfl) | with_reducible refine evOpsD_n ?_ | ((with_reducible apply evOpsD_g); rfl)); intro K hK; simp (contextual := true) only [go_sem, simprocAttr]) | with_reducible refine evOps_nil ?_ | ((with_reducible refine evOpsD_nil ?_ ?_); kernel_rfl) | ((with_reducible refine hK _ ?_); clear hK K) | (with_reducible first | refine And.intro ?_ ?_ | refine nxt_n ?_ | refine nxt_r ?_ | refine nxt_e ?_ | refine blk_n ?_ | refine blk_r ?_ | refine blk_same ?_ | refine blk_other (by decide) ?_ | refine noG_n ?_ | refine noG_r ?_ | refine noG_e ?_ | refine inR_mk ?_ ?_) | (refine fun (hc : (_ : Bool) = _) => ?_; try simp only [hcS] at hc))
        all_goals try exact om_
        refine ⟨⟨a + 1, by omega, (by trivial)⟩, by simp only; omega, Imp.auto hX (by simp only [go_sem, simprocAttr, ← hnx])⟩
    · have ea : a = p.src.fr.length := by omega
      subst ea
      have hTB : gP (brL p q XB) (bLen p) p.tgt.ob.toNat p.src.fr.length 0 = lvB p q XB := rfl
      rw [hTB]
      have tbl : (lvB p q XB).length ≤ 20992 := gA_len (g := brL p q XB) (len := bLen p) hbl (by omega) m1
      repeat' (first | (with_reducible first | refine V_seq ?_ | refine V_block ?_ | refine V_skip ?_ | refine V_ret ?_ | refine V_exit ?_) | ((with_reducible refine V_cond ?_); simp only [go_sem, simprocAttr]) | ((first | refine V_region (by rw [hn]; rfl) ?_ | refine V_drawn hmix (by rw [hn]; rfl) ?_); intro K hK) | ((first | with_reducible refine evOps_n ?_ | ((with_reducible apply evOps_g); rfl) | with_reducible refine evOpsD_n ?_ | ((with_reducible apply evOpsD_g); rfl)); intro K hK; simp (contextual := true) only [go_sem, simprocAttr]) | with_reducible refine evOps_nil ?_ | ((with_reducible refine evOpsD_nil ?_ ?_); kernel_rfl) | ((with_reducible refine hK _ ?_); clear hK K) | (with_reducible first | refine And.intro ?_ ?_ | refine nxt_n ?_ | refine nxt_r ?_ | refine nxt_e ?_ | refine blk_n ?_ | refine blk_r ?_ | refine blk_same ?_ | refine blk_other (by decide) ?_ | refine noG_n ?_ | refine noG_r ?_ | refine noG_e ?_ | refine inR_mk ?_ ?_) | (refine fun (hc : (_ : Bool) = _) => ?_; try simp only [hcS] at hc))
      all_goals try exact om_
      refine V_loopK (G := {b : Nat // b ≤ p.tgt.fr.length ∧ (True)}) (fun ⟨b, _⟩ => [(18, iv b), (9, .sl 4), (10, .sl 5)]) [2, 3, 4, 6, 7, 8] (fun ⟨b, _⟩ => [(5, ⟨1, .arr (linksD (lvB p q XB ++ gP (hrL p q XH) (hLen p) p.src.ob.toNat b 0))⟩)]) [5] (fun zz => p.tgt.fr.length - zz.1) ⟨0, Nat.zero_le _, by first | trivial | simp⟩ ?_ ?_
      · exact Imp.auto hX (by simp [go_sem, simprocAttr, gP_zero, List.append_nil])
      rintro ⟨b, hib, hwb⟩
      simp only [go_sem, simprocAttr]
      rcases Nat.lt_or_ge b p.tgt.fr.length with hb2 | hgb
      · have g1 := w4 b hb2
        have g2 := v4 b hb2
        have g3 := nh.row b (by omega)
        have f1 := s.tgt.toShape.frw b hb2
        have f2 := s.tgt.toShape.tow b (by omega)
        repeat' (first | (with_reducible first | refine V_seq ?_ | refine V_block ?_ | refine V_skip ?_ | refine V_ret ?_ | refine V_exit ?_) | ((with_reducible refine V_cond ?_); simp only [go_sem, simprocAttr]) | ((first | refine V_region (by rw [hn]; rfl) ?_ | refine V_drawn hmix (by rw [hn]; rfl) ?_); intro K hK) | ((first | with_reducible refine evOps_n ?_ | ((with_reducible apply evOps_g); rfl) | with_reducible refine evOpsD_n ?_ | ((with_reducible apply evOpsD_g); rfl)); intro K hK; simp (contextual := true) only [go_sem, simprocAttr]) | with_reducible refine evOps_nil ?_ | ((with_reducible refine evOpsD_nil ?_ ?_); kernel_rfl) | ((with_reducible refine hK _ ?_); clear hK K) | (with_reducible first | refine And.intro ?_ ?_ | refine nxt_n ?_ | refine nxt_r ?_ | refine nxt_e ?_ | refine blk_n ?_ | refine blk_r ?_ | refine blk_same ?_ | refine blk_other (by decide) ?_ | refine noG_n ?_ | refine noG_r ?_ | refine noG_e ?_ | refine inR_mk ?_ ?_) | (refine fun (hc : (_ : Bool) = _) => ?_; try simp only [hcS] at hc))
        all_goals try exact om_
        refine V_loopK (G := {x : Nat // x ≤ p.src.ob.toNat ∧ (True)}) (fun ⟨x, _⟩ => [(19, iv x), (9, .sl 4), (10, .sl 5), (18, iv b)]) [2, 3, 4, 6, 7, 8] (fun ⟨x, _⟩ => [(5, ⟨1, .arr (linksD (lvB p q XB ++ gP (hrL p q XH) (hLen p) p.src.ob.toNat b x))⟩)]) [5] (fun zz => p.src.ob.toNat - zz.1) ⟨0, Nat.zero_le _, by first | trivial | simp⟩ ?_ ?_
        · exact Imp.au hX
        rintro ⟨x, hix, hwx⟩
        simp only [go_sem, simprocAttr]
        rcases Nat.lt_or_ge x p.src.ob.toNat with hx2 | hgx2
        · obtain ⟨b1, b2⟩ : ((p.beh.getD b []).getD x []).length = ((p.sz.getD x []).getD (p.tgt.fr.getD b 0).toNat 0).toNat ∧ Within ((p.beh.getD b []).getD x []) ((p.sz.getD x []).getD (p.tgt.to.getD b 0).toNat 0) := w6 b x hb2 hx2
          have gl := gP_len (g := hrL p q XH) (len := hLen p) hhl (by omega) m2 hb2 (show x ≤ p.src.ob.toNat by omega)
          have d1 : 0 ≤ (p.sz.getD x []).getD (p.tgt.fr.getD b 0).toNat 0 ∧ (p.sz.getD x []).getD (p.tgt.fr.getD b 0).toNat 0 < 65 := w2 x (p.tgt.fr.getD b 0).toNat hx2 (by omega)
          have d2 : 0 ≤ (p.sz.getD x []).getD (p.tgt.to.getD b 0).toNat 0 ∧ (p.sz.getD x []).getD (p.tgt.to.getD b 0).toNat 0 < 65 := w2 x (p.tgt.to.getD b 0).toNat hx2 (by omega)
          have d3 : 0 ≤ (q.sz.getD x []).getD (p.tgt.to.getD b 0).toNat 0 ∧ (q.sz.getD x []).getD (p.tgt.to.getD b 0).toNat 0 < 65 := v2 x (p.tgt.to.getD b 0).toNat hx2 (by omega)
          have d4 := w1 x hx2
          have d5 := v1 x hx2
          have j1 := off_bd s hx2 (show (p.tgt.fr.getD b 0).toNat ≤ p.tgt.ob.toNat by omega)
          have j2 := off_bd s hx2 (show (p.tgt.to.getD b 0).toNat ≤ p.tgt.ob.toNat by omega)
          have h1 := sp_l32Offset s (x := x) (y := (p.tgt.fr.getD b 0).toNat) (by omega) (by omega) (by omega)
          have h2 := sp_l32Offset s (x := x) (y := (p.tgt.to.getD b 0).toNat) (by omega) (by omega) (by omega)
          rw [Int.toNat_of_nonneg f1.1] at h1
          rw [Int.toNat_of_nonneg f2.1] at h2
          repeat' (first | (with_reducible first | refine V_seq ?_ | refine V_block ?_ | refine V_skip ?_ | refine V_ret ?_ | refine V_exit ?_) | ((with_reducible refine V_cond ?_); simp only [go_sem, simprocAttr]) | ((first | refine V_region (by rw [hn]; rfl) ?_ | refine V_drawn hmix (by rw [hn]; rfl) ?_); intro K hK) | ((first | with_reducible refine evOps_n ?_ | ((with_reducible apply evOps_g); rfl) | with_reducible refine evOpsD_n ?_ | ((with_reducible apply evOpsD_g); rfl)); intro K hK; simp (contextual := true) only [go_sem, simprocAttr]) | with_reducible refine evOps_nil ?_ | ((with_reducible refine evOpsD_nil ?_ ?_); kernel_rfl) | ((with_reducible refine hK _ ?_); clear hK K) | (with_reducible first | refine And.intro ?_ ?_ | refine nxt_n ?_ | refine nxt_r ?_ | refine nxt_e ?_ | refine blk_n ?_ | refine blk_r ?_ | refine blk_same ?_ | refine blk_other (by decide) ?_ | refine noG_n ?_ | refine noG_r ?_ | refine noG_e ?_ | refine inR_mk ?_ ?_) | ((with_reducible refine (id ?_ : EvCall _ _ [_,_,iv (p.tgt.fr.getD b 0)] _ _)); refine EvCall.mk (h1) cal_l32Offset [] [] (by simp [go_sem] <;> (repeat' (first | rfl | constructor))) (by simp [go_sem] <;> (repeat' (first | rfl | constructor))) ?_; all_goals try simp only [go_sem, simprocAttr]) | ((with_reducible refine (id ?_ : EvCall _ _ [_,_,iv (p.tgt.to.getD b 0)] _ _)); refine EvCall.mk (h2) cal_l32Offset [] [] (by simp [go_sem] <;> (repeat' (first | rfl | constructor))) (by simp [go_sem] <;> (repeat' (first | rfl | constructor))) ?_; all_goals try simp only [go_sem, simprocAttr]) | (refine fun (hc : (_ : Bool) = _) => ?_; try simp only [hcS] at hc))
          all_goals try exact om_
          refine V_loopK (G := {e : Nat // e ≤ ((p.beh.getD b []).getD x []).length ∧ (True)}) (fun ⟨e, _⟩ => [(22, iv e), (9, .sl 4), (10, .sl 5), (18, iv b), (19, iv x), (20, iv (p.off x (p.tgt.fr.getD b 0).toNat)), (21, iv (p.off x (p.tgt.to.getD b 0).toNat))]) [2, 3, 4, 6, 7, 8] (fun ⟨e, _⟩ => [(5, ⟨1, .arr (linksD (lvB p q XB ++ gP (hrL p q XH) (hLen p) p.src.ob.toNat b x ++ gE (hrL p q XH) b x e))⟩)]) [5] (fun zz => ((p.beh.getD b []).getD x []).length - zz.1) ⟨0, Nat.zero_le _, by first | trivial | simp⟩ ?_ ?_
          · exact Imp.auto hX (by simp [go_sem, simprocAttr, gE_zero, List.append_nil])
          rintro ⟨e, hie, hwe⟩
          simp only [go_sem, simprocAttr]
          have el := gE_len (g := hrL p q XH) (a := b) (y := x) (e := e)
          have el2 : (lvB p q XB ++ gP (hrL p q XH) (hLen p) p.src.ob.toNat b x ++ gE (hrL p q XH) b x e).length ≤ 41984 + e := by rw [List.length_append, List.length_append]; omega
          rcases Nat.lt_or_ge e ((p.beh.getD b []).getD x []).length with hle | hge
          · obtain ⟨b3, b4⟩ : 0 ≤ ((p.beh.getD b []).getD x []).getD e 0 ∧ ((p.beh.getD b []).getD x []).getD e 0 < (p.sz.getD x []).getD (p.tgt.to.getD b 0).toNat 0 := b2 e hle
            have ro : Dt.sl 4 (.v (.int .i64 0)) [.v (.int .i64 (p.off x (p.tgt.fr.getD b 0).toNat + e)), .v (.int .i64 (p.off x (p.tgt.to.getD b 0).toNat + ((p.beh.getD b []).getD x []).getD e 0)), .v ((XH.getD b []).getD x default).x, ints (nums ((q.sz.getD x []).getD (p.tgt.to.getD b 0).toNat 0).toNat)] = linksD [hrL p q XH b x e] := rfl
            have hnx := gE_succ (g := hrL p q XH) (a := b) (y := x) (e := e)
            have hco := sp_l23Count_i (n := (q.sz.getD x []).getD (p.tgt.to.getD b 0).toNat 0) d3.1 (by omega)
            repeat' (first | (rw [ro]) | (with_reducible first | refine V_seq ?_ | refine V_block ?_ | refine V_skip ?_ | refine V_ret ?_ | refine V_exit ?_) | ((with_reducible refine V_cond ?_); simp only [go_sem, simprocAttr]) | ((first | refine V_region (by rw [hn]; rfl) ?_ | refine V_drawn hmix (by rw [hn]; rfl) ?_); intro K hK) | ((first | with_reducible refine evOps_n ?_ | ((with_reducible apply evOps_g); rfl) | with_reducible refine evOpsD_n ?_ | ((with_reducible apply evOpsD_g); rfl)); intro K hK; simp (contextual := true) only [go_sem, simprocAttr]) | with_reducible refine evOps_nil ?_ | ((with_reducible refine evOpsD_nil ?_ ?_); kernel_rfl) | ((with_reducible refine hK _ ?_); clear hK K) | (with_reducible first | refine And.intro ?_ ?_ | refine nxt_n ?_ | refine nxt_r ?_ | refine nxt_e ?_ | refine blk_n ?_ | refine blk_r ?_ | refine blk_same ?_ | refine blk_other (by decide) ?_ | refine noG_n ?_ | refine noG_r ?_ | refine noG_e ?_ | refine inR_mk ?_ ?_) | ((with_reducible refine evCall_at 41 ?_); refine EvCall.mk (hco) cal_l23Count [(0,6)] [] (by simp [go_sem] <;> (repeat' (first | rfl | constructor))) (by simp [go_sem] <;> (repeat' (first | rfl | constructor))) ?_; all_goals try simp only [go_sem, simprocAttr]) | (refine fun (hc : (_ : Bool) = _) => ?_; try simp only [hcS] at hc))
            all_goals try exact om_
            refine ⟨⟨e + 1, by omega, (by trivial)⟩, by simp only; omega, Imp.auto hX (by simp only [go_sem, simprocAttr, hnx, ← List.append_assoc])⟩
          · have ee : e = ((p.beh.getD b []).getD x []).length := by omega
            subst ee
            have hnx : gP (hrL p q XH) (hLen p) p.src.ob.toNat b (x + 1) = gP (hrL p q XH) (hLen p) p.src.ob.toNat b x ++ gE (hrL p q XH) b x ((p.beh.getD b []).getD x []).length := gP_succ
            repeat' (first | (with_reducible first | refine V_seq ?_ | refine V_block ?_ | refine V_skip ?_ | refine V_ret ?_ | refine V_exit ?_) | ((with_reducible refine V_cond ?_); simp only [go_sem, simprocAttr]) | ((first | refine V_region (by rw [hn]; rfl) ?_ | refine V_drawn hmix (by rw [hn]; rfl) ?_); intro K hK) | ((first | with_reducible refine evOps_n ?_ | ((with_reducible apply evOps_g); rfl) | with_reducible refine evOpsD_n ?_ | ((with_reducible apply evOpsD_g); rfl)); intro K hK; simp (contextual := true) only [go_sem, simprocAttr]) | with_reducible refine evOps_nil ?_ | ((with_reducible refine evOpsD_nil ?_ ?_); kernel_rfl) | ((with_reducible refine hK _ ?_); clear hK K) | (with_reducible first | refine And.intro ?_ ?_ | refine nxt_n ?_ | refine nxt_r ?_ | refine nxt_e ?_ | refine blk_n ?_ | refine blk_r ?_ | refine blk_same ?_ | refine blk_other (by decide) ?_ | refine noG_n ?_ | refine noG_r ?_ | refine noG_e ?_ | refine inR_mk ?_ ?_) | (refine fun (hc : (_ : Bool) = _) => ?_; try simp only [hcS] at hc))
            all_goals try exact om_
            refine ⟨⟨x + 1, by omega, (by trivial)⟩, by simp only; omega, Imp.auto hX (by simp only [go_sem, simprocAttr, hnx, List.append_assoc])⟩
        · have ey : x = p.src.ob.toNat := by omega
          subst ey
          have hnx : gP (hrL p q XH) (hLen p) p.src.ob.toNat (b + 1) 0 = gP (hrL p q XH) (hLen p) p.src.ob.toNat b p.src.ob.toNat := gP_next
          repeat' (first | (with_reducible first | refine V_seq ?_ | refine V_block ?_ | refine V_skip ?_ | refine V_ret ?_ | refine V_exit ?_) | ((with_reducible refine V_cond ?_); simp only [go_sem, simprocAttr]) | ((first | refine V_region (by rw [hn]; rfl) ?_ | refine V_drawn hmix (by rw [hn]; rfl) ?_); intro K hK) | ((first | with_reducible refine evOps_n ?_ | ((with_reducible apply evOps_g); rfl) | with_reducible refine evOpsD_n ?_ | ((with_reducible apply evOpsD_g); rfl)); intro K hK; simp (contextual := true) only [go_sem, simprocAttr]) | with_reducible refine evOps_nil ?_ | ((with_reducible refine evOpsD_nil ?_ ?_); kernel_rfl) | ((with_reducible refine hK _ ?_); clear hK K) | (with_reducible first | refine And.intro ?_ ?_ | refine nxt_n ?_ | refine nxt_r ?_ | refine nxt_e ?_ | refine blk_n ?_ | refine blk_r ?_ | refine blk_same ?_ | refine blk_other (by decide) ?_ | refine noG_n ?_ | refine noG_r ?_ | refine noG_e ?_ | refine inR_mk ?_ ?_) | (refine fun (hc : (_ : Bool) = _) => ?_; try simp only [hcS] at hc))
          all_goals try exact om_
          refine ⟨⟨b + 1, by omega, (by trivial)⟩, by simp only; omega, Imp.auto hX (by simp only [go_sem, simprocAttr, ← hnx])⟩
      · have ea : b = p.tgt.fr.length := by omega
        subst ea
        have hTH : lvB p q XB ++ gP (hrL p q XH) (hLen p) p.src.ob.toNat p.tgt.fr.length 0 = lvA p q XB XH := rfl
        rw [hTH]
        have hrd : RdOk X (LLent (lvA p q XB XH)) := LLent.ok (lvA_lent s t e1 e2 pb ph)
        have hll := lvA_len (XB := XB) (XH := XH) s t e1 e2
        have hsl := szA_len (q := q) s
        have hin := szA_in (p := p) t e1 e2
        have hat := natS_at (Sz := szA p q) fun i hi => (hin i hi).1
        have hw := ruA_w s t e1 e2
        have hso := sp_l22Solve_n (lvs := lvA p q XB XH) (S := natS (szA p q)) (Sz := szA p q) (M := M) (by rw [lvA_1 s t e1 e2]; exact hw.links) (natS_len _) hat (fun i => by
          have h1 := hat i
          by_cases hi : i < (szA p q).length
          · have := (hin i hi).2; omega
          · rw [List.getD_eq_getElem?_getD, List.getElem?_eq_none (by rw [natS_len]; omega)]; simp) (by omega) hM hM0 (by rw [natS_len]; omega)
        rw [lvA_1 s t e1 e2, hw.ext, show extW (okW (ruA p q)) (natS (szA p q)) (List.replicate (natS (szA p q)).length (-1)) = pmL p q from rfl] at hso
        repeat' (first | (refine V_regionX (id := 32) (by rw [hn]; rfl) ?_; intro K hK) | (refine evOpsX_h ?_; intro K hK; refine HkX.callR (f := 42) (caps := []) hrd hso cal_l22Solve [(0,6)] [4,5] (by simp only [go_sem, simprocAttr]) (by simp [go_sem] <;> first | rfl | exact ⟨rfl, rfl⟩ | exact ⟨rfl, rfl, rfl⟩) (by simp [go_sem] <;> first | rfl | exact ⟨rfl, rfl⟩ | exact ⟨rfl, rfl, rfl⟩) ?_; all_goals try simp only [go_sem, simprocAttr]) | ((with_reducible refine evOpsX_n ?_); intro K hK; simp (contextual := true) only [go_sem, simprocAttr]) | (with_reducible refine evOpsX_nil ?_) | (with_reducible first | refine V_seq ?_ | refine V_block ?_ | refine V_skip ?_ | refine V_ret ?_ | refine V_exit ?_) | ((with_reducible refine V_cond ?_); simp only [go_sem, simprocAttr]) | ((first | refine V_region (by rw [hn]; rfl) ?_ | refine V_drawn hmix (by rw [hn]; rfl) ?_); intro K hK) | ((first | with_reducible refine evOps_n ?_ | ((with_reducible apply evOps_g); rfl) | with_reducible refine evOpsD_n ?_ | ((with_reducible apply evOpsD_g); rfl)); intro K hK; simp (contextual := true) only [go_sem, simprocAttr]) | with_reducible refine evOps_nil ?_ | ((with_reducible refine evOpsD_nil ?_ ?_); kernel_rfl) | ((with_reducible refine hK _ ?_); clear hK K) | (with_reducible first | refine And.intro ?_ ?_ | refine nxt_n ?_ | refine nxt_r ?_ | refine nxt_e ?_ | refine blk_n ?_ | refine blk_r ?_ | refine blk_same ?_ | refine blk_other (by decide) ?_ | refine noG_n ?_ | refine noG_r ?_ | refine noG_e ?_ | refine inR_mk ?_ ?_) | (refine fun (hc : (_ : Bool) = _) => ?_; try simp only [hcS] at hc))
        all_goals try exact om_
        (first | refine ret_auto ?_ | refine ret_auto' ?_); simp only [go_sem, simprocAttr, Try.f18]
end Go.Eng
