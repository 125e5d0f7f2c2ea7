/- Products of categories, by the reference. -/
import Derived.Test.YtbflkfamigcncaaGreatZ10q
set_option linter.unusedSimpArgs false
set_option linter.unusedVariables false
set_option maxRecDepth 100000
set_option maxHeartbeats 16000000
namespace Go.Eng
open Go Go.Proofs Go.Cats
namespace Zp
theorem cal_l03Product : Callable Tryz.prog 209 := ⟨_, Tryz.func209, rfl, rfl⟩
theorem mul_b {x n : Int} (h0 : 0 ≤ x) (h1 : x ≤ 64) (h2 : 0 ≤ n) (h3 : n ≤ 64) : 0 ≤ x * n ∧ x * n ≤ 4096 :=
  ⟨Int.mul_nonneg h0 h2, Int.mul_le_mul h1 h3 h2 (by omega)⟩
attribute [local go_sem] List.set_cons_zero List.set_cons_succ pq_zero prW_zero prT_zero
theorem sp_l03Product {c d : Cat} (sc : Shape c) (sd : Shape d) : Spec Tryz.prog 209 [catV c, catV d] [] (.agg [iv (prC c d).ob, .sl 0, .sl 1, .sl 2, .sl 3]) [(0, ⟨1, .arr (ints (prC c d).fr)⟩), (1, ⟨1, .arr (ints (prC c d).to)⟩), (2, ⟨1, .arr (ints (prC c d).id)⟩), (3, ⟨1, .arr (intss (prC c d).co)⟩)] := by
  have c0 := sc.ob0
  have c8 := sc.ob8
  have c40 := sc.m40
  have ctl := sc.tol
  have cil := sc.idl
  have ccl := sc.col
  have d0 := sd.ob0
  have d8 := sd.ob8
  have d40 := sd.m40
  have dtl := sd.tol
  have dil := sd.idl
  have dcl := sd.col
  have e0 := mul_b c0 (by omega) d0 (by omega)
  have eP : prC c d = ⟨c.ob * d.ob, pq d.fr.length c.fr d.fr d.ob (c.fr.length * d.fr.length), pq d.fr.length c.to d.to d.ob (c.fr.length * d.fr.length), pq d.id.length c.id d.id d.fr.length (c.id.length * d.id.length), prT c d (c.fr.length * d.fr.length)⟩ := rfl
  rw [eP]
  refine spec_of_V (E := TE) 0 Tryz.func209 rfl (by simp [Tryz.f209]) fun X hn hX => ?_
  repeat' (first | with_reducible refine St.f ?_ | ((with_reducible refine V_cond ?_); simp only [go_sem, simprocAttr]) | ((first | refine V_rg ?_ | refine V_dr ?_); intro K hK) | ((first | with_reducible refine So.f ?_ | ((with_reducible apply evOps_g); rfl) | ((with_reducible apply evOpsD_g); rfl)); intro K hK; simp (contextual := true) only [go_sem, simprocAttr]) | ((with_reducible refine evOpsD_nil ?_ ?_); kernel_rfl) | ((with_reducible refine hK _ ?_); clear hK K) | (with_reducible first | refine And.intro ?_ ?_ | refine blk_other (by decide) ?_ | refine inR_mk ?_ ?_) | (refine fun (hc : (_ : Bool) = _) => ?_; try simp only [hcS] at hc))
  all_goals try exact om_
  refine V_loopK (G := {i : Nat // i ≤ c.ob.toNat ∧ (True)}) (fun ⟨i, _⟩ => [(8, iv i), (4, .ptr 2 0), (7, .ptr 7 0)]) [2, 3, 5, 6] (fun ⟨i, _⟩ => [(7, ⟨1, .box [iv (c.ob * d.ob), .sl 3, .sl 4, .sl 5, .sl 6]⟩), (3, ⟨1, .arr (ints [])⟩), (4, ⟨1, .arr (ints [])⟩), (5, ⟨1, .arr (ints (pq d.id.length c.id d.id d.fr.length (i * d.id.length)))⟩), (6, ⟨1, .arr (intss [])⟩)]) [3, 4, 5, 6, 7] (fun zz => c.ob.toNat - zz.1) ⟨0, Nat.zero_le _, by trivial⟩ ?_ ?_
  · exact Imp.auto hX (by simp [go_sem, simprocAttr, Nat.zero_mul])
  rintro ⟨i, hii, hwi⟩
  simp only [go_sem, simprocAttr]
  rcases Nat.lt_or_ge i c.ob.toNat with hli | hgi
  · repeat' (first | with_reducible refine St.f ?_ | ((with_reducible refine V_cond ?_); simp only [go_sem, simprocAttr]) | ((first | refine V_rg ?_ | refine V_dr ?_); intro K hK) | ((first | with_reducible refine So.f ?_ | ((with_reducible apply evOps_g); rfl) | ((with_reducible apply evOpsD_g); rfl)); intro K hK; simp (contextual := true) only [go_sem, simprocAttr]) | ((with_reducible refine evOpsD_nil ?_ ?_); kernel_rfl) | ((with_reducible refine hK _ ?_); clear hK K) | (with_reducible first | refine And.intro ?_ ?_ | refine blk_other (by decide) ?_ | refine inR_mk ?_ ?_) | (refine fun (hc : (_ : Bool) = _) => ?_; try simp only [hcS] at hc))
    all_goals try exact om_
    refine V_loopK (G := {j : Nat // j ≤ d.ob.toNat ∧ (True)}) (fun ⟨j, _⟩ => [(9, iv j), (4, .ptr 2 0), (7, .ptr 7 0), (8, iv i)]) [2, 3, 5, 6] (fun ⟨j, _⟩ => [(7, ⟨1, .box [iv (c.ob * d.ob), .sl 3, .sl 4, .sl 5, .sl 6]⟩), (3, ⟨1, .arr (ints [])⟩), (4, ⟨1, .arr (ints [])⟩), (5, ⟨1, .arr (ints (pq d.id.length c.id d.id d.fr.length (i * d.id.length + j)))⟩), (6, ⟨1, .arr (intss [])⟩)]) [3, 4, 5, 6, 7] (fun zz => d.ob.toNat - zz.1) ⟨0, Nat.zero_le _, by first | trivial | simp⟩ ?_ ?_
    · exact Imp.au hX
    rintro ⟨j, hij, hwj⟩
    simp only [go_sem, simprocAttr]
    have hln := pq_len (n := d.id.length) (x := c.id) (y := d.id) (w := (d.fr.length : Int)) (k := i * d.id.length + j)
    have hle : i * d.id.length + j ≤ 64 := by
      have := Nat.mul_le_mul_right d.id.length (show i + 1 ≤ 8 by omega)
      rw [Nat.succ_mul] at this
      omega
    rcases Nat.lt_or_ge j d.ob.toNat with hlj | hgj
    · have w1 := sc.idw i (by omega)
      have w2 := sd.idw j (by omega)
      have e1 := mul_b (x := c.id.getD i 0) (n := (d.fr.length : Int)) w1.1 (by omega) (by omega) (by omega)
      have e2 := pq_succ (n := d.id.length) (x := c.id) (y := d.id) (w := (d.fr.length : Int)) (i := i) (j := j) (by omega)
      repeat' (first | with_reducible refine St.f ?_ | ((with_reducible refine V_cond ?_); simp only [go_sem, simprocAttr]) | ((first | refine V_rg ?_ | refine V_dr ?_); intro K hK) | ((first | with_reducible refine So.f ?_ | ((with_reducible apply evOps_g); rfl) | ((with_reducible apply evOpsD_g); rfl)); intro K hK; simp (contextual := true) only [go_sem, simprocAttr]) | ((with_reducible refine evOpsD_nil ?_ ?_); kernel_rfl) | ((with_reducible refine hK _ ?_); clear hK K) | (with_reducible first | refine And.intro ?_ ?_ | refine blk_other (by decide) ?_ | refine inR_mk ?_ ?_) | (refine fun (hc : (_ : Bool) = _) => ?_; try simp only [hcS] at hc))
      all_goals try exact om_
      · refine ⟨⟨j + 1, by omega, (by trivial)⟩, by simp only; omega, Imp.auto hX (by simp only [go_sem, simprocAttr, e2])⟩
    · have ej : j = d.id.length := by omega
      subst ej
      have e3 : i * d.id.length + d.id.length = (i + 1) * d.id.length := (Nat.succ_mul _ _).symm
      repeat' (first | with_reducible refine St.f ?_ | ((with_reducible refine V_cond ?_); simp only [go_sem, simprocAttr]) | ((first | refine V_rg ?_ | refine V_dr ?_); intro K hK) | ((first | with_reducible refine So.f ?_ | ((with_reducible apply evOps_g); rfl) | ((with_reducible apply evOpsD_g); rfl)); intro K hK; simp (contextual := true) only [go_sem, simprocAttr]) | ((with_reducible refine evOpsD_nil ?_ ?_); kernel_rfl) | ((with_reducible refine hK _ ?_); clear hK K) | (with_reducible first | refine And.intro ?_ ?_ | refine blk_other (by decide) ?_ | refine inR_mk ?_ ?_) | (refine fun (hc : (_ : Bool) = _) => ?_; try simp only [hcS] at hc))
      all_goals try exact om_
      · refine ⟨⟨i + 1, by omega, (by (trivial))⟩, by simp only; omega, Imp.auto hX (by simp only [go_sem, simprocAttr, e3])⟩
  · have ei : i = c.ob.toNat := by omega
    subst ei
    repeat' (first | with_reducible refine St.f ?_ | ((with_reducible refine V_cond ?_); simp only [go_sem, simprocAttr]) | ((first | refine V_rg ?_ | refine V_dr ?_); intro K hK) | ((first | with_reducible refine So.f ?_ | ((with_reducible apply evOps_g); rfl) | ((with_reducible apply evOpsD_g); rfl)); intro K hK; simp (contextual := true) only [go_sem, simprocAttr]) | ((with_reducible refine evOpsD_nil ?_ ?_); kernel_rfl) | ((with_reducible refine hK _ ?_); clear hK K) | (with_reducible first | refine And.intro ?_ ?_ | refine blk_other (by decide) ?_ | refine inR_mk ?_ ?_) | (refine fun (hc : (_ : Bool) = _) => ?_; try simp only [hcS] at hc))
    all_goals try exact om_
    refine V_loopK (G := {a : Nat // a ≤ c.fr.length ∧ (True)}) (fun ⟨a, _⟩ => [(10, iv a), (4, .ptr 2 0), (7, .ptr 7 0)]) [2, 3, 5, 6] (fun ⟨a, _⟩ => [(7, ⟨1, .box [iv (c.ob * d.ob), .sl 3, .sl 4, .sl 5, .sl 6]⟩), (3, ⟨1, .arr (ints (pq d.fr.length c.fr d.fr d.ob (a * d.fr.length)))⟩), (4, ⟨1, .arr (ints (pq d.fr.length c.to d.to d.ob (a * d.fr.length)))⟩), (5, ⟨1, .arr (ints (pq d.id.length c.id d.id d.fr.length (c.ob.toNat * d.id.length)))⟩), (6, ⟨1, .arr (intss (prT c d (a * d.fr.length)))⟩)]) [3, 4, 5, 6, 7] (fun zz => c.fr.length - zz.1) ⟨0, Nat.zero_le _, by trivial⟩ ?_ ?_
    · exact Imp.auto hX (by simp [go_sem, simprocAttr, Nat.zero_mul])
    rintro ⟨a, hia, hwa⟩
    simp only [go_sem, simprocAttr]
    rcases Nat.lt_or_ge a c.fr.length with hla | hga
    · repeat' (first | with_reducible refine St.f ?_ | ((with_reducible refine V_cond ?_); simp only [go_sem, simprocAttr]) | ((first | refine V_rg ?_ | refine V_dr ?_); intro K hK) | ((first | with_reducible refine So.f ?_ | ((with_reducible apply evOps_g); rfl) | ((with_reducible apply evOpsD_g); rfl)); intro K hK; simp (contextual := true) only [go_sem, simprocAttr]) | ((with_reducible refine evOpsD_nil ?_ ?_); kernel_rfl) | ((with_reducible refine hK _ ?_); clear hK K) | (with_reducible first | refine And.intro ?_ ?_ | refine blk_other (by decide) ?_ | refine inR_mk ?_ ?_) | (refine fun (hc : (_ : Bool) = _) => ?_; try simp only [hcS] at hc))
      all_goals try exact om_
      refine V_loopK (G := {b : Nat // b ≤ d.fr.length ∧ (True)}) (fun ⟨b, _⟩ => [(11, iv b), (4, .ptr 2 0), (7, .ptr 7 0), (10, iv a)]) [2, 3, 5, 6] (fun ⟨b, _⟩ => [(7, ⟨1, .box [iv (c.ob * d.ob), .sl 3, .sl 4, .sl 5, .sl 6]⟩), (3, ⟨1, .arr (ints (pq d.fr.length c.fr d.fr d.ob (a * d.fr.length + b)))⟩), (4, ⟨1, .arr (ints (pq d.fr.length c.to d.to d.ob (a * d.fr.length + b)))⟩), (5, ⟨1, .arr (ints (pq d.id.length c.id d.id d.fr.length (c.ob.toNat * d.id.length)))⟩), (6, ⟨1, .arr (intss (prT c d (a * d.fr.length + b)))⟩)]) [3, 4, 5, 6, 7] (fun zz => d.fr.length - zz.1) ⟨0, Nat.zero_le _, by first | trivial | simp⟩ ?_ ?_
      · exact Imp.au hX
      rintro ⟨b, hib, hwb⟩
      simp only [go_sem, simprocAttr]
      have hle : a * d.fr.length + b ≤ 1640 := by
        have := Nat.mul_le_mul hla d40
        rw [Nat.succ_mul] at this
        omega
      have l1 := pq_len (n := d.fr.length) (x := c.fr) (y := d.fr) (w := d.ob) (k := a * d.fr.length + b)
      have l2 := pq_len (n := d.fr.length) (x := c.to) (y := d.to) (w := d.ob) (k := a * d.fr.length + b)
      have l3 := prT_len (c := c) (d := d) (k := a * d.fr.length + b)
      rcases Nat.lt_or_ge b d.fr.length with hlb | hgb
      · have w1 := sc.frw a hla
        have w2 := sd.frw b hlb
        have w3 := sc.tow a (by omega)
        have w4 := sd.tow b (by omega)
        have e1 := mul_b (x := c.fr.getD a 0) (n := d.ob) w1.1 (by omega) (by omega) (by omega)
        have e2 := mul_b (x := c.to.getD a 0) (n := d.ob) w3.1 (by omega) (by omega) (by omega)
        have p1 := pq_succ (n := d.fr.length) (x := c.fr) (y := d.fr) (w := d.ob) (i := a) (j := b) hlb
        have p2 := pq_succ (n := d.fr.length) (x := c.to) (y := d.to) (w := d.ob) (i := a) (j := b) hlb
        have r1 := (sc.coe a hla).1
        have r2 := (sd.coe b hlb).1
        repeat' (first | with_reducible refine St.f ?_ | ((with_reducible refine V_cond ?_); simp only [go_sem, simprocAttr]) | ((first | refine V_rg ?_ | refine V_dr ?_); intro K hK) | ((first | with_reducible refine So.f ?_ | ((with_reducible apply evOps_g); rfl) | ((with_reducible apply evOpsD_g); rfl)); intro K hK; simp (contextual := true) only [go_sem, simprocAttr]) | ((with_reducible refine evOpsD_nil ?_ ?_); kernel_rfl) | ((with_reducible refine hK _ ?_); clear hK K) | (with_reducible first | refine And.intro ?_ ?_ | refine blk_other (by decide) ?_ | refine inR_mk ?_ ?_) | (refine fun (hc : (_ : Bool) = _) => ?_; try simp only [hcS] at hc))
        all_goals try exact om_
        refine V_loopK (G := {k : Nat // k ≤ c.fr.length ∧ (True)}) (fun ⟨k, _⟩ => [(13, iv k), (4, .ptr 2 0), (7, .ptr 7 0), (10, iv a), (11, iv b), (12, .sl 12), (88, .sl 8), (106, .sl 10)]) [2, 3, 5, 6] (fun ⟨k, _⟩ => [(7, ⟨1, .box [iv (c.ob * d.ob), .sl 9, .sl 11, .sl 5, .sl 6]⟩), (9, ⟨1, .arr (ints (pq d.fr.length c.fr d.fr d.ob (a * d.fr.length + (b + 1))))⟩), (11, ⟨1, .arr (ints (pq d.fr.length c.to d.to d.ob (a * d.fr.length + (b + 1))))⟩), (5, ⟨1, .arr (ints (pq d.id.length c.id d.id d.fr.length (c.ob.toNat * d.id.length)))⟩), (6, ⟨1, .arr (intss (prT c d (a * d.fr.length + b)))⟩), (12, ⟨1, .arr (ints (prW c d (a * d.fr.length + b) (k * d.fr.length)))⟩)]) [5, 6, 7, 9, 11, 12] (fun zz => c.fr.length - zz.1) ⟨0, Nat.zero_le _, by trivial⟩ ?_ ?_
        · exact Imp.auto hX (by simp [go_sem, simprocAttr, Nat.zero_mul, p1, p2])
        rintro ⟨k, hik, hwk⟩
        simp only [go_sem, simprocAttr]
        rcases Nat.lt_or_ge k c.fr.length with hlk | hgk
        · repeat' (first | with_reducible refine St.f ?_ | ((with_reducible refine V_cond ?_); simp only [go_sem, simprocAttr]) | ((first | refine V_rg ?_ | refine V_dr ?_); intro K hK) | ((first | with_reducible refine So.f ?_ | ((with_reducible apply evOps_g); rfl) | ((with_reducible apply evOpsD_g); rfl)); intro K hK; simp (contextual := true) only [go_sem, simprocAttr]) | ((with_reducible refine evOpsD_nil ?_ ?_); kernel_rfl) | ((with_reducible refine hK _ ?_); clear hK K) | (with_reducible first | refine And.intro ?_ ?_ | refine blk_other (by decide) ?_ | refine inR_mk ?_ ?_) | (refine fun (hc : (_ : Bool) = _) => ?_; try simp only [hcS] at hc))
          all_goals try exact om_
          refine V_loopK (G := {l : Nat // l ≤ d.fr.length ∧ (True)}) (fun ⟨l, _⟩ => [(14, iv l), (4, .ptr 2 0), (7, .ptr 7 0), (10, iv a), (11, iv b), (12, .sl 12), (13, iv k), (88, .sl 8), (106, .sl 10)]) [2, 3, 5, 6] (fun ⟨l, _⟩ => [(7, ⟨1, .box [iv (c.ob * d.ob), .sl 9, .sl 11, .sl 5, .sl 6]⟩), (9, ⟨1, .arr (ints (pq d.fr.length c.fr d.fr d.ob (a * d.fr.length + (b + 1))))⟩), (11, ⟨1, .arr (ints (pq d.fr.length c.to d.to d.ob (a * d.fr.length + (b + 1))))⟩), (5, ⟨1, .arr (ints (pq d.id.length c.id d.id d.fr.length (c.ob.toNat * d.id.length)))⟩), (6, ⟨1, .arr (intss (prT c d (a * d.fr.length + b)))⟩), (12, ⟨1, .arr (ints (prW c d (a * d.fr.length + b) (k * d.fr.length + l)))⟩)]) [5, 6, 7, 9, 11, 12] (fun zz => d.fr.length - zz.1) ⟨0, Nat.zero_le _, by first | trivial | simp⟩ ?_ ?_
          · exact Imp.au hX
          rintro ⟨l, hil, hwl⟩
          simp only [go_sem, simprocAttr]
          have l4 := prW_len (c := c) (d := d) (k := a * d.fr.length + b) (l := k * d.fr.length + l)
          have hke : k * d.fr.length + l ≤ 1640 := by
            have := Nat.mul_le_mul hlk d40
            rw [Nat.succ_mul] at this
            omega
          rcases Nat.lt_or_ge l d.fr.length with hll | hgl
          · have x1 := (sc.coe a hla).2 k hlk
            have x2 := (sd.coe b hlb).2 l hll
            have p3 := prW_succ (c := c) (d := d) (i := a) (j := b) (a := k) (b := l) hlb hll
            simp only [Cat.Entry, Cat.F, Cat.T, Cat.C, Int.toNat_natCast] at x1 x2 p3
            by_cases q : 0 ≤ (c.co.getD a []).getD k 0 ∧ 0 ≤ (d.co.getD b []).getD l 0
            · rw [if_pos q] at p3
              have e3 := mul_b (x := (c.co.getD a []).getD k 0) (n := (d.fr.length : Int)) q.1 (by omega) (by omega) (by omega)
              repeat' (first | (exfalso; omega) | with_reducible refine St.f ?_ | ((with_reducible refine V_cond ?_); simp only [go_sem, simprocAttr]) | ((first | refine V_rg ?_ | refine V_dr ?_); intro K hK) | ((first | with_reducible refine So.f ?_ | ((with_reducible apply evOps_g); rfl) | ((with_reducible apply evOpsD_g); rfl)); intro K hK; simp (contextual := true) only [go_sem, simprocAttr]) | ((with_reducible refine evOpsD_nil ?_ ?_); kernel_rfl) | ((with_reducible refine hK _ ?_); clear hK K) | (with_reducible first | refine And.intro ?_ ?_ | refine blk_other (by decide) ?_ | refine inR_mk ?_ ?_) | (refine fun (hc : (_ : Bool) = _) => ?_; try simp only [hcS] at hc))
              all_goals try exact om_
              · refine ⟨⟨l + 1, by omega, (by trivial)⟩, by simp only; omega, Imp.auto hX (by simp only [go_sem, simprocAttr, p3])⟩
            · rw [if_neg q] at p3
              repeat' (first | (exfalso; omega) | with_reducible refine St.f ?_ | ((with_reducible refine V_cond ?_); simp only [go_sem, simprocAttr]) | ((first | refine V_rg ?_ | refine V_dr ?_); intro K hK) | ((first | with_reducible refine So.f ?_ | ((with_reducible apply evOps_g); rfl) | ((with_reducible apply evOpsD_g); rfl)); intro K hK; simp (contextual := true) only [go_sem, simprocAttr]) | ((with_reducible refine evOpsD_nil ?_ ?_); kernel_rfl) | ((with_reducible refine hK _ ?_); clear hK K) | (with_reducible first | refine And.intro ?_ ?_ | refine blk_other (by decide) ?_ | refine inR_mk ?_ ?_) | (refine fun (hc : (_ : Bool) = _) => ?_; try simp only [hcS] at hc))
              all_goals try exact om_
              all_goals (refine ⟨⟨l + 1, by omega, (by trivial)⟩, by simp only; omega, Imp.auto hX (by simp only [go_sem, simprocAttr, p3])⟩)
          · have el : l = d.fr.length := by omega
            subst el
            have e3 : k * d.fr.length + d.fr.length = (k + 1) * d.fr.length := (Nat.succ_mul _ _).symm
            repeat' (first | with_reducible refine St.f ?_ | ((with_reducible refine V_cond ?_); simp only [go_sem, simprocAttr]) | ((first | refine V_rg ?_ | refine V_dr ?_); intro K hK) | ((first | with_reducible refine So.f ?_ | ((with_reducible apply evOps_g); rfl) | ((with_reducible apply evOpsD_g); rfl)); intro K hK; simp (contextual := true) only [go_sem, simprocAttr]) | ((with_reducible refine evOpsD_nil ?_ ?_); kernel_rfl) | ((with_reducible refine hK _ ?_); clear hK K) | (with_reducible first | refine And.intro ?_ ?_ | refine blk_other (by decide) ?_ | refine inR_mk ?_ ?_) | (refine fun (hc : (_ : Bool) = _) => ?_; try simp only [hcS] at hc))
            all_goals try exact om_
            · refine ⟨⟨k + 1, by omega, (by (trivial))⟩, by simp only; omega, Imp.auto hX (by simp only [go_sem, simprocAttr, e3])⟩
        · have ek : k = c.fr.length := by omega
          subst ek
          have p4 := prT_succ (c := c) (d := d) (i := a) (j := b)
          repeat' (first | with_reducible refine St.f ?_ | ((with_reducible refine V_cond ?_); simp only [go_sem, simprocAttr]) | ((first | refine V_rg ?_ | refine V_dr ?_); intro K hK) | ((first | with_reducible refine So.f ?_ | ((with_reducible apply evOps_g); rfl) | ((with_reducible apply evOpsD_g); rfl)); intro K hK; simp (contextual := true) only [go_sem, simprocAttr]) | ((with_reducible refine evOpsD_nil ?_ ?_); kernel_rfl) | ((with_reducible refine hK _ ?_); clear hK K) | (with_reducible first | refine And.intro ?_ ?_ | refine blk_other (by decide) ?_ | refine inR_mk ?_ ?_) | (refine fun (hc : (_ : Bool) = _) => ?_; try simp only [hcS] at hc))
          all_goals try exact om_
          · refine ⟨⟨b + 1, by omega, (by (trivial))⟩, by simp only; omega, Imp.auto hX (by simp only [go_sem, simprocAttr, p4])⟩
      · have eb : b = d.fr.length := by omega
        subst eb
        have e3 : a * d.fr.length + d.fr.length = (a + 1) * d.fr.length := (Nat.succ_mul _ _).symm
        repeat' (first | with_reducible refine St.f ?_ | ((with_reducible refine V_cond ?_); simp only [go_sem, simprocAttr]) | ((first | refine V_rg ?_ | refine V_dr ?_); intro K hK) | ((first | with_reducible refine So.f ?_ | ((with_reducible apply evOps_g); rfl) | ((with_reducible apply evOpsD_g); rfl)); intro K hK; simp (contextual := true) only [go_sem, simprocAttr]) | ((with_reducible refine evOpsD_nil ?_ ?_); kernel_rfl) | ((with_reducible refine hK _ ?_); clear hK K) | (with_reducible first | refine And.intro ?_ ?_ | refine blk_other (by decide) ?_ | refine inR_mk ?_ ?_) | (refine fun (hc : (_ : Bool) = _) => ?_; try simp only [hcS] at hc))
        all_goals try exact om_
        · refine ⟨⟨a + 1, by omega, (by (trivial))⟩, by simp only; omega, Imp.auto hX (by simp only [go_sem, simprocAttr, e3])⟩
    · have ea : a = c.fr.length := by omega
      subst ea
      have ei2 : c.ob.toNat = c.id.length := by omega
      rw [ei2]
      repeat' (first | with_reducible refine St.f ?_ | ((with_reducible refine V_cond ?_); simp only [go_sem, simprocAttr]) | ((first | refine V_rg ?_ | refine V_dr ?_); intro K hK) | ((first | with_reducible refine So.f ?_ | ((with_reducible apply evOps_g); rfl) | ((with_reducible apply evOpsD_g); rfl)); intro K hK; simp (contextual := true) only [go_sem, simprocAttr]) | ((with_reducible refine evOpsD_nil ?_ ?_); kernel_rfl) | ((with_reducible refine hK _ ?_); clear hK K) | (with_reducible first | refine And.intro ?_ ?_ | refine blk_other (by decide) ?_ | refine inR_mk ?_ ?_) | (refine fun (hc : (_ : Bool) = _) => ?_; try simp only [hcS] at hc))
      all_goals try exact om_
      · (first | refine ret_auto ?_ | refine ret_auto' ?_); simp only [go_sem, simprocAttr, Tryz.f209]
end Zp
end Go.Eng
namespace Go.Cats
theorem grs_few2 : ((List.range 4).all fun k => (grs 2 k).all fun g => decide ((allP 2 g.1 g.2).length ≤ 16)) = true := by decide +kernel
theorem grs_few3 : ((List.range 4).all fun k => (grs 3 k).all fun g => decide ((allP 3 g.1 g.2).length ≤ 16)) = true := by decide +kernel
theorem GrOk.few2 {n : Nat} {fr to : List Int} (h : GrOk n fr to) : (allP n fr to).length ≤ 16 := by
  have hm := grs_mem h.n2 fr.length fr to rfl h.tol h.edge
  have hl := h.len
  rcases h.n2 with rfl | rfl
  · have := List.all_eq_true.1 (List.all_eq_true.1 grs_few2 fr.length (List.mem_range.2 (by omega))) _ hm
    simpa using this
  · have := List.all_eq_true.1 (List.all_eq_true.1 grs_few3 fr.length (List.mem_range.2 (by omega))) _ hm
    simpa using this
theorem po_few {R : List (List Int)} {n : Nat} (hn : n ≤ 4) : (poC R n).fr.length ≤ 16 := by
  have h1 := poA_le (R := R) (n := n) n
  have h2 : n * n ≤ 16 := Nat.mul_le_mul hn hn
  have h3 : (poC R n).fr.length = (poA R n n).length := by unfold poC tabC; simp
  omega
theorem mo_few (k : Nat) : (moC (moT k)).fr.length ≤ 16 := moT_cases (fun t => (moC t).fr.length ≤ 16) (fun i hi => by
  obtain rfl | rfl | rfl | rfl | rfl | rfl | rfl | rfl : i = 0 ∨ i = 1 ∨ i = 2 ∨ i = 3 ∨ i = 4 ∨ i = 5 ∨ i = 6 ∨ i = 7 := by omega
  all_goals decide) k
theorem jn_few (k : Nat) : (jnC (moC (moT k)) one1).fr.length ≤ 16 ∧ (jnC (moC (moT k)) one1).to.length ≤ 16 := moT_cases (fun t => (jnC (moC t) one1).fr.length ≤ 16 ∧ (jnC (moC t) one1).to.length ≤ 16) (fun i hi => by
  obtain rfl | rfl | rfl | rfl | rfl | rfl | rfl | rfl : i = 0 ∨ i = 1 ∨ i = 2 ∨ i = 3 ∨ i = 4 ∨ i = 5 ∨ i = 6 ∨ i = 7 := by omega
  all_goals decide) k
end Go.Cats
namespace Go.Eng
open Go.Cats
theorem famP_few {s : RnS} (h : RnOk s) : ∀ {k : Nat}, k < 12 → (famP s k).1.ob ≤ 4 ∧ (famP s k).1.fr.length ≤ 16 := fun {k} hk => by
  have b2 := nextF_b (n := 2) h (by decide)
  have b3 := nextF_b (n := 3) h (by decide)
  have b5 := nextF_b (n := 5) h (by decide)
  have o2 := nextS_ok (n := 2) h
  have b4 := nextF_b (n := 4) o2 (by decide)
  have hg := grG_gr (n := 2 + (nextF s 2).toNat) (k := (nextF (nextS s 2) 4).toNat) (nextS_ok (n := 4) o2) (by omega) (by omega)
  obtain rfl | rfl | rfl | rfl | rfl | rfl | rfl | rfl | rfl | rfl | rfl | rfl : k = 0 ∨ k = 1 ∨ k = 2 ∨ k = 3 ∨ k = 4 ∨ k = 5 ∨ k = 6 ∨ k = 7 ∨ k = 8 ∨ k = 9 ∨ k = 10 ∨ k = 11 := by omega
  · exact ⟨by show (((nextF s 5).toNat : Nat) : Int) ≤ 4; omega, po_few (by omega)⟩
  · exact ⟨by show ((2 : Nat) : Int) ≤ 4; omega, po_few (by omega)⟩
  · exact ⟨by show ((3 : Nat) : Int) ≤ 4; omega, po_few (by omega)⟩
  · exact ⟨by show ((2 : Nat) : Int) ≤ 4; omega, by show ((allP 2 [0, 0] [1, 1]).map (·.1)).length ≤ 16; rw [List.length_map]; exact gr_fix.few2⟩
  · exact ⟨by show (1 : Int) ≤ 4; omega, mo_few _⟩
  · exact ⟨by show ((1 + (nextF s 3).toNat : Nat) : Int) ≤ 4; omega, po_few (by omega)⟩
  · exact ⟨by show ((3 : Nat) : Int) ≤ 4; omega, by show ((allP 3 [0, 1, 0] [1, 2, 2]).map (·.1)).length ≤ 16; rw [List.length_map]; exact gr_fix3.few2⟩
  · exact ⟨by show (2 : Int) ≤ 4; omega, by show splC.fr.length ≤ 16; decide⟩
  · exact ⟨by show (1 : Int) + ((1 : Nat) : Int) ≤ 4; omega, (jn_few _).2⟩
  · exact ⟨by show (1 : Int) + ((1 : Nat) : Int) ≤ 4; omega, (jn_few _).1⟩
  · exact ⟨by show ((2 + (nextF s 2).toNat : Nat) : Int) ≤ 4; omega, po_few (by omega)⟩
  · exact ⟨by show ((2 + (nextF s 2).toNat : Nat) : Int) ≤ 4; omega, by
      show (List.map (·.1) (allP _ _ _)).length ≤ 16
      rw [List.length_map]; exact hg.few2⟩
theorem famF_few {s : RnS} (h : RnOk s) : (famF s).1.ob ≤ 4 ∧ (famF s).1.fr.length ≤ 16 := by
  have b := nextF_b (n := 12) h (by decide)
  exact famP_few (nextS_ok h) (by omega)
end Go.Eng
