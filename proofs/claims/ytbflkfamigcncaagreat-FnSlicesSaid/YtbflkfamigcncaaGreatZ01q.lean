/- Sources of numbers, by the reference: made, asked, one of several. -/
import Derived.Test.YtbflkfamigcncaaGreatEngRnq
import Derived.Test.YtbflkfamigcncaaGreatKix
set_option linter.unusedSimpArgs false
set_option linter.unusedVariables false
set_option maxRecDepth 100000
set_option maxHeartbeats 16000000
namespace Go.Eng
open Go Go.Proofs Go.Cats
def hz (h : Int) : Int := IntKind.u64.wrap (IntKind.u64.wrap (h * 6364136223846793005) + 1442695040888963407)
def rx (h : Int) : Int := lowB .u64 ((hz h).fdiv (2 ^ min (33 : Int).toNat IntKind.u64.bits)) 16777215
theorem rx_b (h : Int) : 0 ≤ rx h ∧ rx h < 16777216 := lowB_24 _
def nextX (s : RnS) : Int := rx s.hash + (if s.at_ < s.code.length then s.code.getD s.at_ 0 else 0)
def nextF (s : RnS) (n : Int) : Int := if n < 1 then 0 else (nextX s).tmod n
def nextS (s : RnS) (n : Int) : RnS := if n < 1 then s else ⟨s.code, if s.at_ < s.code.length then s.at_ + 1 else s.at_, hz s.hash⟩
theorem nextX_b {s : RnS} (h : RnOk s) : 0 ≤ nextX s ∧ nextX s < 16777472 := by
  have h1 := rx_b s.hash
  unfold nextX
  split
  · rename_i h2
    have := h.b _ h2
    omega
  · omega
theorem nextF_b {s : RnS} {n : Int} (h : RnOk s) (hn : 1 ≤ n) : 0 ≤ nextF s n ∧ nextF s n < n := by
  have h1 := (nextX_b h).1
  unfold nextF
  rw [if_neg (by omega)]
  exact ⟨Int.tmod_nonneg _ h1, Int.tmod_lt_of_pos _ (by omega)⟩
theorem nextF_0 {s : RnS} {n : Int} (hn : n < 1) : nextF s n = 0 := by unfold nextF; rw [if_pos hn]
theorem nextS_ok {s : RnS} {n : Int} (h : RnOk s) : RnOk (nextS s n) := by
  unfold nextS
  split
  · exact h
  · refine ⟨h.len, ?_, h.b⟩
    have := h.le
    simp only
    split <;> omega
theorem ty_n : ((Tryz.prog.underlying 46).isSome = true ∧ Tryz.prog.underlying 2 = some (.int .i64)) ∧ ((Tryz.prog.underlying 5).isSome = true ∧ Tryz.prog.underlying 46 = some (.int .u64)) ∧ ((Tryz.prog.underlying 3).isSome = true) := ⟨⟨by rw [Tryz.underlying46]; rfl, Tryz.underlying2⟩, ⟨by rw [Tryz.underlying5]; rfl, Tryz.underlying46⟩, by rw [Tryz.underlying3]; rfl⟩
theorem wrap24 {z : Int} (h0 : 0 ≤ z) (h1 : z < 16777216) : IntKind.i64.wrap z = z := by
  unfold IntKind.wrap IntKind.bits IntKind.signed
  simp
  omega
theorem cal_l01Next : Callable Tryz.prog 146 := ⟨_, Tryz.func146, rfl, rfl⟩
theorem sp_l01Next {s : RnS} {n : Int} (hs : RnOk s) : Spec Tryz.prog 146 [.ptr 0 0, iv n] [(0, srcR s)] (iv (nextF s n)) [(0, srcR (nextS s n))] := by
  refine spec_of_V (E := TE) 1 Tryz.func146 rfl (by simp [Tryz.f146]) fun X hn hX => ?_
  by_cases h1 : n < 1
  · rw [nextF_0 h1, show nextS s n = s from by unfold nextS; rw [if_pos h1]]
    repeat' (first | with_reducible refine St.f ?_ | ((with_reducible refine V_cond ?_); simp only [go_sem, simprocAttr]) | ((first | refine V_rg ?_ | refine V_dr ?_); intro K hK) | ((first | with_reducible refine So.f ?_ | ((with_reducible apply evOps_g); rfl) | ((with_reducible apply evOpsD_g); rfl)); intro K hK; simp (contextual := true) only [go_sem, simprocAttr]) | ((with_reducible refine evOpsD_nil ?_ ?_); kernel_rfl) | ((with_reducible refine hK _ ?_); clear hK K) | (with_reducible first | refine And.intro ?_ ?_ | refine inR_mk ?_ ?_) | (refine fun (hc : (_ : Bool) = _) => ?_; try simp only [hcS] at hc))
    all_goals try exact om_
    all_goals try (exfalso; omega)
    (first | refine ret_auto ?_ | refine ret_auto' ?_); simp only [go_sem, simprocAttr, Tryz.f146]
  · have hx := rx_b s.hash
    have hw := wrap24 hx.1 hx.2
    by_cases h2 : s.at_ < s.code.length
    · have hb := hs.b _ h2
      have hw2 := wrap24 (z := s.code.getD s.at_ 0) hb.1 (by omega)
      have eX : nextX s = rx s.hash + s.code.getD s.at_ 0 := by unfold nextX; rw [if_pos h2]
      have eF : nextF s n = (rx s.hash + s.code.getD s.at_ 0).tmod n := by unfold nextF; rw [if_neg h1, eX]
      have eS : nextS s n = ⟨s.code, s.at_ + 1, hz s.hash⟩ := by unfold nextS; rw [if_neg h1, if_pos h2]
      have hl := hs.len
      rw [eF, eS]
      repeat' (first | (refine (id ?_ : V _ _ (Code.region 4 _ _) _ _); refine V_regionH 4 (by rw [hn]; rfl) ?_; intro K hK) | (refine evOpsH_h ?_; refine hook_shr (k := .u64) (a := hz s.hash) (b := 33) (by first | (simp only [go_sem, simprocAttr]; done) | (simp only [go_sem, simprocAttr]; rfl)) (by first | (simp only [go_sem, simprocAttr]; done) | (simp only [go_sem, simprocAttr]; rfl)) (by decide) ?_; simp only [go_sem, simprocAttr]) | (refine evOpsH_h ?_; refine hook_and (k := .u64) (a := (hz s.hash).fdiv (2 ^ min (33 : Int).toNat IntKind.u64.bits)) (b := 16777215) (by first | (simp only [go_sem, simprocAttr]; done) | (simp only [go_sem, simprocAttr]; rfl)) (by first | (simp only [go_sem, simprocAttr]; done) | (simp only [go_sem, simprocAttr]; rfl)) ?_; simp only [go_sem, simprocAttr]) | (refine evOpsH_h ?_; refine hook_int (x := .tmp 22) (k := .i64) (q := .u64) (n := rx s.hash) ty_n.1.1 ty_n.1.2 (by first | (simp only [go_sem, simprocAttr]; done) | (simp only [go_sem, simprocAttr]; rfl)) ?_; rw [hw]; simp only [go_sem, simprocAttr]) | ((with_reducible refine evOpsH_n ?_); simp only [go_sem, simprocAttr]) | (with_reducible refine evOpsH_e ?_) | with_reducible refine St.f ?_ | ((with_reducible refine V_cond ?_); simp only [go_sem, simprocAttr]) | ((first | refine V_rg ?_ | refine V_dr ?_); intro K hK) | ((first | with_reducible refine So.f ?_ | ((with_reducible apply evOps_g); rfl) | ((with_reducible apply evOpsD_g); rfl)); intro K hK; simp (contextual := true) only [go_sem, simprocAttr]) | ((with_reducible refine evOpsD_nil ?_ ?_); kernel_rfl) | ((with_reducible refine hK _ ?_); clear hK K) | (with_reducible first | refine And.intro ?_ ?_ | refine inR_mk ?_ ?_) | (refine hook_int (x := .tmp 44) (k := .i64) (q := .u8) (n := s.code.getD s.at_ 0) ty_n.2.1.1 ty_n.1.2 (by simp only [go_sem, simprocAttr]) ?_; rw [hw2]; simp only [go_sem, simprocAttr]) | (refine fun (hc : (_ : Bool) = _) => ?_; try simp only [hcS] at hc))
      all_goals try exact om_
      all_goals try (exfalso; omega)
      (first | refine ret_auto ?_ | refine ret_auto' ?_); simp only [go_sem, simprocAttr, Tryz.f146]
      rfl
    · have eX : nextX s = rx s.hash := by unfold nextX; rw [if_neg h2]; omega
      have eF : nextF s n = (rx s.hash).tmod n := by unfold nextF; rw [if_neg h1, eX]
      have eS : nextS s n = ⟨s.code, s.at_, hz s.hash⟩ := by unfold nextS; rw [if_neg h1, if_neg h2]
      rw [eF, eS]
      repeat' (first | (refine (id ?_ : V _ _ (Code.region 4 _ _) _ _); refine V_regionH 4 (by rw [hn]; rfl) ?_; intro K hK) | (refine evOpsH_h ?_; refine hook_shr (k := .u64) (a := hz s.hash) (b := 33) (by first | (simp only [go_sem, simprocAttr]; done) | (simp only [go_sem, simprocAttr]; rfl)) (by first | (simp only [go_sem, simprocAttr]; done) | (simp only [go_sem, simprocAttr]; rfl)) (by decide) ?_; simp only [go_sem, simprocAttr]) | (refine evOpsH_h ?_; refine hook_and (k := .u64) (a := (hz s.hash).fdiv (2 ^ min (33 : Int).toNat IntKind.u64.bits)) (b := 16777215) (by first | (simp only [go_sem, simprocAttr]; done) | (simp only [go_sem, simprocAttr]; rfl)) (by first | (simp only [go_sem, simprocAttr]; done) | (simp only [go_sem, simprocAttr]; rfl)) ?_; simp only [go_sem, simprocAttr]) | (refine evOpsH_h ?_; refine hook_int (x := .tmp 22) (k := .i64) (q := .u64) (n := rx s.hash) ty_n.1.1 ty_n.1.2 (by first | (simp only [go_sem, simprocAttr]; done) | (simp only [go_sem, simprocAttr]; rfl)) ?_; rw [hw]; simp only [go_sem, simprocAttr]) | ((with_reducible refine evOpsH_n ?_); simp only [go_sem, simprocAttr]) | (with_reducible refine evOpsH_e ?_) | with_reducible refine St.f ?_ | ((with_reducible refine V_cond ?_); simp only [go_sem, simprocAttr]) | ((first | refine V_rg ?_ | refine V_dr ?_); intro K hK) | ((first | with_reducible refine So.f ?_ | ((with_reducible apply evOps_g); rfl) | ((with_reducible apply evOpsD_g); rfl)); intro K hK; simp (contextual := true) only [go_sem, simprocAttr]) | ((with_reducible refine evOpsD_nil ?_ ?_); kernel_rfl) | ((with_reducible refine hK _ ?_); clear hK K) | (with_reducible first | refine And.intro ?_ ?_ | refine inR_mk ?_ ?_) | (refine fun (hc : (_ : Bool) = _) => ?_; try simp only [hcS] at hc))
      all_goals try exact om_
      all_goals try (exfalso; omega)
      (first | refine ret_auto ?_ | refine ret_auto' ?_); simp only [go_sem, simprocAttr, Tryz.f146]
      rfl
def hF (l : List Int) : Nat → Int
  | 0 => IntKind.u64.wrap (7019 + IntKind.u64.wrap (l.length : Int))
  | i + 1 => IntKind.u64.wrap (IntKind.u64.wrap (IntKind.u64.wrap (hF l i * 1099511628211) + IntKind.u64.wrap (l.getD i 0)) + 7)
def from_ (l : List Int) : RnS := ⟨l, 0, hF l l.length⟩
theorem from_ok {l : List Int} (hl : l.length ≤ 4096) (hb : ∀ i, i < l.length → 0 ≤ l.getD i 0 ∧ l.getD i 0 < 256) : RnOk (from_ l) := ⟨hl, Nat.zero_le _, hb⟩
theorem hF_zero (l : List Int) : hF l 0 = IntKind.u64.wrap (7019 + IntKind.u64.wrap (l.length : Int)) := rfl
attribute [local go_sem] hF_zero
theorem ty_m : ((Tryz.prog.underlying 3).isSome = true) ∧ Tryz.prog.underlying 46 = some (.int .u64) := ⟨by rw [Tryz.underlying3]; rfl, Tryz.underlying46⟩
theorem cal_l01From : Callable Tryz.prog 73 := ⟨_, Tryz.func73, rfl, rfl⟩
theorem sp_l01From {l : List Int} (hl : l.length ≤ 4096) : Spec Tryz.prog 73 [.bor [] (bys l)] [] (.ptr 0 0) [(0, srcR (from_ l))] := by
  refine spec_of_V (E := TE) 0 Tryz.func73 rfl (by simp [Tryz.f73]) fun X hn hX => ?_
  repeat' (first | with_reducible refine St.f ?_ | ((with_reducible refine V_cond ?_); simp only [go_sem, simprocAttr]) | ((first | refine V_rg ?_ | refine V_dr ?_); intro K hK) | ((first | with_reducible refine So.f ?_ | ((with_reducible apply evOps_g); rfl) | ((with_reducible apply evOpsD_g); rfl)); intro K hK; simp (contextual := true) only [go_sem, simprocAttr]) | ((with_reducible refine evOpsD_nil ?_ ?_); kernel_rfl) | ((with_reducible refine hK _ ?_); clear hK K) | (with_reducible first | refine And.intro ?_ ?_ | refine blk_other (by decide) ?_ | refine inR_mk ?_ ?_) | (refine hook_int (x := .tmp 7) (k := .u64) (q := .i64) (n := (l.length : Int)) ty_m.1 ty_m.2 (by simp only [go_sem, simprocAttr]) ?_; simp only [go_sem, simprocAttr]) | (refine fun (hc : (_ : Bool) = _) => ?_; try simp only [hcS] at hc))
  all_goals try exact om_
  refine V_loopK (G := {i : Nat // i ≤ l.length ∧ (True)}) (fun ⟨i, _⟩ => [(4, iv i), (3, .ptr 0 0)]) [0, 2] (fun ⟨i, _⟩ => [(0, ⟨1, .box [.bor [] (bys l), iv 0, .v (.int .u64 (hF l i))]⟩)]) [0] (fun zz => l.length - zz.1) ⟨0, Nat.zero_le _, by first | trivial | simp⟩ ?_ ?_
  · exact Imp.au hX
  rintro ⟨i, hii, hwi⟩
  simp only [go_sem, simprocAttr]
  rcases Nat.lt_or_ge i l.length with hlt | hge
  · have e1 : hF l (i + 1) = IntKind.u64.wrap (IntKind.u64.wrap (IntKind.u64.wrap (hF l i * 1099511628211) + IntKind.u64.wrap (l.getD i 0)) + 7) := rfl
    repeat' (first | with_reducible refine St.f ?_ | ((with_reducible refine V_cond ?_); simp only [go_sem, simprocAttr]) | ((first | refine V_rg ?_ | refine V_dr ?_); intro K hK) | ((first | with_reducible refine So.f ?_ | ((with_reducible apply evOps_g); rfl) | ((with_reducible apply evOpsD_g); rfl)); intro K hK; simp (contextual := true) only [go_sem, simprocAttr]) | ((with_reducible refine evOpsD_nil ?_ ?_); kernel_rfl) | ((with_reducible refine hK _ ?_); clear hK K) | (with_reducible first | refine And.intro ?_ ?_ | refine blk_other (by decide) ?_ | refine inR_mk ?_ ?_) | (refine hook_int (x := .tmp 31) (k := .u64) (q := .u8) (n := l.getD i 0) ty_n.2.1.1 ty_n.2.1.2 (by simp only [go_sem, simprocAttr]) ?_; simp only [go_sem, simprocAttr]) | (refine fun (hc : (_ : Bool) = _) => ?_; try simp only [hcS] at hc))
    all_goals try exact om_
    all_goals try (exfalso; omega)
    refine ⟨⟨i + 1, by omega, (by trivial)⟩, by simp only; omega, Imp.auto hX (by simp only [go_sem, simprocAttr, e1])⟩
  · obtain rfl : i = l.length := by omega
    repeat' (first | with_reducible refine St.f ?_ | ((with_reducible refine V_cond ?_); simp only [go_sem, simprocAttr]) | ((first | refine V_rg ?_ | refine V_dr ?_); intro K hK) | ((first | with_reducible refine So.f ?_ | ((with_reducible apply evOps_g); rfl) | ((with_reducible apply evOpsD_g); rfl)); intro K hK; simp (contextual := true) only [go_sem, simprocAttr]) | ((with_reducible refine evOpsD_nil ?_ ?_); kernel_rfl) | ((with_reducible refine hK _ ?_); clear hK K) | (with_reducible first | refine And.intro ?_ ?_ | refine blk_other (by decide) ?_ | refine inR_mk ?_ ?_) | (refine fun (hc : (_ : Bool) = _) => ?_; try simp only [hcS] at hc))
    all_goals try exact om_
    all_goals try (exfalso; omega)
    (first | refine ret_auto ?_ | refine ret_auto' ?_); simp only [go_sem, simprocAttr, Tryz.f73]
    rfl
theorem cal_l01Pick : Callable Tryz.prog 75 := ⟨_, Tryz.func75, rfl, rfl⟩
theorem sp_l01Pick {s : RnS} {l : List Int} (hs : RnOk s) (h1 : 1 ≤ l.length) (hl : l.length ≤ 1048576) : Spec Tryz.prog 75 [.ptr 0 0, .sl 1] [(0, srcR s), (1, ⟨1, .arr (ints l)⟩)] (iv (l.getD (nextF s l.length).toNat 0)) [(0, srcR (nextS s l.length)), (1, ⟨1, .arr (ints l)⟩)] := by
  refine spec_of_V (E := TE) 2 Tryz.func75 rfl (by simp [Tryz.f75]) fun X hn hX => ?_
  have hb := nextF_b (n := (l.length : Int)) hs (by omega)
  have hno := sp_l01Next (n := (l.length : Int)) hs
  repeat' (first | with_reducible refine St.f ?_ | ((with_reducible refine V_cond ?_); simp only [go_sem, simprocAttr]) | ((refine V_rg ?_); intro K hK) | ((first | with_reducible refine So.f ?_ | ((with_reducible apply evOps_g); rfl)); intro K hK; simp (contextual := true) only [go_sem, simprocAttr]) | ((with_reducible refine hK _ ?_); clear hK K) | (with_reducible first | refine And.intro ?_ ?_ | refine inR_mk ?_ ?_) | ((with_reducible refine evCall_at 146 ?_); refine EvCall.mq (hno) cal_l01Next [(0,0)] [] ?_; all_goals try simp only [go_sem, simprocAttr]) | (refine fun (hc : (_ : Bool) = _) => ?_; try simp only [hcS] at hc))
  all_goals try exact om_
  all_goals try (exfalso; omega)
  (first | refine ret_auto ?_ | refine ret_auto' ?_); simp only [go_sem, simprocAttr, Tryz.f75]
def numF (s : RnS) (n : Int) : Int := if nextF s 40 = 0 then [-1, n, 9223372036854775807, -9223372036854775808].getD (nextF (nextS s 40) 4).toNat 0 else nextF (nextS s 40) n
def numS (s : RnS) (n : Int) : RnS := if nextF s 40 = 0 then nextS (nextS s 40) 4 else nextS (nextS s 40) n
theorem cal_l02Number : Callable Tryz.prog 104 := ⟨_, Tryz.func104, rfl, rfl⟩
theorem sp_l02Number {s : RnS} {n : Int} (hs : RnOk s) : Spec Tryz.prog 104 [.ptr 0 0, iv n] [(0, srcR s)] (iv (numF s n)) [(0, srcR (numS s n))] := by
  refine spec_of_V (E := TE) 0 Tryz.func104 rfl (by simp [Tryz.f104]) fun X hn hX => ?_
  have h1 := sp_l01Next (n := 40) hs
  have hs2 := nextS_ok (n := 40) hs
  have hb := nextF_b (n := 40) hs (by decide)
  by_cases h0 : nextF s 40 = 0
  · have e1 : numF s n = [-1, n, 9223372036854775807, -9223372036854775808].getD (nextF (nextS s 40) 4).toNat 0 := by unfold numF; rw [if_pos h0]
    have e2 : numS s n = nextS (nextS s 40) 4 := by unfold numS; rw [if_pos h0]
    have h2 : Spec Tryz.prog 75 [.ptr 0 0, .sl 1] [(0, srcR (nextS s 40)), (1, ⟨1, .arr (ints [-1, n, 9223372036854775807, -9223372036854775808])⟩)] (iv ([-1, n, 9223372036854775807, -9223372036854775808].getD (nextF (nextS s 40) 4).toNat 0)) [(0, srcR (nextS (nextS s 40) 4)), (1, ⟨1, .arr (ints [-1, n, 9223372036854775807, -9223372036854775808])⟩)] := sp_l01Pick (l := [-1, n, 9223372036854775807, -9223372036854775808]) hs2 (by simp) (by simp)
    rw [e1, e2]
    rw [h0] at h1
    repeat' (first | with_reducible refine St.f ?_ | ((with_reducible refine V_cond ?_); simp only [go_sem, simprocAttr]) | ((refine V_rg ?_); intro K hK) | ((first | with_reducible refine So.f ?_ | ((with_reducible apply evOps_g); rfl)); intro K hK; simp (contextual := true) only [go_sem, simprocAttr]) | ((with_reducible refine hK _ ?_); clear hK K) | (with_reducible first | refine And.intro ?_ ?_ | refine inR_mk ?_ ?_) | ((with_reducible refine evCall_at 146 ?_); refine EvCall.mq (h1) cal_l01Next [(0,0)] [] ?_; all_goals try simp only [go_sem, simprocAttr]) | ((with_reducible refine evCall_at 75 ?_); refine EvCall.mq (h2) cal_l01Pick [(0,0),(1,1)] [] ?_; all_goals try simp only [go_sem, simprocAttr]) | (refine fun (hc : (_ : Bool) = _) => ?_; try simp only [hcS] at hc))
    all_goals try exact om_
    all_goals try (exfalso; omega)
    (first | refine ret_auto ?_ | refine ret_auto' ?_); simp only [go_sem, simprocAttr, Tryz.f104]
  · have e1 : numF s n = nextF (nextS s 40) n := by unfold numF; rw [if_neg h0]
    have e2 : numS s n = nextS (nextS s 40) n := by unfold numS; rw [if_neg h0]
    have h2 := sp_l01Next (n := n) hs2
    rw [e1, e2]
    repeat' (first | with_reducible refine St.f ?_ | ((with_reducible refine V_cond ?_); simp only [go_sem, simprocAttr]) | ((refine V_rg ?_); intro K hK) | ((first | with_reducible refine So.f ?_ | ((with_reducible apply evOps_g); rfl)); intro K hK; simp (contextual := true) only [go_sem, simprocAttr]) | ((with_reducible refine hK _ ?_); clear hK K) | (with_reducible first | refine And.intro ?_ ?_ | refine inR_mk ?_ ?_) | ((with_reducible refine (id ?_ : EvCall _ _ [.ptr 0 0,iv 40] _ _)); refine EvCall.mq (h1) cal_l01Next [(0,0)] [] ?_; all_goals try simp only [go_sem, simprocAttr]) | ((with_reducible refine (id ?_ : EvCall _ _ [.ptr 0 0,iv n] _ _)); refine EvCall.mq (h2) cal_l01Next [(0,0)] [] ?_; all_goals try simp only [go_sem, simprocAttr]) | (refine fun (hc : (_ : Bool) = _) => ?_; try simp only [hcS] at hc))
    all_goals try exact om_
    all_goals try (exfalso; omega)
    all_goals try contradiction
    (first | refine ret_auto ?_ | refine ret_auto' ?_); simp only [go_sem, simprocAttr, Tryz.f104]
end Go.Eng
