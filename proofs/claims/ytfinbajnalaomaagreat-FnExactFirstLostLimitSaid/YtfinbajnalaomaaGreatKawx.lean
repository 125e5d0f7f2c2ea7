/- Several texts in one: EngTk, V06, V10. -/
import Derived.Test.YtfinbajnalaomaaGreatKavx
import Derived.Test.YtfinbajnalaomaaGreatKapx
set_option linter.unusedVariables false
set_option linter.unusedSimpArgs false
set_option maxRecDepth 100000
set_option maxHeartbeats 16000000
section
namespace Go.Eng
open Go Go.Cats
def undD (n : Nat) (R : List (List Int)) : Dt := .sl 1 (.sl 1 (.v (.int .i64 0)) []) (List.replicate n unD ++ R.map ints)
@[go_sem] theorem und_isSl (n R) : (undD n R).isSl = true := rfl
@[go_sem] theorem und_sz (n R) : (undD n R).sz = 1 := rfl
@[go_sem] theorem und_nc (n : Nat) (R : List (List Int)) : (undD n R).nc = n + R.length := by simp [undD, Dt.nc, Dt.cells]
@[go_sem] theorem und_len (n : Nat) (R : List (List Int)) : (undD n R).len = n + R.length := by simp [undD, Dt.len, Dt.sz, Dt.nc, Dt.cells]
theorem und_zero (L : List (List Int)) : undD 0 L = intss L := rfl
theorem und_at {n : Nat} {r : List Int} {R : List (List Int)} : (undD n (r :: R)).at n = ints r := by
  simp [undD, Dt.at, Dt.cells, List.getD_eq_getElem?_getD]
theorem und_set {n : Nat} {r : List Int} {R : List (List Int)} : (List.replicate n unD ++ (r :: R).map ints).set n unD = List.replicate (n + 1) unD ++ R.map ints := by
  rw [List.set_append_right _ _ (by simp), List.length_replicate, Nat.sub_self, List.map_cons, List.set_cons_zero, List.replicate_succ', List.append_assoc]; rfl
theorem Imp.forget {X : Cx} {tm : List (Nat × Sv)} {rs : List (Nat × Rs)} {nx : Nat} (i k n cv sz : Nat) (df : Dt) (cs : List Dt) (hi : rsL rs i = ⟨cv, .hol (.sl sz df cs) [(k, .sl n)]⟩) (hkk : k < cs.length) :
    Imp X ⟨tm, rs, nx⟩ ⟨tm, (i, ⟨cv, .arr (.sl sz df (cs.set k unD))⟩) :: rs, nx⟩ := by
  rintro w1 U1 ds a w ⟨hd, hn, c, hp, ht, hpin⟩
  have h0 := hp.res i
  rw [hi] at h0
  obtain ⟨sz', df', cs', m, cap, cur, e, q0, q1, e1, e2, e3, e4, e5, e6, e7, e8⟩ := h0
  cases q0
  have hk0 : (cur.toList.take cs.length)[k]? = some (c n).hdr := by
    have key : ∀ (ds : List Dt) (p j : Nat) (F : Nat → Prop) (vs : List Value), j < ds.length → OwH w X.S c (rsL rs) [(p + j, .sl n)] F p ds vs → vs[j]? = some (c n).hdr := by
      intro ds
      induction ds with
      | nil => intro p j F vs hj; simp at hj
      | cons d ds ih =>
        intro p j F vs hj h
        simp only [OwH] at h
        cases j with
        | zero =>
          simp only [hlk, Nat.add_zero, if_true] at h
          obtain ⟨x, r, rfl, h2, _⟩ := h
          simp only [Sv.ok] at h2
          simp [h2.2]
        | succ j =>
          simp only [hlk, show ¬ p = p + (j + 1) by omega, if_false] at h
          obtain ⟨x, r, F1, F2, rfl, _, _, _, _, h3⟩ := h
          rw [List.getElem?_cons_succ]
          exact ih (p + 1) j F2 r (by simpa using hj) (by rw [show p + 1 + j = p + (j + 1) by omega]; exact h3)
    exact key cs 0 k _ _ hkk (by rw [Nat.zero_add]; exact e8)
  have hf := OwH.fill (G := fun _ => False) (t := unD) (u := (c n).hdr) cs 0 k _ _ hkk (fun _ _ h => h) (by
    unfold unD
    simp only [OwV]
    exact ⟨hp.one n, fun _ => False, fun _ h => h.elim, trivial⟩) (by rw [Nat.zero_add]; exact e8)
  have hset : (cur.toList.take cs.length).set k (c n).hdr = cur.toList.take cs.length := by
    apply List.ext_getElem?
    intro j
    rw [List.getElem?_set]
    split
    · rename_i hj
      subst hj
      split
      · exact hk0.symm
      · rename_i hge
        rw [List.getElem?_eq_none (by omega)]
    · rfl
  rw [hset] at hf
  obtain ⟨hp', hext⟩ := kind_core (rs := rsL rs) hp i (.arr (.sl sz df (cs.set k unD))) (fun _ => by rw [hi]; trivial) (by
    refine ⟨?_, fun a m' k' h => ?_⟩
    · simp only [OwV]
      refine ⟨q1, .inr ⟨(c i).blk, m, cap, cur, e, e1, by rw [List.length_set]; exact e2, e3, e4, e5, e6, e7, ?_⟩⟩
      rw [List.length_set]
      exact OwL.mono (fun b hb => hb.elim id fun h => h.elim) _ _ hf
    · rw [e1] at h
      simp at h
      exact h.1.symm)
  rw [hi] at hp' hext
  refine ⟨hd, hn, c, hp', fun s => Sv.ok_ext hext _ _ (ht s), fun l hl => ?_⟩
  obtain ⟨r1, r2, r3⟩ := hpin l hl
  exact ⟨Nat.le_trans r1 (hext.ver l), r2, r3⟩
theorem Imp.forgetU {X : Cx} {tm : List (Nat × Sv)} {rs : List (Nat × Rs)} {nx : Nat} (i n j cv : Nat) (r : List Int) (R : List (List Int)) (hi : rsL rs i = ⟨cv, .hol (undD n (r :: R)) [(n, .sl j)]⟩) :
    Imp X ⟨tm, rs, nx⟩ ⟨tm, (i, ⟨cv, .arr (undD (n + 1) R)⟩) :: rs, nx⟩ := by
  have h := Imp.forget (X := X) (tm := tm) (rs := rs) (nx := nx) i n j cv 1 _ _ hi (by simp)
  rw [und_set] at h
  exact h
end Go.Eng
end
section
namespace Go.Eng
open Go Go.Proofs Go.Cats
theorem conL_pre {g : Fun} {x n : Nat} (h : x ≤ n) : ∃ R, conL g n = conL g x ++ R := by unfold conL; exact coll_pre h
theorem take_full {α : Type} {l r : List α} {m : Nat} (h : m < (l.take (m + 1)).length) : (l ++ r).take (m + 1) = l.take (m + 1) := by
  rw [List.length_take] at h
  rw [List.take_append_of_le_length (by omega)]
theorem take_all {α : Type} {l : List α} {m : Nat} (h : (l.take (m + 1)).length ≤ m) : l.take (m + 1) = l := by
  rw [List.length_take] at h
  exact List.take_of_length_le (by omega)
attribute [local go_sem] List.set_cons_zero List.set_cons_succ
theorem cal_l12Cones : Callable Tryz.prog 74 := ⟨_, Tryz.func74, rfl, rfl⟩
theorem sp_l12Cones {g : Fun} (hg : IsFun g) : Spec Tryz.prog 74 [funV g] [] (.sl 0) [(0, ⟨1, .arr (conesD ((conA g).take 401))⟩)] := by
  refine spec_of_V (E := TE) 0 Tryz.func74 rfl (by simp [Tryz.f74]) fun X hn hX => ?_
  have t0 := hg.tgt.toShape.ob0
  have t8 := hg.tgt.toShape.ob8
  have hcs := (catB_of hg.src)
  have hct := (catB_of hg.tgt)
  repeat' (first | (with_reducible first | refine V_seq ?_ | refine V_block ?_ | refine V_skip ?_ | refine V_ret ?_ | refine V_exit ?_) | ((with_reducible refine V_cond ?_); simp only [go_sem, simprocAttr]) | ((first | refine V_region (by rw [hn]; rfl) ?_ | refine V_drawn hmix (by rw [hn]; rfl) ?_); intro K hK) | ((first | with_reducible refine evOps_n ?_ | ((with_reducible apply evOps_g); rfl) | with_reducible refine evOpsD_n ?_ | ((with_reducible apply evOpsD_g); rfl)); intro K hK; simp (contextual := true) only [go_sem, simprocAttr]) | with_reducible refine evOps_nil ?_ | ((with_reducible refine evOpsD_nil ?_ ?_); kernel_rfl) | ((with_reducible refine hK _ ?_); clear hK K) | (with_reducible first | refine And.intro ?_ ?_ | refine nxt_n ?_ | refine nxt_r ?_ | refine nxt_e ?_ | refine blk_n ?_ | refine blk_r ?_ | refine blk_same ?_ | refine blk_other (by decide) ?_ | refine noG_n ?_ | refine noG_r ?_ | refine noG_e ?_ | refine inR_mk ?_ ?_) | (refine fun (hc : (_ : Bool) = _) => ?_; try simp only [hcS] at hc))
  all_goals try exact om_
  refine V_loopK (G := {x : Nat // x ≤ g.tgt.ob.toNat ∧ (True)}) (fun ⟨x, _⟩ => [(4, iv x), (3, .sl 1)]) [1, 2] (fun ⟨x, _⟩ => [(1, ⟨1, .arr (conesD ((conL g x).take 401))⟩)]) [1] (fun zz => g.tgt.ob.toNat - zz.1) ⟨0, Nat.zero_le _, by first | trivial | simp⟩ ?_ ?_
  · exact Imp.auto hX (by simp [go_sem, simprocAttr, conL_zero, List.take_nil])
  rintro ⟨x, hix, hwx⟩
  simp only [go_sem, simprocAttr]
  have hlt : ((conL g x).take 401).length ≤ 401 := by rw [List.length_take]; omega
  rcases Nat.lt_or_ge x g.tgt.ob.toNat with hlx | hgx
  · by_cases h4 : ((conL g x).take 401).length ≤ 400
    · have hT := take_all (m := 400) h4
      obtain ⟨m, hm⟩ : ∃ m : Nat, 401 - (conL g x).length = m := ⟨_, rfl⟩
      rw [hT] at h4 ⊢
      have hcn := sp_l06Constant_g (y := x) hcs hct hg.src.toShape hg.tgt.toShape (by omega)
      have hfi := sp_l07Find_n (m := m) (kF_par hg (by omega : (x : Int) < g.tgt.ob)) (by omega) (by omega)
      have hmi : (m : Int) = 401 - (conL g x).length := by omega
      obtain ⟨N, hN⟩ : ∃ N, (natA (kF g.src g.tgt x) g).take m = N := ⟨_, rfl⟩
      rw [hN] at hfi
      have hNl : N.length ≤ m := by rw [← hN, List.length_take]; omega
      have hTn : (conL g (x + 1)).take 401 = conL g x ++ N.map fun t => (⟨x, t⟩ : Cone) := by
        rw [conL_succ, List.take_append, List.take_of_length_le (by omega), ← hN, List.map_take, hm]; rfl
      rw [hmi] at hfi
      repeat' (first | (refine V_at 6 (Imp.kill 14 rfl) ?_) | (with_reducible first | refine V_seq ?_ | refine V_block ?_ | refine V_skip ?_ | refine V_ret ?_ | refine V_exit ?_) | ((with_reducible refine V_cond ?_); simp only [go_sem, simprocAttr]) | ((first | refine V_region (by rw [hn]; rfl) ?_ | refine V_drawn hmix (by rw [hn]; rfl) ?_); intro K hK) | ((first | with_reducible refine evOps_n ?_ | ((with_reducible apply evOps_g); rfl) | with_reducible refine evOpsD_n ?_ | ((with_reducible apply evOpsD_g); rfl)); intro K hK; simp (contextual := true) only [go_sem, simprocAttr]) | with_reducible refine evOps_nil ?_ | ((with_reducible refine evOpsD_nil ?_ ?_); kernel_rfl) | ((with_reducible refine hK _ ?_); clear hK K) | (with_reducible first | refine And.intro ?_ ?_ | refine nxt_n ?_ | refine nxt_r ?_ | refine nxt_e ?_ | refine blk_n ?_ | refine blk_r ?_ | refine blk_same ?_ | refine blk_other (by decide) ?_ | refine noG_n ?_ | refine noG_r ?_ | refine noG_e ?_ | refine inR_mk ?_ ?_) | ((with_reducible refine evCall_at 88 ?_); refine EvCall.mk (hcn) cal_l06Constant [(0,2),(1,3),(2,4),(3,5),(4,6),(5,7),(6,8),(7,9),(8,10),(9,11)] [] (by simp [go_sem] <;> (repeat' (first | rfl | constructor))) (by simp [go_sem] <;> (repeat' (first | rfl | constructor))) ?_; all_goals try simp only [go_sem, simprocAttr]) | ((with_reducible refine evCall_at 87 ?_); refine EvCall.mk (hfi) cal_l07Find [(0,12)] [2,3,4,5,6,7,8,9,10,11] (by simp [go_sem] <;> (repeat' (first | rfl | constructor))) (by simp [go_sem] <;> (repeat' (first | rfl | constructor))) ?_; all_goals try simp only [go_sem, simprocAttr]) | (refine fun (hc : (_ : Bool) = _) => ?_; try simp only [hcS] at hc))
      all_goals try exact om_
      refine V_loopK (G := {j : Nat // j ≤ N.length ∧ (True)}) (fun ⟨j, _⟩ => [(6, iv j), (3, .sl 1), (4, iv x), (5, .sl 12), (25, .agg [iv g.src.ob, .sl 2, .sl 3, .sl 4, .sl 5, iv g.tgt.ob, .sl 6, .sl 7, .sl 8, .sl 9, .sl 10, .sl 11])]) [1, 2, 14, 15, 16] (fun ⟨j, _⟩ => [(1, ⟨1, .arr (conesD (conL g x ++ (N.take j).map fun t => (⟨x, t⟩ : Cone)))⟩), (12, ⟨1, .arr (undD j (N.drop j))⟩)]) [1, 12] (fun zz => N.length - zz.1) ⟨0, Nat.zero_le _, by first | trivial | simp⟩ ?_ ?_
      · exact Imp.auto hX (by simp [go_sem, simprocAttr, List.take_zero, List.map_nil, List.append_nil, List.drop_zero, und_zero])
      rintro ⟨j, hij, hwj⟩
      simp only [go_sem, simprocAttr]
      have hcl : (conL g x ++ (N.take j).map fun t => (⟨x, t⟩ : Cone)).length = (conL g x).length + j := by rw [List.length_append, List.length_map, List.length_take]; omega
      rcases Nat.lt_or_ge j N.length with hlj | hgj
      · obtain ⟨r, R, hr⟩ : ∃ r R, N.drop j = r :: R := ⟨_, _, List.drop_eq_getElem_cons hlj⟩
        have hR : N.drop (j + 1) = R := by
          have h := congrArg List.tail hr
          rwa [List.tail_drop] at h
        have hRl : N.length = j + (R.length + 1) := by
          have h := congrArg List.length hr
          rw [List.length_drop, List.length_cons] at h
          omega
        have htk : N.take (j + 1) = N.take j ++ [r] := by
          have h := List.drop_eq_getElem_cons hlj
          rw [hr] at h
          injection h with h
          rw [List.take_succ_eq_append_getElem hlj, ← h]
        rw [hr]
        repeat' (first | (refine V_at 9 (Imp.open_ 12 j _ [] (.inr ⟨rfl, rfl⟩) (Nat.le_refl 1) (by rw [und_nc, List.length_cons]; omega) rfl (by rw [und_at]; rfl) rfl) ?_; rw [und_at]) | (refine V_at 8 (Imp.forgetU 12 j 13 _ r R rfl) ?_) | (with_reducible first | refine V_seq ?_ | refine V_block ?_ | refine V_skip ?_ | refine V_ret ?_ | refine V_exit ?_) | ((with_reducible refine V_cond ?_); simp only [go_sem, simprocAttr]) | ((first | refine V_region (by rw [hn]; rfl) ?_ | refine V_drawn hmix (by rw [hn]; rfl) ?_); intro K hK) | ((first | with_reducible refine evOps_n ?_ | ((with_reducible apply evOps_g); rfl) | with_reducible refine evOpsD_n ?_ | ((with_reducible apply evOpsD_g); rfl)); intro K hK; simp (contextual := true) only [go_sem, simprocAttr]) | with_reducible refine evOps_nil ?_ | ((with_reducible refine evOpsD_nil ?_ ?_); kernel_rfl) | ((with_reducible refine hK _ ?_); clear hK K) | (with_reducible first | refine And.intro ?_ ?_ | refine nxt_n ?_ | refine nxt_r ?_ | refine nxt_e ?_ | refine blk_n ?_ | refine blk_r ?_ | refine blk_same ?_ | refine blk_other (by decide) ?_ | refine noG_n ?_ | refine noG_r ?_ | refine noG_e ?_ | refine inR_mk ?_ ?_) | (refine fun (hc : (_ : Bool) = _) => ?_; try simp only [hcS] at hc))
        all_goals try exact om_
        · refine ⟨⟨j + 1, by omega, (by trivial)⟩, by simp only; omega, Imp.auto hX (by simp only [go_sem, simprocAttr, hR, htk, List.map_append, List.map_cons, List.map_nil, ← List.append_assoc])⟩
      · have ej : j = N.length := by omega
        subst ej
        rw [List.take_length]
        have hdn : N.drop N.length = [] := List.drop_length
        rw [hdn]
        repeat' (first | (with_reducible first | refine V_seq ?_ | refine V_block ?_ | refine V_skip ?_ | refine V_ret ?_ | refine V_exit ?_) | ((with_reducible refine V_cond ?_); simp only [go_sem, simprocAttr]) | ((first | refine V_region (by rw [hn]; rfl) ?_ | refine V_drawn hmix (by rw [hn]; rfl) ?_); intro K hK) | ((first | with_reducible refine evOps_n ?_ | ((with_reducible apply evOps_g); rfl) | with_reducible refine evOpsD_n ?_ | ((with_reducible apply evOpsD_g); rfl)); intro K hK; simp (contextual := true) only [go_sem, simprocAttr]) | with_reducible refine evOps_nil ?_ | ((with_reducible refine evOpsD_nil ?_ ?_); kernel_rfl) | ((with_reducible refine hK _ ?_); clear hK K) | (with_reducible first | refine And.intro ?_ ?_ | refine nxt_n ?_ | refine nxt_r ?_ | refine nxt_e ?_ | refine blk_n ?_ | refine blk_r ?_ | refine blk_same ?_ | refine blk_other (by decide) ?_ | refine noG_n ?_ | refine noG_r ?_ | refine noG_e ?_ | refine inR_mk ?_ ?_) | (refine fun (hc : (_ : Bool) = _) => ?_; try simp only [hcS] at hc))
        all_goals try exact om_
        · refine ⟨⟨x + 1, by omega, (by trivial)⟩, by simp only; omega, Imp.auto hX (by simp only [go_sem, simprocAttr, hTn])⟩
    · have e : (conA g).take 401 = (conL g x).take 401 := by
        obtain ⟨R, hR⟩ := conL_pre (g := g) (show x ≤ g.tgt.ob.toNat by omega)
        rw [show conA g = conL g g.tgt.ob.toNat from rfl, hR]
        exact take_full (m := 400) (by show 400 < (List.take 401 (conL g x)).length; omega)
      have h4m := h4
      rw [List.length_take] at h4m
      rw [e]
      repeat' (first | (exfalso; omega) | (with_reducible first | refine V_seq ?_ | refine V_block ?_ | refine V_skip ?_ | refine V_ret ?_ | refine V_exit ?_) | ((with_reducible refine V_cond ?_); simp only [go_sem, simprocAttr]) | ((first | refine V_region (by rw [hn]; rfl) ?_ | refine V_drawn hmix (by rw [hn]; rfl) ?_); intro K hK) | ((first | with_reducible refine evOps_n ?_ | ((with_reducible apply evOps_g); rfl) | with_reducible refine evOpsD_n ?_ | ((with_reducible apply evOpsD_g); rfl)); intro K hK; simp (contextual := true) only [go_sem, simprocAttr]) | with_reducible refine evOps_nil ?_ | ((with_reducible refine evOpsD_nil ?_ ?_); kernel_rfl) | ((with_reducible refine hK _ ?_); clear hK K) | (with_reducible first | refine And.intro ?_ ?_ | refine nxt_n ?_ | refine nxt_r ?_ | refine nxt_e ?_ | refine blk_n ?_ | refine blk_r ?_ | refine blk_same ?_ | refine blk_other (by decide) ?_ | refine noG_n ?_ | refine noG_r ?_ | refine noG_e ?_ | refine inR_mk ?_ ?_) | (refine fun (hc : (_ : Bool) = _) => ?_; try simp only [hcS] at hc))
      all_goals try exact om_
      · (first | refine ret_auto ?_ | refine ret_auto' ?_); simp only [go_sem, simprocAttr, Tryz.f74]
  · have ex : x = g.tgt.ob.toNat := by omega
    subst ex
    repeat' (first | (with_reducible first | refine V_seq ?_ | refine V_block ?_ | refine V_skip ?_ | refine V_ret ?_ | refine V_exit ?_) | ((with_reducible refine V_cond ?_); simp only [go_sem, simprocAttr]) | ((first | refine V_region (by rw [hn]; rfl) ?_ | refine V_drawn hmix (by rw [hn]; rfl) ?_); intro K hK) | ((first | with_reducible refine evOps_n ?_ | ((with_reducible apply evOps_g); rfl) | with_reducible refine evOpsD_n ?_ | ((with_reducible apply evOpsD_g); rfl)); intro K hK; simp (contextual := true) only [go_sem, simprocAttr]) | with_reducible refine evOps_nil ?_ | ((with_reducible refine evOpsD_nil ?_ ?_); kernel_rfl) | ((with_reducible refine hK _ ?_); clear hK K) | (with_reducible first | refine And.intro ?_ ?_ | refine nxt_n ?_ | refine nxt_r ?_ | refine nxt_e ?_ | refine blk_n ?_ | refine blk_r ?_ | refine blk_same ?_ | refine blk_other (by decide) ?_ | refine noG_n ?_ | refine noG_r ?_ | refine noG_e ?_ | refine inR_mk ?_ ?_) | (refine fun (hc : (_ : Bool) = _) => ?_; try simp only [hcS] at hc))
    all_goals try exact om_
    all_goals ((first | refine ret_auto ?_ | refine ret_auto' ?_); simp only [go_sem, simprocAttr, Tryz.f74]; rfl)
end Go.Eng
end
section
namespace Go.Eng
open Go Go.Proofs Go.Cats
attribute [local go_sem] List.set_cons_zero List.set_cons_succ
theorem cal_spec_AllFunctors : Callable Tryz.prog 16 := ⟨_, Tryz.func16, rfl, rfl⟩
theorem sp_spec_AllFunctors_o {c d : Cat} {r : Sv} {L1 : List (Nat × Rs)} (sc : IsCat c) (sd : IsCat d) (bc : CatB c) (bd : CatB d) (ho : AfO c d r L1) : Spec Tryz.prog 16 [catV c, catV d] [] r L1 := by
  have hsm := sp_l06Small sc.toShape sd.toShape
  have hall := sp_l06All sc sd bc bd
  rw [show funL c d = (fcL c d).take 201 from rfl] at hall
  have v1 := sp_l02Is_v bc (dec_t sc)
  have v2 := sp_l02Is_v bd (dec_t sd)
  have hlt : ((fcL c d).take 201).length ≤ 201 := by rw [List.length_take]; omega
  by_cases hM : MovP c d
  · rw [dec_t hM] at hsm
    rcases ho with ⟨⟨_, h2⟩, rfl, rfl⟩ | ⟨h2, rfl, rfl⟩
    · rw [List.take_of_length_le (by omega)] at hall
      refine spec_of_V (E := TE) 0 Tryz.func16 rfl (by simp [Tryz.f16]) fun X hn hX => ?_
      repeat' (first | (with_reducible first | refine V_seq ?_ | refine V_skip ?_ | refine V_ret ?_) | ((with_reducible refine V_cond ?_); simp only [go_sem, simprocAttr]) | ((refine V_region (by rw [hn]; rfl) ?_); intro K hK) | ((first | with_reducible refine evOps_n ?_ | ((with_reducible apply evOps_g); rfl)); intro K hK; simp (contextual := true) only [go_sem, simprocAttr]) | with_reducible refine evOps_nil ?_ | ((with_reducible refine hK _ ?_); clear hK K) | (with_reducible first | refine And.intro ?_ ?_ | refine nxt_n ?_ | refine nxt_r ?_ | refine inR_mk ?_ ?_) | ((with_reducible refine (id ?_ : EvCall _ _ [.agg [iv c.ob,_,_,_,_]] _ _)); refine EvCall.mk (v1) cal_l02Is [] [] (by simp [go_sem] <;> (repeat' (first | rfl | constructor))) (by simp [go_sem] <;> (repeat' (first | rfl | constructor))) ?_; all_goals try simp only [go_sem, simprocAttr]) | ((with_reducible refine (id ?_ : EvCall _ _ [.agg [iv d.ob,_,_,_,_]] _ _)); refine EvCall.mk (v2) cal_l02Is [] [] (by simp [go_sem] <;> (repeat' (first | rfl | constructor))) (by simp [go_sem] <;> (repeat' (first | rfl | constructor))) ?_; all_goals try simp only [go_sem, simprocAttr]) | ((with_reducible refine evCall_at 31 ?_); refine EvCall.mk (hsm) cal_l06Small [] [] (by simp [go_sem] <;> (repeat' (first | rfl | constructor))) (by simp [go_sem] <;> (repeat' (first | rfl | constructor))) ?_; all_goals try simp only [go_sem, simprocAttr]) | ((with_reducible refine evCall_at 32 ?_); refine EvCall.mk (hall) cal_l06All [(0,2)] [] (by simp [go_sem] <;> (repeat' (first | rfl | constructor))) (by simp [go_sem] <;> (repeat' (first | rfl | constructor))) ?_; all_goals try simp only [go_sem, simprocAttr]) | (refine fun (hc : (_ : Bool) = _) => ?_; try simp only [hcS] at hc))
      all_goals try exact om_
      all_goals ((first | refine ret_auto ?_ | refine ret_auto' ?_); simp only [go_sem, simprocAttr, Tryz.f16])
    · have h3 : ¬ (fcL c d).length ≤ 200 := fun q => h2 ⟨hM, q⟩
      have h4 : ((fcL c d).take 201).length = 201 := by rw [List.length_take]; omega
      refine spec_of_V (E := TE) 0 Tryz.func16 rfl (by simp [Tryz.f16]) fun X hn hX => ?_
      repeat' (first | (with_reducible first | refine V_seq ?_ | refine V_skip ?_ | refine V_ret ?_) | ((with_reducible refine V_cond ?_); simp only [go_sem, simprocAttr]) | ((refine V_region (by rw [hn]; rfl) ?_); intro K hK) | ((first | with_reducible refine evOps_n ?_ | ((with_reducible apply evOps_g); rfl)); intro K hK; simp (contextual := true) only [go_sem, simprocAttr]) | with_reducible refine evOps_nil ?_ | ((with_reducible refine hK _ ?_); clear hK K) | (with_reducible first | refine And.intro ?_ ?_ | refine nxt_n ?_ | refine nxt_r ?_ | refine inR_mk ?_ ?_) | ((with_reducible refine (id ?_ : EvCall _ _ [.agg [iv c.ob,_,_,_,_]] _ _)); refine EvCall.mk (v1) cal_l02Is [] [] (by simp [go_sem] <;> (repeat' (first | rfl | constructor))) (by simp [go_sem] <;> (repeat' (first | rfl | constructor))) ?_; all_goals try simp only [go_sem, simprocAttr]) | ((with_reducible refine (id ?_ : EvCall _ _ [.agg [iv d.ob,_,_,_,_]] _ _)); refine EvCall.mk (v2) cal_l02Is [] [] (by simp [go_sem] <;> (repeat' (first | rfl | constructor))) (by simp [go_sem] <;> (repeat' (first | rfl | constructor))) ?_; all_goals try simp only [go_sem, simprocAttr]) | ((with_reducible refine evCall_at 31 ?_); refine EvCall.mk (hsm) cal_l06Small [] [] (by simp [go_sem] <;> (repeat' (first | rfl | constructor))) (by simp [go_sem] <;> (repeat' (first | rfl | constructor))) ?_; all_goals try simp only [go_sem, simprocAttr]) | ((with_reducible refine evCall_at 32 ?_); refine EvCall.mk (hall) cal_l06All [(0,2)] [] (by simp [go_sem] <;> (repeat' (first | rfl | constructor))) (by simp [go_sem] <;> (repeat' (first | rfl | constructor))) ?_; all_goals try simp only [go_sem, simprocAttr]) | (refine fun (hc : (_ : Bool) = _) => ?_; try simp only [hcS] at hc))
      all_goals try exact om_
      all_goals ((first | refine ret_auto ?_ | refine ret_auto' ?_); simp only [go_sem, simprocAttr, Tryz.f16])
  · rw [dec_f hM] at hsm
    rcases ho with ⟨⟨h2, _⟩, _, _⟩ | ⟨h2, rfl, rfl⟩
    · exact absurd h2 hM
    · refine spec_of_V (E := TE) 0 Tryz.func16 rfl (by simp [Tryz.f16]) fun X hn hX => ?_
      repeat' (first | (with_reducible first | refine V_seq ?_ | refine V_skip ?_ | refine V_ret ?_) | ((with_reducible refine V_cond ?_); simp only [go_sem, simprocAttr]) | ((refine V_region (by rw [hn]; rfl) ?_); intro K hK) | ((first | with_reducible refine evOps_n ?_ | ((with_reducible apply evOps_g); rfl)); intro K hK; simp (contextual := true) only [go_sem, simprocAttr]) | with_reducible refine evOps_nil ?_ | ((with_reducible refine hK _ ?_); clear hK K) | (with_reducible first | refine And.intro ?_ ?_ | refine nxt_n ?_ | refine nxt_r ?_ | refine inR_mk ?_ ?_) | ((with_reducible refine (id ?_ : EvCall _ _ [.agg [iv c.ob,_,_,_,_]] _ _)); refine EvCall.mk (v1) cal_l02Is [] [] (by simp [go_sem] <;> (repeat' (first | rfl | constructor))) (by simp [go_sem] <;> (repeat' (first | rfl | constructor))) ?_; all_goals try simp only [go_sem, simprocAttr]) | ((with_reducible refine (id ?_ : EvCall _ _ [.agg [iv d.ob,_,_,_,_]] _ _)); refine EvCall.mk (v2) cal_l02Is [] [] (by simp [go_sem] <;> (repeat' (first | rfl | constructor))) (by simp [go_sem] <;> (repeat' (first | rfl | constructor))) ?_; all_goals try simp only [go_sem, simprocAttr]) | ((with_reducible refine evCall_at 31 ?_); refine EvCall.mk (hsm) cal_l06Small [] [] (by simp [go_sem] <;> (repeat' (first | rfl | constructor))) (by simp [go_sem] <;> (repeat' (first | rfl | constructor))) ?_; all_goals try simp only [go_sem, simprocAttr]) | (refine fun (hc : (_ : Bool) = _) => ?_; try simp only [hcS] at hc))
      all_goals try exact om_
      all_goals ((first | refine ret_auto ?_ | refine ret_auto' ?_); simp only [go_sem, simprocAttr, Tryz.f16])
def LiO (g : Fun) (r : Sv) (L1 : List (Nat × Rs)) : Prop :=
  ((conA g).length ≤ 400 ∧ r = .tup [.sl 0, iv 0] ∧ L1 = [(0, ⟨1, .arr (conesD (conA g))⟩)]) ∨ (¬ (conA g).length ≤ 400 ∧ r = .tup [.v (.slice none 0 0), iv 3] ∧ L1 = [])
theorem cal_l12List : Callable Tryz.prog 52 := ⟨_, Tryz.func52, rfl, rfl⟩
theorem sp_l12List_o {g : Fun} {r : Sv} {L1 : List (Nat × Rs)} (hg : IsFun g) (ho : LiO g r L1) : Spec Tryz.prog 52 [funV g] [] r L1 := by
  have hc := sp_l12Cones hg
  have hlt : ((conA g).take 401).length ≤ 401 := by rw [List.length_take]; omega
  rcases ho with ⟨h, rfl, rfl⟩ | ⟨h, rfl, rfl⟩
  · rw [List.take_of_length_le (by omega)] at hc
    refine spec_of_V (E := TE) 0 Tryz.func52 rfl (by simp [Tryz.f52]) fun X hn hX => ?_
    repeat' (first | (with_reducible first | refine V_seq ?_ | refine V_skip ?_ | refine V_ret ?_) | ((with_reducible refine V_cond ?_); simp only [go_sem, simprocAttr]) | ((refine V_region (by rw [hn]; rfl) ?_); intro K hK) | ((first | with_reducible refine evOps_n ?_ | ((with_reducible apply evOps_g); rfl)); intro K hK; simp (contextual := true) only [go_sem, simprocAttr]) | with_reducible refine evOps_nil ?_ | ((with_reducible refine hK _ ?_); clear hK K) | (with_reducible first | refine And.intro ?_ ?_ | refine nxt_n ?_ | refine nxt_r ?_ | refine inR_mk ?_ ?_) | ((with_reducible refine evCall_at 74 ?_); refine EvCall.mk (hc) cal_l12Cones [(0,1)] [] (by simp [go_sem] <;> (repeat' (first | rfl | constructor))) (by simp [go_sem] <;> (repeat' (first | rfl | constructor))) ?_; all_goals try simp only [go_sem, simprocAttr]) | (refine fun (hc : (_ : Bool) = _) => ?_; try simp only [hcS] at hc))
    all_goals try exact om_
    all_goals ((first | refine ret_auto ?_ | refine ret_auto' ?_); simp only [go_sem, simprocAttr, Tryz.f52])
  · have h4 : ((conA g).take 401).length = 401 := by rw [List.length_take]; omega
    refine spec_of_V (E := TE) 0 Tryz.func52 rfl (by simp [Tryz.f52]) fun X hn hX => ?_
    repeat' (first | (with_reducible first | refine V_seq ?_ | refine V_skip ?_ | refine V_ret ?_) | ((with_reducible refine V_cond ?_); simp only [go_sem, simprocAttr]) | ((refine V_region (by rw [hn]; rfl) ?_); intro K hK) | ((first | with_reducible refine evOps_n ?_ | ((with_reducible apply evOps_g); rfl)); intro K hK; simp (contextual := true) only [go_sem, simprocAttr]) | with_reducible refine evOps_nil ?_ | ((with_reducible refine hK _ ?_); clear hK K) | (with_reducible first | refine And.intro ?_ ?_ | refine nxt_n ?_ | refine nxt_r ?_ | refine inR_mk ?_ ?_) | ((with_reducible refine evCall_at 74 ?_); refine EvCall.mk (hc) cal_l12Cones [(0,1)] [] (by simp [go_sem] <;> (repeat' (first | rfl | constructor))) (by simp [go_sem] <;> (repeat' (first | rfl | constructor))) ?_; all_goals try simp only [go_sem, simprocAttr]) | (refine fun (hc : (_ : Bool) = _) => ?_; try simp only [hcS] at hc))
    all_goals try exact om_
    all_goals ((first | refine ret_auto ?_ | refine ret_auto' ?_); simp only [go_sem, simprocAttr, Tryz.f52])
theorem cal_l14Both : Callable Tryz.prog 33 := ⟨_, Tryz.func33, rfl, rfl⟩
theorem sp_l14Both_yes {d e : Fun} (hd : IsFun d) (he : IsFun e) (l1 : (conA d).length ≤ 400) (l2 : (conA e).length ≤ 400) : Spec Tryz.prog 33 [funV d, funV e] [] (.tup [.sl 0, .sl 1, iv 0]) [(0, ⟨1, .arr (conesD (conA d))⟩), (1, ⟨1, .arr (conesD (conA e))⟩)] := by
  have h1 := sp_l12List_o hd (.inl ⟨l1, rfl, rfl⟩)
  have h2 := sp_l12List_o he (.inl ⟨l2, rfl, rfl⟩)
  refine spec_of_V (E := TE) 0 Tryz.func33 rfl (by simp [Tryz.f33]) fun X hn hX => ?_
  repeat' (first | (with_reducible first | refine V_seq ?_ | refine V_skip ?_ | refine V_ret ?_) | ((with_reducible refine V_cond ?_); simp only [go_sem, simprocAttr]) | ((refine V_region (by rw [hn]; rfl) ?_); intro K hK) | ((first | with_reducible refine evOps_n ?_ | ((with_reducible apply evOps_g); rfl)); intro K hK; simp (contextual := true) only [go_sem, simprocAttr]) | with_reducible refine evOps_nil ?_ | ((with_reducible refine hK _ ?_); clear hK K) | (with_reducible first | refine And.intro ?_ ?_ | refine nxt_n ?_ | refine nxt_r ?_ | refine inR_mk ?_ ?_) | ((with_reducible refine (id ?_ : EvCall _ _ [.agg [_,_,_,_,_,_,_,_,_,_,.bor [] (ints d.obs),_]] _ _)); refine EvCall.mk (h1) cal_l12List [(0,2)] [] (by simp [go_sem] <;> (repeat' (first | rfl | constructor))) (by simp [go_sem] <;> (repeat' (first | rfl | constructor))) ?_; all_goals try simp only [go_sem, simprocAttr]) | ((with_reducible refine (id ?_ : EvCall _ _ [.agg [_,_,_,_,_,_,_,_,_,_,.bor [] (ints e.obs),_]] _ _)); refine EvCall.mk (h2) cal_l12List [(0,3)] [] (by simp [go_sem] <;> (repeat' (first | rfl | constructor))) (by simp [go_sem] <;> (repeat' (first | rfl | constructor))) ?_; all_goals try simp only [go_sem, simprocAttr]) | (refine fun (hc : (_ : Bool) = _) => ?_; try simp only [hcS] at hc))
  all_goals try exact om_
  all_goals ((first | refine ret_auto ?_ | refine ret_auto' ?_); simp only [go_sem, simprocAttr, Tryz.f33])
theorem sp_l14Both_no {d e : Fun} (hd : IsFun d) (he : IsFun e) (hl : ¬ ((conA d).length ≤ 400 ∧ (conA e).length ≤ 400)) : Spec Tryz.prog 33 [funV d, funV e] [] (.tup [.v (.slice none 0 0), .v (.slice none 0 0), iv 3]) [] := by
  by_cases l1 : (conA d).length ≤ 400
  · have h1 := sp_l12List_o hd (.inl ⟨l1, rfl, rfl⟩)
    have h2 := sp_l12List_o he (.inr ⟨fun l2 => hl ⟨l1, l2⟩, rfl, rfl⟩)
    refine spec_of_V (E := TE) 0 Tryz.func33 rfl (by simp [Tryz.f33]) fun X hn hX => ?_
    repeat' (first | (with_reducible first | refine V_seq ?_ | refine V_skip ?_ | refine V_ret ?_) | ((with_reducible refine V_cond ?_); simp only [go_sem, simprocAttr]) | ((refine V_region (by rw [hn]; rfl) ?_); intro K hK) | ((first | with_reducible refine evOps_n ?_ | ((with_reducible apply evOps_g); rfl)); intro K hK; simp (contextual := true) only [go_sem, simprocAttr]) | with_reducible refine evOps_nil ?_ | ((with_reducible refine hK _ ?_); clear hK K) | (with_reducible first | refine And.intro ?_ ?_ | refine nxt_n ?_ | refine nxt_r ?_ | refine inR_mk ?_ ?_) | ((with_reducible refine (id ?_ : EvCall _ _ [.agg [_,_,_,_,_,_,_,_,_,_,.bor [] (ints d.obs),_]] _ _)); refine EvCall.mk (h1) cal_l12List [(0,2)] [] (by simp [go_sem] <;> (repeat' (first | rfl | constructor))) (by simp [go_sem] <;> (repeat' (first | rfl | constructor))) ?_; all_goals try simp only [go_sem, simprocAttr]) | ((with_reducible refine (id ?_ : EvCall _ _ [.agg [_,_,_,_,_,_,_,_,_,_,.bor [] (ints e.obs),_]] _ _)); refine EvCall.mk (h2) cal_l12List [] [] (by simp [go_sem] <;> (repeat' (first | rfl | constructor))) (by simp [go_sem] <;> (repeat' (first | rfl | constructor))) ?_; all_goals try simp only [go_sem, simprocAttr]) | (refine fun (hc : (_ : Bool) = _) => ?_; try simp only [hcS] at hc))
    all_goals try exact om_
    all_goals ((first | refine ret_auto ?_ | refine ret_auto' ?_); simp only [go_sem, simprocAttr, Tryz.f33])
  · have h1 := sp_l12List_o hd (.inr ⟨l1, rfl, rfl⟩)
    by_cases l2 : (conA e).length ≤ 400
    · have h2 := sp_l12List_o he (.inl ⟨l2, rfl, rfl⟩)
      refine spec_of_V (E := TE) 0 Tryz.func33 rfl (by simp [Tryz.f33]) fun X hn hX => ?_
      repeat' (first | (with_reducible first | refine V_seq ?_ | refine V_skip ?_ | refine V_ret ?_) | ((with_reducible refine V_cond ?_); simp only [go_sem, simprocAttr]) | ((refine V_region (by rw [hn]; rfl) ?_); intro K hK) | ((first | with_reducible refine evOps_n ?_ | ((with_reducible apply evOps_g); rfl)); intro K hK; simp (contextual := true) only [go_sem, simprocAttr]) | with_reducible refine evOps_nil ?_ | ((with_reducible refine hK _ ?_); clear hK K) | (with_reducible first | refine And.intro ?_ ?_ | refine nxt_n ?_ | refine nxt_r ?_ | refine inR_mk ?_ ?_) | ((with_reducible refine (id ?_ : EvCall _ _ [.agg [_,_,_,_,_,_,_,_,_,_,.bor [] (ints d.obs),_]] _ _)); refine EvCall.mk (h1) cal_l12List [] [] (by simp [go_sem] <;> (repeat' (first | rfl | constructor))) (by simp [go_sem] <;> (repeat' (first | rfl | constructor))) ?_; all_goals try simp only [go_sem, simprocAttr]) | ((with_reducible refine (id ?_ : EvCall _ _ [.agg [_,_,_,_,_,_,_,_,_,_,.bor [] (ints e.obs),_]] _ _)); refine EvCall.mk (h2) cal_l12List [(0,2)] [] (by simp [go_sem] <;> (repeat' (first | rfl | constructor))) (by simp [go_sem] <;> (repeat' (first | rfl | constructor))) ?_; all_goals try simp only [go_sem, simprocAttr]) | (refine fun (hc : (_ : Bool) = _) => ?_; try simp only [hcS] at hc))
      all_goals try exact om_
      all_goals ((first | refine ret_auto ?_ | refine ret_auto' ?_); simp only [go_sem, simprocAttr, Tryz.f33])
    · have h2 := sp_l12List_o he (.inr ⟨l2, rfl, rfl⟩)
      refine spec_of_V (E := TE) 0 Tryz.func33 rfl (by simp [Tryz.f33]) fun X hn hX => ?_
      repeat' (first | (with_reducible first | refine V_seq ?_ | refine V_skip ?_ | refine V_ret ?_) | ((with_reducible refine V_cond ?_); simp only [go_sem, simprocAttr]) | ((refine V_region (by rw [hn]; rfl) ?_); intro K hK) | ((first | with_reducible refine evOps_n ?_ | ((with_reducible apply evOps_g); rfl)); intro K hK; simp (contextual := true) only [go_sem, simprocAttr]) | with_reducible refine evOps_nil ?_ | ((with_reducible refine hK _ ?_); clear hK K) | (with_reducible first | refine And.intro ?_ ?_ | refine nxt_n ?_ | refine nxt_r ?_ | refine inR_mk ?_ ?_) | ((with_reducible refine (id ?_ : EvCall _ _ [.agg [_,_,_,_,_,_,_,_,_,_,.bor [] (ints d.obs),_]] _ _)); refine EvCall.mk (h1) cal_l12List [] [] (by simp [go_sem] <;> (repeat' (first | rfl | constructor))) (by simp [go_sem] <;> (repeat' (first | rfl | constructor))) ?_; all_goals try simp only [go_sem, simprocAttr]) | ((with_reducible refine (id ?_ : EvCall _ _ [.agg [_,_,_,_,_,_,_,_,_,_,.bor [] (ints e.obs),_]] _ _)); refine EvCall.mk (h2) cal_l12List [] [] (by simp [go_sem] <;> (repeat' (first | rfl | constructor))) (by simp [go_sem] <;> (repeat' (first | rfl | constructor))) ?_; all_goals try simp only [go_sem, simprocAttr]) | (refine fun (hc : (_ : Bool) = _) => ?_; try simp only [hcS] at hc))
      all_goals try exact om_
      all_goals ((first | refine ret_auto ?_ | refine ret_auto' ?_); simp only [go_sem, simprocAttr, Tryz.f33])
end Go.Eng
end
