/- The engine, part PN: lists of lists whose rows have names, in a cell of a box; a part of a list that is lent. -/
import Derived.Test.YtgbjgeignbjjnaaEngPrq
set_option linter.unusedVariables false
set_option linter.unusedSimpArgs false
namespace Go.Eng
open Go Go.Cats
def rawssD (XX : List (List RawV)) : Dt := .sl 1 (.sl 1 (.v (.slice none 0 0)) []) (XX.map rawsD)
@[go_sem] theorem rawss_isSl (l) : (rawssD l).isSl = true := rfl
@[go_sem] theorem rawss_sz (l) : (rawssD l).sz = 1 := rfl
@[go_sem] theorem rawss_nc (l : List (List RawV)) : (rawssD l).nc = l.length := by simp [rawssD, Dt.nc, Dt.cells]
@[go_sem] theorem rawss_len (l : List (List RawV)) : (rawssD l).len = l.length := by simp [rawssD, Dt.len, Dt.sz, Dt.nc, Dt.cells]
@[go_sem] theorem rawss_at (l : List (List RawV)) (k : Nat) : (rawssD l).at k = rawsD (l.getD k []) := by
  simp [rawssD, Dt.at, Dt.cells, Dt.df, List.getD_eq_getElem?_getD]
  cases l[k]? <;> rfl
@[go_sem] theorem ofDt_rawss (ts) (l : List (List RawV)) : Sv.ofDt ts (rawssD l) = .bor ts (rawssD l) := rfl
structure NmL (l : List (List (List Int))) (XX : List (List RawV)) : Prop where
  len : XX.length = l.length
  row : ∀ a, a < l.length → (XX.getD a []).length = (l.getD a []).length
def PLn (l : List (List (List Int))) (XX : List (List RawV)) (w : World) (R : Nat → Prop) : Prop := ∀ a, a < l.length → ∀ y, y < (l.getD a []).length → RdV w R (ints ((l.getD a []).getD y [])) ((XX.getD a []).getD y default).x
theorem rd_namesL {w : World} {R : Nat → Prop} : ∀ {l : List (List (List Int))} {vs : List Value}, RdL w R (l.map intss) vs → ∃ XX, NmL l XX ∧ PLn l XX w R ∧ RdL w R (XX.map rawsD) vs
  | [], vs, h => ⟨[], ⟨rfl, fun a ha => by simp at ha⟩, fun a ha => by simp at ha, h⟩
  | L :: l, vs, h => by
    simp only [List.map_cons, RdL] at h
    obtain ⟨x, r, rfl, h1, h2⟩ := h
    obtain ⟨xs, n1, n2, n3⟩ := rd_names h1
    obtain ⟨XX, ⟨m1, m2⟩, m3, m4⟩ := rd_namesL h2
    refine ⟨xs :: XX, ⟨by simp [m1], fun a ha => ?_⟩, fun a ha y hy => ?_, ?_⟩
    · cases a with
      | zero => exact n1
      | succ a => exact m2 a (by simpa using ha)
    · cases a with
      | zero => exact n2 y hy
      | succ a => exact m3 a (by simpa using ha) y hy
    · simp only [List.map_cons, RdL]
      exact ⟨x, r, rfl, n3, m4⟩
theorem rd_namess {w : World} {R : Nat → Prop} {l : List (List (List Int))} {u : Value} (h : RdV w R (intsss l) u) : ∃ XX, NmL l XX ∧ PLn l XX w R ∧ RdV w R (rawssD XX) u := by
  unfold intsss at h
  simp only [RdV] at h
  obtain ⟨h0, ⟨e1, e2⟩ | ⟨g, off, sp, n, cap, vs, e1, e2, e3, e4, e5, e6, e7⟩⟩ := h
  · have hl : l = [] := by simpa using e2
    subst hl
    exact ⟨[], ⟨rfl, fun a ha => by simp at ha⟩, fun a ha => by simp at ha, by unfold rawssD; simp only [RdV]; exact ⟨h0, .inl ⟨e1, rfl⟩⟩⟩
  · obtain ⟨XX, m1, m2, m3⟩ := rd_namesL e6
    refine ⟨XX, m1, m2, ?_⟩
    unfold rawssD
    simp only [RdV]
    refine ⟨h0, .inr ⟨g, off, sp, n, cap, vs, e1, ?_, e3, e4, fun hne => e5 fun q => hne ?_, m3, e7⟩⟩
    · rw [e2, List.length_map, List.length_map, m1.len]
    · have hl : l = [] := by simpa using q
      have : XX = [] := List.length_eq_zero_iff.1 (by rw [m1.len, hl]; rfl)
      rw [this]; rfl
theorem V_nameCell {X : Cx} {E : Env} {σ : Ss} {Q : Exit → Ss → Prop} (id i k cv : Nat) {ls : Array Oper} {b : Bool} (cells : List Sv) (l : List (List (List Int))) (hi : rsL σ.rs i = ⟨cv, .box cells⟩) (hc : cells[k]? = some (.bor [] (intsss l)))
    (h : ∀ XX : List (List RawV), NmL l XX → PLn l XX X.w0 X.S → V X E (.region id ls b) ⟨σ.tm, (i, ⟨cv, .box (cells.set k (.bor [] (rawssD XX)))⟩) :: σ.rs, σ.nx⟩ Q) : V X E (.region id ls b) σ Q := by
  intro hE a w ⟨w1, U1, ds, hr, hd, hn, cn, hp, ht, hpin⟩
  have h1 := hp.res i
  rw [hi] at h1
  obtain ⟨q1, cur, e, q2, q3⟩ := h1
  obtain ⟨v, v1, v2⟩ := Sv.okL.get q3 hc
  have hRg : ∀ b, Reg X.S cn [] b → X.S b := fun b hb => by
    rcases hb with hb | ⟨p, hp, _⟩
    · exact hb
    · simp at hp
  have v2' := v2
  simp only [Sv.ok] at v2'
  obtain ⟨t1, t2, t3⟩ := v2'
  obtain ⟨XX, m1, m2, m3⟩ := rd_namess (t3 (fun p hp => (nomatch hp)))
  have ag : Agree X.S w X.w0 := fun b hb => ((hp.unch.mono hp.sub) b hb ▸ (hr.agree.mono hr.ssub) b hb ▸ rfl)
  obtain ⟨hp', hext⟩ := kind_core (X := X.at w1 U1 ds) (rs := rsL σ.rs) hp i (.box (cells.set k (.bor [] (rawssD XX)))) (fun _ => by rw [hi]; trivial) (by
    refine ⟨q1, cur, e, q2, ?_⟩
    have h3 := Sv.okL.set (k := k) (s := .bor [] (rawssD XX)) (x := v) q3 (by simp only [Sv.ok]; exact ⟨t1, t2, fun _ => m3⟩)
    have h4 : cur.toList.set k v = cur.toList := by
      apply List.ext_getElem?
      intro n
      rw [List.getElem?_set]
      split
      · rename_i hn'
        subst hn'
        split
        · exact v1.symm
        · rename_i hlt
          rw [List.getElem?_eq_none (by omega)]
      · rfl
    rwa [h4] at h3)
  rw [hi] at hp' hext
  refine h XX m1 (fun a ha y hy => RdV.frame ag _ _ (RdV.mono hRg _ _ (m2 a ha y hy))) hE a w ⟨w1, U1, ds, hr, hd, hn, cn, hp', fun s => Sv.ok_ext hext _ _ (ht s), fun j hj => ?_⟩
  obtain ⟨r1, r2, r3⟩ := hpin j hj
  exact ⟨Nat.le_trans r1 (hext.ver j), r2, r3⟩
section
variable {E : Env} {d : Option Nat} {σ : Ss} {K : Ss → Prop}
theorem sub_run {t e : TypeId} {eby : Nat} {ez : List Value} (hk : (E.ti t).k = .sli e 1 eby ez) (w : World) (a : Addr) (n cap : Nat) (k k' : IntKind) (l h : Int) (h0 : 0 ≤ l) (h1 : l ≤ h) (h2 : h ≤ n) (hc : n ≤ cap) :
    (Instr.sliceAt t (.slice (some a) n cap) (some (.int k l)) (some (.int k' h)) none).run E.P w = .ok (.slice (some (if cap = l.toNat then a else a.add l.toNat)) (h.toNat - l.toNat) (cap - l.toNat)) w := by
  have ho := E.ok t
  simp only [TiOk, hk] at ho
  obtain ⟨_, ht, i, z, hi, hsz, hby, hz, hzc⟩ := ho
  have e1 : 0 ≤ h := by omega
  have e2 : h ≤ (cap : Int) := by omega
  have e3 : l ≤ max h 0 := by omega
  simp [Instr.sliceAt, Instr.slice, Instr.sliceBounds, Instr.sliceBound, asIntOf, run_underlying ht, sizeOf, typeInfo, hi, h0, h1, hsz, e1, e2, e3]
  split <;> rfl
theorem sub_run_nil {t e : TypeId} {esz eby : Nat} {ez : List Value} (hk : (E.ti t).k = .sli e esz eby ez) (w : World) (k k' : IntKind) :
    (Instr.sliceAt t (.slice none 0 0) (some (.int k 0)) (some (.int k' 0)) none).run E.P w = .ok (.slice none 0 0) w := by
  have ho := E.ok t
  simp only [TiOk, hk] at ho
  obtain ⟨_, ht, i, z, hi, hsz, hby, hz, hzc⟩ := ho
  simp [Instr.sliceAt, Instr.slice, Instr.sliceBounds, Instr.sliceBound, asIntOf, run_underlying ht, sizeOf, typeInfo, hi]
theorem hook_sub {t e : TypeId} {eby : Nat} {ez : List Value} {x y z : Operand} {ts : List (Nat × Nat)} {k k' : IntKind} {n m : Int} {A : List Int} (hk : (E.ti t).k = .sli e 1 eby ez) (hx : σ.opd x = .bor ts (ints A)) (htv : TagV (rsL σ.rs) ts) (hy : σ.opd y = .v (.int k n)) (hz : σ.opd z = .v (.int k' m))
    (h0 : 0 ≤ n) (h1 : n ≤ m) (h2 : m ≤ A.length) (hK : K (σ.ap d (.bor ts (ints ((A.drop n.toNat).take (m.toNat - n.toNat)))) [] σ.nx)) : EvHook E d (.slice t x (some y) (some z) none) σ K := by
  refine ⟨ts.map (·.1), _, [], _, fun X o _ hd ho hdn tm rs g1 g2 => ?_, hK, fun j hj => .inl ?_⟩
  · have ex : opd tm x = σ.opd x := g1 x (by rw [ho]; simp [Op.operands])
    have ey : opd tm y = σ.opd y := g1 y (by rw [ho]; simp [Op.operands])
    have ez' : opd tm z = σ.opd z := g1 z (by rw [ho]; simp [Op.operands])
    have htv' : TagV rs ts := fun p hp => by
      rw [g2 p.1 (List.mem_map.2 ⟨p, hp, rfl⟩)]; exact htv p hp
    refine step_quiet (E := E) (by rw [hd]; exact hdn) fun ac w c hp h => ?_
    have hx1 := h x
    have hy1 := h y
    have hz1 := h z
    rw [ex, hx] at hx1
    rw [ey, hy] at hy1
    rw [ez', hz] at hz1
    simp only [Sv.ok] at hx1 hy1 hz1
    obtain ⟨tb, o1, hrd⟩ := hx1
    have hrd := hrd htv'
    unfold ints at hrd
    simp only [RdV] at hrd
    obtain ⟨_, ⟨e1, e2⟩ | ⟨g, off, sp, l, cap, vs, q1, q2, q3, q4, q5, q6, q7⟩⟩ := hrd
    · have hA : A = [] := by simpa using e2
      subst hA
      have hm0 : m = 0 := by simp at h2; omega
      have hn0 : n = 0 := by omega
      subst hn0 hm0
      refine ⟨.slice none 0 0, ?_, ?_⟩
      · simp [execOp, ho, hy1, hz1, e1, sub_run_nil hk]
      · simp only [Sv.ok]
        exact ⟨tb, rfl, fun _ => by simp [ints, RdV]⟩
    · have hm : l = A.length := by simpa using q2
      refine ⟨.slice (some (if cap = n.toNat then ⟨g, off, sp⟩ else (⟨g, off, sp⟩ : Addr).add n.toNat)) (m.toNat - n.toNat) (cap - n.toNat), ?_, ?_⟩
      · have := sub_run (E := E) hk w ⟨g, off, sp⟩ l cap k k' n m h0 h1 (by omega) q3
        simp [execOp, ho, hy1, hz1, q1, this]
      · simp only [Sv.ok]
        refine ⟨tb, rfl, fun _ => ?_⟩
        unfold ints
        simp only [RdV]
        refine ⟨by decide, .inr ?_⟩
        have hl := RdL.length q6
        have h5 : RdL w (Reg X.S c ts) (((A.drop n.toNat).take (m.toNat - n.toNat)).map fun x => Dt.v (.int .i64 x)) ((vs.drop n.toNat).take (m.toNat - n.toNat)) := by
          have := RdL.slice (A.map fun x => Dt.v (.int .i64 x)) vs n.toNat (m.toNat - n.toNat) q6
          rw [List.map_take, List.map_drop]
          exact this
        by_cases hA : (A.drop n.toNat).take (m.toNat - n.toNat) = []
        · rw [hA] at h5 ⊢
          have hz : m.toNat - n.toNat = 0 := by
            have := congrArg List.length hA
            rw [List.length_take, List.length_drop] at this
            simp at this
            omega
          obtain ⟨a', ha'⟩ : ∃ a' : Addr, (if cap = n.toNat then (⟨g, off, sp⟩ : Addr) else (⟨g, off, sp⟩ : Addr).add n.toNat) = a' := ⟨_, rfl⟩
          obtain ⟨g', off', sp'⟩ := a'
          rw [ha']
          refine ⟨g', off', sp', m.toNat - n.toNat, cap - n.toNat, (vs.drop n.toNat).take (m.toNat - n.toNat), rfl, by simp; omega, by omega, by omega, fun hne => absurd rfl hne, h5, fun j x hj => ?_⟩
          have : (vs.drop n.toNat).take (m.toNat - n.toNat) = [] := by simpa [RdL] using h5
          rw [this] at hj; cases hj
        · have hlt : n.toNat < A.length := by
            apply Classical.byContradiction
            intro hge
            exact hA (by rw [List.drop_eq_nil_of_le (by omega)]; simp)
          have hne : A ≠ [] := fun e => by rw [e] at hlt; simp at hlt
          obtain ⟨rfl, hg⟩ := q5 (by simpa using hne)
          rw [if_neg (by omega), Addr.add_plain]
          refine ⟨g, off + n.toNat, none, m.toNat - n.toNat, cap - n.toNat, (vs.drop n.toNat).take (m.toNat - n.toNat), rfl, by simp; omega, by omega, by omega, fun _ => ⟨rfl, hg⟩, h5, fun j x hj => ?_⟩
          rw [List.getElem?_take] at hj
          split at hj
          · rw [List.getElem?_drop] at hj
            have := q7 _ _ hj
            rwa [← Nat.add_assoc] at this
          · cases hj
  · obtain ⟨p, hp, rfl⟩ := List.mem_map.1 hj
    exact reach_self (by simp [Op.operands, hx, Sv.ids]; exact .inl ⟨p.2, hp⟩)
end
def profW (q : Prof) (XB XH : List (List RawV)) : List Dt := catD q.src ++ catD q.tgt ++ [intss q.sz, rawssD XB, rawssD XH]
def profWS (ts : List (Nat × Nat)) (p : Prof) (XB XH : List (List RawV)) : List Sv := [iv p.src.ob, .bor ts (ints p.src.fr), .bor ts (ints p.src.to), .bor ts (ints p.src.id), .bor ts (intss p.src.co),
  iv p.tgt.ob, .bor ts (ints p.tgt.fr), .bor ts (ints p.tgt.to), .bor ts (ints p.tgt.id), .bor ts (intss p.tgt.co), .bor ts (intss p.sz), .bor ts (rawssD XB), .bor ts (rawssD XH)]
section
variable (p : Prof) (XB XH : List (List RawV)) (ts : List (Nat × Nat))
@[go_sem] theorem profW_s : (profW p XB XH).take 5 = catD p.src := rfl
@[go_sem] theorem profW_t : ((profW p XB XH).drop 5).take 5 = catD p.tgt := rfl
@[go_sem] theorem profW_z : ((profW p XB XH).drop 10).take 1 = [intss p.sz] := rfl
@[go_sem] theorem profW_b : ((profW p XB XH).drop 11).take 1 = [rawssD XB] := rfl
@[go_sem] theorem profW_h : ((profW p XB XH).drop 12).take 1 = [rawssD XH] := rfl
@[go_sem] theorem profW_all : (profW p XB XH).take 13 = profW p XB XH := rfl
@[go_sem] theorem profW_l : (profW p XB XH).length = 13 := rfl
@[go_sem] theorem profW_map : (profW p XB XH).map (Sv.ofDt ts) = profWS ts p XB XH := rfl
attribute [go_sem] profWS
end
end Go.Eng
