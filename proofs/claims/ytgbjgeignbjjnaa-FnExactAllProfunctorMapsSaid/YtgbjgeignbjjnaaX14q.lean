/- The law's own functions on profunctors: copies, comparisons, marks. -/
import Derived.Test.YtgbjgeignbjjnaaX13q
set_option linter.unusedSimpArgs false
set_option linter.unusedVariables false
set_option maxRecDepth 100000
set_option maxHeartbeats 16000000
namespace Go.Eng
open Go Go.Proofs Go.Cats Go.ChangeShapes
structure PrT (p : Prof) : Prop where
  src : CatT p.src
  tgt : CatT p.tgt
  sz : (p.sz.length : Int) ≤ 9223372036854775807
  szr : ∀ a, a < p.sz.length → ((p.sz.getD a []).length : Int) ≤ 9223372036854775807
  bef : LLT p.bef
  beh : LLT p.beh
section
variable {H : Type} {enc : TypeId × Value → H} {w : World} {held : Bool} {cn : Nat → Cn} {rs : Nat → Rs}
theorem rd_prof {fuel : Nat} {cs : List Value} {x : DataW H × List MemPlace} (h : DataW.trod enc Try.prog w 0 (fun _ => true) held fuel 28 cs = some x) :
    ∃ p, PrT p ∧ ∀ cn rs, Sv.okL w (Old w) cn rs (profS [] p) cs := by
  obtain ⟨hl, m, hf⟩ := fld Try.underlying28 h
  have h15 : Try.prog.cellsOf 28 = 13 := by kernel_rfl
  have h7 : Try.prog.cellsOf 25 = 5 := by kernel_rfl
  have c1 : Try.prog.cellsOf 2 = 1 := by kernel_rfl
  have c2 : Try.prog.cellsOf 22 = 1 := by kernel_rfl
  have c3 : Try.prog.cellsOf 23 = 1 := by kernel_rfl
  have c4 : Try.prog.cellsOf 26 = 1 := by kernel_rfl
  rw [h15] at hl
  obtain ⟨y0, g0⟩ := hf 0 25 0 rfl
  obtain ⟨y1, g1⟩ := hf 1 25 5 rfl
  obtain ⟨y2, g2⟩ := hf 2 23 10 rfl
  obtain ⟨y3, g3⟩ := hf 3 26 11 rfl
  obtain ⟨y4, g4⟩ := hf 4 26 12 rfl
  rw [h7] at g0 g1; rw [c3] at g2; rw [c4] at g3 g4
  obtain ⟨a, ha, ka⟩ := rd_cat g0
  obtain ⟨b, hb, kb⟩ := rd_cat g1
  obtain ⟨u2, l2, k2, o2, r2, b2, b5, e2⟩ := rd_intss Try.underlying23 Try.underlying22 c2 Try.underlying2 c1 g2
  obtain ⟨u3, l3, k3, o3, r3, b3⟩ := rd_intsss Try.underlying26 Try.underlying23 c3 Try.underlying22 c2 Try.underlying2 c1 g3
  obtain ⟨u4, l4, k4, o4, r4, b4⟩ := rd_intsss Try.underlying26 Try.underlying23 c3 Try.underlying22 c2 Try.underlying2 c1 g4
  refine ⟨⟨a, b, l2, l3, l4⟩, ⟨ha, hb, b2, b5, b3, b4⟩, fun cn rs => ?_⟩
  have q : cs = (cs.drop 0).take 5 ++ ((cs.drop 5).take 5 ++ ([u2] ++ ([u3] ++ ([u4] ++ [])))) := by
    rw [← k2, ← k3, ← k4]
    have q0 := dropTake cs 0 5
    have q1 := dropTake cs 5 5
    have q2 := dropTake cs 10 1
    have q3 := dropTake cs 11 1
    have q4 := dropTake cs 12 1
    have q5 : cs.drop 13 = [] := List.drop_eq_nil_of_le (by omega)
    simp only [Nat.zero_add, Nat.reduceAdd] at q0 q1 q2 q3 q4
    rw [q5] at q4
    rw [← q4, ← q3, ← q2, ← q1, ← q0, List.drop_zero]
  rw [q]
  exact Sv.okL.append (l := catS [] a) (ka cn rs) (Sv.okL.append (l := catS [] b) (kb cn rs) (Sv.okL.append (l := [_]) (okL_bor o2 r2) (Sv.okL.append (l := [_]) (okL_bor o3 r3) (Sv.okL.append (l := [_]) (okL_bor o4 r4) (by simp [Sv.okL])))))
end
def intsssN (l : List (List (List Int))) (n : Nat) : Dt := .sl 1 (.sl 1 (.sl 1 (.v (.int .i64 0)) []) []) (l.map intss ++ List.replicate n (.v (.slice none 0 0)))
@[go_sem] theorem intsssN_isSl (l n) : (intsssN l n).isSl = true := rfl
@[go_sem] theorem intsssN_sz (l n) : (intsssN l n).sz = 1 := rfl
@[go_sem] theorem intsssN_nc (l : List (List (List Int))) (n : Nat) : (intsssN l n).nc = l.length + n := by simp [intsssN, Dt.nc, Dt.cells]
@[go_sem] theorem intsssN_len (l : List (List (List Int))) (n : Nat) : (intsssN l n).len = l.length + n := by simp [intsssN, Dt.len, Dt.sz, Dt.nc, Dt.cells]
@[go_sem] theorem intsssN_zero (l : List (List (List Int))) : intsssN l 0 = intsss l := by simp [intsssN, intsss]
@[go_sem] theorem intsssN_rep (n : Nat) : Dt.sl 1 (.sl 1 (.sl 1 (.v (.int .i64 0)) []) []) (List.replicate n (.v (.slice none 0 0))) = intsssN [] n := by simp [intsssN]
@[go_sem] theorem intsssN_rep' (n : Nat) : Dt.sl 1 (intss []) (List.replicate n (.v (.slice none 0 0))) = intsssN [] n := by simp [intsssN, intss]
theorem intsssN_put (l : List (List (List Int))) (n : Nat) (x : List (List Int)) : (intsssN l (n + 1)).put l.length (intss x) = intsssN (l ++ [x]) n := by
  simp [intsssN, Dt.put, Dt.cells, Dt.sz, Dt.df, List.replicate_succ]
theorem intsssN_step (l : List (List (List Int))) (i : Nat) (h : i < l.length) : (intsssN (l.take i) (l.length - i)).put i (intss (l.getD i [])) = intsssN (l.take (i + 1)) (l.length - (i + 1)) := by
  have e : (l.take i).length = i := by simp; omega
  have := intsssN_put (l.take i) (l.length - (i + 1)) (l.getD i [])
  rw [e] at this
  rw [take_getD (d := []) h, ← this, show l.length - (i + 1) + 1 = l.length - i by omega]
theorem cal_toInt64SSS : Callable Try.prog 22 := ⟨_, Try.func22, rfl, rfl⟩
theorem sp_toInt64SSS {l : List (List (List Int))} (h : LLB l) : Spec Try.prog 22 [.bor [] (intsss l)] [] (.sl 0) [(0, ⟨1, .arr (intsss l)⟩)] := by
  refine spec_of_V (E := TE) 0 Try.func22 rfl (by simp [Try.f22]) fun X hn hX => ?_
  obtain ⟨hl, hr, hs⟩ := h
  repeat' (first | (with_reducible first | refine V_seq ?_ | refine V_block ?_ | refine V_skip ?_ | refine V_ret ?_ | refine V_exit ?_) | ((with_reducible refine V_cond ?_); simp only [go_sem, simprocAttr]) | ((refine V_region (by rw [hn]; rfl) ?_); intro K hK) | ((first | with_reducible refine evOps_n ?_ | ((with_reducible apply evOps_g); rfl)); intro K hK; simp (contextual := true) only [go_sem, simprocAttr]) | with_reducible refine evOps_nil ?_ | ((with_reducible refine hK _ ?_); clear hK K) | (with_reducible first | refine And.intro ?_ ?_ | refine nxt_n ?_ | refine nxt_r ?_ | refine nxt_e ?_ | refine blk_n ?_ | refine blk_r ?_ | refine blk_same ?_ | refine blk_other (by decide) ?_ | refine noG_n ?_ | refine noG_r ?_ | refine noG_e ?_ | refine inR_mk ?_ ?_) | (refine fun (hc : (_ : Bool) = _) => ?_; try simp only [hcS] at hc))
  all_goals try exact om_
  refine V_loopK (G := {i : Nat // i ≤ l.length ∧ (True)}) (fun ⟨i, _⟩ => [(4, iv i), (3, .sl 0)]) [0, 2] (fun ⟨i, _⟩ => [(0, ⟨1, .arr (intsssN (l.take i) (l.length - i))⟩)]) [0] (fun zz => l.length - zz.1) ⟨0, Nat.zero_le _, by first | trivial | simp⟩ ?_ ?_
  · exact Imp.au hX
  rintro ⟨i, hii, hwi⟩
  simp only [go_sem, simprocAttr]
  rcases Nat.lt_or_ge i l.length with hli | hgi
  · have h1 := hr i hli
    have h3 := hs i hli
    have h2 : (l.take i).length = i := by simp; omega
    have h4 := intsssN_step l i hli
    repeat' (first | (with_reducible first | refine V_seq ?_ | refine V_block ?_ | refine V_skip ?_ | refine V_ret ?_ | refine V_exit ?_) | ((with_reducible refine V_cond ?_); simp only [go_sem, simprocAttr]) | ((refine V_region (by rw [hn]; rfl) ?_); intro K hK) | ((first | with_reducible refine evOps_n ?_ | ((with_reducible apply evOps_g); rfl)); intro K hK; simp (contextual := true) only [go_sem, simprocAttr]) | with_reducible refine evOps_nil ?_ | ((with_reducible refine hK _ ?_); clear hK K) | (with_reducible first | refine And.intro ?_ ?_ | refine nxt_n ?_ | refine nxt_r ?_ | refine nxt_e ?_ | refine blk_n ?_ | refine blk_r ?_ | refine blk_same ?_ | refine blk_other (by decide) ?_ | refine noG_n ?_ | refine noG_r ?_ | refine noG_e ?_ | refine inR_mk ?_ ?_) | ((with_reducible refine evCall_at 21 ?_); refine EvCall.rq (a := (sp_toInt64SS ?_ ?_)) (b := cal_toInt64SS) (c := ?_); all_goals try simp only [go_sem, simprocAttr]) | (refine fun (hc : (_ : Bool) = _) => ?_; try simp only [hcS] at hc))
    all_goals try exact om_
    · refine ⟨⟨i + 1, by omega, (by trivial)⟩, by simp only; omega, Imp.auto hX (by simp only [go_sem, simprocAttr, h4])⟩
  · have ei : i = l.length := by omega
    subst ei
    rw [List.take_length, Nat.sub_self, intsssN_zero]
    repeat' (first | (with_reducible first | refine V_seq ?_ | refine V_block ?_ | refine V_skip ?_ | refine V_ret ?_ | refine V_exit ?_) | ((with_reducible refine V_cond ?_); simp only [go_sem, simprocAttr]) | ((refine V_region (by rw [hn]; rfl) ?_); intro K hK) | ((first | with_reducible refine evOps_n ?_ | ((with_reducible apply evOps_g); rfl)); intro K hK; simp (contextual := true) only [go_sem, simprocAttr]) | with_reducible refine evOps_nil ?_ | ((with_reducible refine hK _ ?_); clear hK K) | (with_reducible first | refine And.intro ?_ ?_ | refine nxt_n ?_ | refine nxt_r ?_ | refine nxt_e ?_ | refine blk_n ?_ | refine blk_r ?_ | refine blk_same ?_ | refine blk_other (by decide) ?_ | refine noG_n ?_ | refine noG_r ?_ | refine noG_e ?_ | refine inR_mk ?_ ?_) | (refine fun (hc : (_ : Bool) = _) => ?_; try simp only [hcS] at hc))
    all_goals try exact om_
    (first | refine ret_auto ?_ | refine ret_auto' ?_); simp only [go_sem, simprocAttr, Try.f22]
theorem cal_toProfunctor : Callable Try.prog 6 := ⟨_, Try.func6, rfl, rfl⟩
theorem sp_toProfunctor {p : Prof} (hb : PrB p) : Spec Try.prog 6 [profV p] [] (.agg [iv p.src.ob, .sl 0, .sl 1, .sl 2, .sl 3, iv p.tgt.ob, .sl 4, .sl 5, .sl 6, .sl 7, .sl 8, .sl 9, .sl 10]) [(0, ⟨1, .arr (ints p.src.fr)⟩), (1, ⟨1, .arr (ints p.src.to)⟩), (2, ⟨1, .arr (ints p.src.id)⟩), (3, ⟨1, .arr (intss p.src.co)⟩), (4, ⟨1, .arr (ints p.tgt.fr)⟩), (5, ⟨1, .arr (ints p.tgt.to)⟩), (6, ⟨1, .arr (ints p.tgt.id)⟩), (7, ⟨1, .arr (intss p.tgt.co)⟩), (8, ⟨1, .arr (intss p.sz)⟩), (9, ⟨1, .arr (intsss p.bef)⟩), (10, ⟨1, .arr (intsss p.beh)⟩)] := by
  refine spec_of_V (E := TE) 0 Try.func6 rfl (by simp [Try.f6]) fun X hn hX => ?_
  obtain ⟨b1, b2, b3, b4, b5, b6⟩ := hb
  repeat' (first | (with_reducible first | refine V_seq ?_ | refine V_skip ?_ | refine V_ret ?_) | ((with_reducible refine V_cond ?_); simp only [go_sem, simprocAttr]) | ((refine V_region (by rw [hn]; rfl) ?_); intro K hK) | ((first | with_reducible refine evOps_n ?_ | ((with_reducible apply evOps_g); rfl)); intro K hK; simp (contextual := true) only [go_sem, simprocAttr]) | with_reducible refine evOps_nil ?_ | ((with_reducible refine hK _ ?_); clear hK K) | (with_reducible first | refine And.intro ?_ ?_ | refine nxt_n ?_ | refine nxt_r ?_ | refine inR_mk ?_ ?_) | ((with_reducible refine evCall_at 20 ?_); refine EvCall.rq (a := (sp_toCategory ?_)) (b := cal_toCategory) (c := ?_); all_goals try simp only [go_sem, simprocAttr]) | ((with_reducible refine evCall_at 21 ?_); refine EvCall.rq (a := (sp_toInt64SS ?_ ?_)) (b := cal_toInt64SS) (c := ?_); all_goals try simp only [go_sem, simprocAttr]) | ((with_reducible refine evCall_at 22 ?_); refine EvCall.rq (a := (sp_toInt64SSS ?_)) (b := cal_toInt64SSS) (c := ?_); all_goals try simp only [go_sem, simprocAttr]) | (refine fun (hc : (_ : Bool) = _) => ?_; try simp only [hcS] at hc))
  all_goals try exact om_
  (first | refine ret_auto ?_ | refine ret_auto' ?_); simp only [go_sem, simprocAttr, Try.f6]
theorem sp_eqInt64SSS_g {a b : List (List (List Int))} (ha : LLB a) (hb : LLB b) : Spec Try.prog 30 [.bor [] (intsss a), .bor [] (intsss b)] [] (bv (dec (a = b))) [] := by
  refine spec_of_V (E := TE) 0 Try.func30 rfl (by simp [Try.f30]) fun X hn hX => ?_
  have a1 := ha.l1
  have b1 := hb.l1
  repeat' (first | (with_reducible first | refine V_seq ?_ | refine V_block ?_ | refine V_skip ?_ | refine V_ret ?_ | refine V_exit ?_) | ((with_reducible refine V_cond ?_); simp only [go_sem, simprocAttr]) | ((first | refine V_region (by rw [hn]; rfl) ?_ | refine V_drawn hmix (by rw [hn]; rfl) ?_); intro K hK) | ((first | with_reducible refine evOps_n ?_ | ((with_reducible apply evOps_g); rfl) | with_reducible refine evOpsD_n ?_ | ((with_reducible apply evOpsD_g); rfl)); intro K hK; simp (contextual := true) only [go_sem, simprocAttr]) | with_reducible refine evOps_nil ?_ | ((with_reducible refine evOpsD_nil ?_ ?_); kernel_rfl) | ((with_reducible refine hK _ ?_); clear hK K) | (with_reducible first | refine And.intro ?_ ?_ | refine nxt_n ?_ | refine nxt_r ?_ | refine nxt_e ?_ | refine blk_n ?_ | refine blk_r ?_ | refine blk_same ?_ | refine blk_other (by decide) ?_ | refine noG_n ?_ | refine noG_r ?_ | refine noG_e ?_ | refine inR_mk ?_ ?_) | (refine fun (hc : (_ : Bool) = _) => ?_; try simp only [hcS] at hc))
  all_goals try exact om_
  · (first | refine ret_auto ?_ | refine ret_auto' ?_); simp only [go_sem, simprocAttr, Try.f30]
    exact bv_f (fun e => by subst e; omega)
  refine V_loopK (G := {i : Nat // i ≤ a.length ∧ (a.take i = b.take i)}) (fun ⟨i, _⟩ => [(5, iv i)]) [0, 1] (fun ⟨i, _⟩ => []) [] (fun zz => a.length - zz.1) ⟨0, Nat.zero_le _, by simp⟩ ?_ ?_
  · exact Imp.au hX
  rintro ⟨i, hii, hwi⟩
  simp only [go_sem, simprocAttr]
  rcases Nat.lt_or_ge i a.length with hlt | hge
  · have a2 := ha.l2 i hlt
    have a3 := ha.l3 i hlt
    have b2 := hb.l2 i (by omega)
    have b3 := hb.l3 i (by omega)
    repeat' (first | (with_reducible first | refine V_seq ?_ | refine V_block ?_ | refine V_skip ?_ | refine V_ret ?_ | refine V_exit ?_) | ((with_reducible refine V_cond ?_); simp only [go_sem, simprocAttr]) | ((first | refine V_region (by rw [hn]; rfl) ?_ | refine V_drawn hmix (by rw [hn]; rfl) ?_); intro K hK) | ((first | with_reducible refine evOps_n ?_ | ((with_reducible apply evOps_g); rfl) | with_reducible refine evOpsD_n ?_ | ((with_reducible apply evOpsD_g); rfl)); intro K hK; simp (contextual := true) only [go_sem, simprocAttr]) | with_reducible refine evOps_nil ?_ | ((with_reducible refine evOpsD_nil ?_ ?_); kernel_rfl) | ((with_reducible refine hK _ ?_); clear hK K) | (with_reducible first | refine And.intro ?_ ?_ | refine nxt_n ?_ | refine nxt_r ?_ | refine nxt_e ?_ | refine blk_n ?_ | refine blk_r ?_ | refine blk_same ?_ | refine blk_other (by decide) ?_ | refine noG_n ?_ | refine noG_r ?_ | refine noG_e ?_ | refine inR_mk ?_ ?_) | ((with_reducible refine evCall_at 32 ?_); refine EvCall.rq (a := (sp_eqInt64SS ?_ ?_ ?_ ?_)) (b := cal_eqInt64SS) (c := ?_); all_goals try simp only [go_sem, simprocAttr]) | (refine fun (hc : (_ : Bool) = _) => ?_; try simp only [hcS] at hc))
    all_goals try exact om_
    · (first | refine ret_auto ?_ | refine ret_auto' ?_); simp only [go_sem, simprocAttr, Try.f30]
      exact bv_f (fun e => by subst e; exact hc rfl)
    · refine ⟨⟨i + 1, by omega, (by exact take_snoc hwi (by omega) (by omega) hc)⟩, by simp only; omega, Imp.ao hX⟩
  · repeat' (first | (with_reducible first | refine V_seq ?_ | refine V_block ?_ | refine V_skip ?_ | refine V_ret ?_ | refine V_exit ?_) | ((with_reducible refine V_cond ?_); simp only [go_sem, simprocAttr]) | ((first | refine V_region (by rw [hn]; rfl) ?_ | refine V_drawn hmix (by rw [hn]; rfl) ?_); intro K hK) | ((first | with_reducible refine evOps_n ?_ | ((with_reducible apply evOps_g); rfl) | with_reducible refine evOpsD_n ?_ | ((with_reducible apply evOpsD_g); rfl)); intro K hK; simp (contextual := true) only [go_sem, simprocAttr]) | with_reducible refine evOps_nil ?_ | ((with_reducible refine evOpsD_nil ?_ ?_); kernel_rfl) | ((with_reducible refine hK _ ?_); clear hK K) | (with_reducible first | refine And.intro ?_ ?_ | refine nxt_n ?_ | refine nxt_r ?_ | refine nxt_e ?_ | refine blk_n ?_ | refine blk_r ?_ | refine blk_same ?_ | refine blk_other (by decide) ?_ | refine noG_n ?_ | refine noG_r ?_ | refine noG_e ?_ | refine inR_mk ?_ ?_) | (refine fun (hc : (_ : Bool) = _) => ?_; try simp only [hcS] at hc))
    all_goals try exact om_
    · (first | refine ret_auto ?_ | refine ret_auto' ?_); simp only [go_sem, simprocAttr, Try.f30]
      exact bv_t (take_end hwi (by omega) (by omega))
theorem Prof.same {f g : Prof} (h1 : f.src = g.src) (h2 : f.tgt = g.tgt) (h3 : f.sz = g.sz) (h4 : f.bef = g.bef) (h5 : f.beh = g.beh) : f = g := by cases f; cases g; simp_all
theorem cal_eqProfunctor : Callable Try.prog 9 := ⟨_, Try.func9, rfl, rfl⟩
theorem sp_eqProfunctor {f g : Prof} (hf : PrB f) (hg : PrB g) : Spec Try.prog 9 [profV f, profV g] [] (bv (dec (f = g))) [] := by
  refine spec_of_V (E := TE) 0 Try.func9 rfl (by simp [Try.f9]) fun X hn hX => ?_
  obtain ⟨a1, a2, a3, a4, a5, a6⟩ := hf
  obtain ⟨b1, b2, b3, b4, b5, b6⟩ := hg
  repeat' (first | (with_reducible first | refine V_seq ?_ | refine V_skip ?_ | refine V_ret ?_) | ((with_reducible refine V_cond ?_); simp only [go_sem, simprocAttr]) | ((refine V_region (by rw [hn]; rfl) ?_); intro K hK) | ((first | with_reducible refine evOps_n ?_ | ((with_reducible apply evOps_g); rfl)); intro K hK; simp (contextual := true) only [go_sem, simprocAttr]) | with_reducible refine evOps_nil ?_ | ((with_reducible refine hK _ ?_); clear hK K) | (with_reducible first | refine And.intro ?_ ?_ | refine nxt_n ?_ | refine nxt_r ?_ | refine inR_mk ?_ ?_) | ((with_reducible refine evCall_at 31 ?_); refine EvCall.rq (a := (sp_eqCategory ?_ ?_)) (b := cal_eqCategory) (c := ?_); all_goals try simp only [go_sem, simprocAttr]) | ((with_reducible refine evCall_at 32 ?_); refine EvCall.rq (a := (sp_eqInt64SS ?_ ?_ ?_ ?_)) (b := cal_eqInt64SS) (c := ?_); all_goals try simp only [go_sem, simprocAttr]) | ((with_reducible refine evCall_at 30 ?_); refine EvCall.rq (a := (sp_eqInt64SSS_g (by first | omega | assumption | rfl) (by first | omega | assumption | rfl))) (b := cal_eqInt64SSS) (c := ?_); all_goals try simp only [go_sem, simprocAttr]) | (refine fun (hc : (_ : Bool) = _) => ?_; try simp only [hcS] at hc))
  all_goals try exact om_
  all_goals try ((first | refine ret_auto ?_ | refine ret_auto' ?_); simp only [go_sem, simprocAttr, Try.f9]; exact bv_f (fun s => by subst s; contradiction))
  (first | refine ret_auto ?_ | refine ret_auto' ?_); simp only [go_sem, simprocAttr, Try.f9]
  exact bv_t (Prof.same (by assumption) (by assumption) (by assumption) (by assumption) (by assumption))
def prSz (p : Prof) : Nat := catSz p.src + catSz p.tgt + (p.sz.length + sumLen p.sz) + (p.bef.length + sz3 p.bef) + (p.beh.length + sz3 p.beh)
theorem PrT.b {p : Prof} (h : PrT p) (k : prSz p ≤ 1048576) : PrB p := by
  unfold prSz catSz at k
  have h0 := h.src.ob
  have h1 := h.tgt.ob
  unfold In64 at h0 h1
  exact ⟨⟨h0.1, h0.2, by omega, by omega, by omega, by omega, fun i hi => by have := sumLen_get p.src.co i hi; omega⟩, ⟨h1.1, h1.2, by omega, by omega, by omega, by omega, fun i hi => by have := sumLen_get p.tgt.co i hi; omega⟩,
    by omega, fun a ha => by have := sumLen_get p.sz a ha; omega, LLT.b (by omega), LLT.b (by omega)⟩
theorem cal_szProfunctor : Callable Try.prog 4 := ⟨_, Try.func4, rfl, rfl⟩
theorem sp_szProfunctor_yes {p : Prof} {k : Int} (h : (prSz p : Int) ≤ k) (hk : k ≤ 9223372036854775807) : Spec Try.prog 4 [profV p, iv k] [] (iv (k - prSz p)) [] := by
  unfold prSz at h ⊢
  refine spec_of_V (E := TE) 0 Try.func4 rfl (by simp [Try.f4]) fun X hn hX => ?_
  repeat' (first | (with_reducible first | refine V_seq ?_ | refine V_skip ?_ | refine V_ret ?_) | ((with_reducible refine V_cond ?_); simp only [go_sem, simprocAttr]) | ((refine V_region (by rw [hn]; rfl) ?_); intro K hK) | ((first | with_reducible refine evOps_n ?_ | ((with_reducible apply evOps_g); rfl)); intro K hK; simp (contextual := true) only [go_sem, simprocAttr]) | with_reducible refine evOps_nil ?_ | ((with_reducible refine hK _ ?_); clear hK K) | (with_reducible first | refine And.intro ?_ ?_ | refine nxt_n ?_ | refine nxt_r ?_ | refine inR_mk ?_ ?_) | ((with_reducible refine evCall_at 13 ?_); refine EvCall.rq (a := (sp_szCategory_ok (by first | omega | assumption | rfl) (by first | omega | assumption | rfl))) (b := cal_szCategory) (c := ?_); all_goals try simp only [go_sem, simprocAttr]) | ((with_reducible refine evCall_at 14 ?_); refine EvCall.rq (a := (sp_szInt64SS_ok (by first | omega | assumption | rfl) (by first | omega | assumption | rfl))) (b := cal_szInt64SS) (c := ?_); all_goals try simp only [go_sem, simprocAttr]) | ((with_reducible refine evCall_at 15 ?_); refine EvCall.rq (a := (sp_szInt64SSS_ok (by first | omega | assumption | rfl) (by first | omega | assumption | rfl))) (b := cal_szInt64SSS) (c := ?_); all_goals try simp only [go_sem, simprocAttr]) | (refine fun (hc : (_ : Bool) = _) => ?_; try simp only [hcS] at hc))
  all_goals try exact om_
  (first | refine ret_auto ?_ | refine ret_auto' ?_); simp only [go_sem, simprocAttr, Try.f4]
  exact iv_eq (by omega)
theorem sp_szProfunctor_no {p : Prof} {k : Int} (h : k < (prSz p : Int)) (h0 : 0 ≤ k) (hk : k ≤ 9223372036854775807) (hp : PrT p) : Spec Try.prog 4 [profV p, iv k] [] (iv (-1)) [] := by
  unfold prSz at h
  obtain ⟨l1, l2, l3, l4, l5, l6⟩ := hp
  have l1 := l1.len
  have l2 := l2.len
  refine spec_of_V (E := TE) 0 Try.func4 rfl (by simp [Try.f4]) fun X hn hX => ?_
  by_cases h1 : (catSz p.src : Int) ≤ k
  · by_cases h2 : (catSz p.src + catSz p.tgt : Int) ≤ k
    · by_cases h3 : (catSz p.src + catSz p.tgt + (p.sz.length + sumLen p.sz) : Int) ≤ k
      · by_cases h4 : (catSz p.src + catSz p.tgt + (p.sz.length + sumLen p.sz) + (p.bef.length + sz3 p.bef) : Int) ≤ k
        · repeat' (first | (with_reducible first | refine V_seq ?_ | refine V_skip ?_ | refine V_ret ?_) | ((with_reducible refine V_cond ?_); simp only [go_sem, simprocAttr]) | ((refine V_region (by rw [hn]; rfl) ?_); intro K hK) | ((first | with_reducible refine evOps_n ?_ | ((with_reducible apply evOps_g); rfl)); intro K hK; simp (contextual := true) only [go_sem, simprocAttr]) | with_reducible refine evOps_nil ?_ | ((with_reducible refine hK _ ?_); clear hK K) | (with_reducible first | refine And.intro ?_ ?_ | refine nxt_n ?_ | refine nxt_r ?_ | refine inR_mk ?_ ?_) | ((with_reducible refine evCall_at 13 ?_); refine EvCall.rq (a := (sp_szCategory_ok (by first | omega | assumption | rfl) (by first | omega | assumption | rfl))) (b := cal_szCategory) (c := ?_); all_goals try simp only [go_sem, simprocAttr]) | ((with_reducible refine evCall_at 14 ?_); refine EvCall.rq (a := (sp_szInt64SS_ok (by first | omega | assumption | rfl) (by first | omega | assumption | rfl))) (b := cal_szInt64SS) (c := ?_); all_goals try simp only [go_sem, simprocAttr]) | ((with_reducible refine evCall_at 15 ?_); refine EvCall.rq (a := (sp_szInt64SSS_ok (l:=p.bef) (by first | omega | assumption | rfl) (by first | omega | assumption | rfl))) (b := cal_szInt64SSS) (c := ?_); all_goals try simp only [go_sem, simprocAttr]) | ((with_reducible refine evCall_at 15 ?_); refine EvCall.rq (a := (sp_szInt64SSS_no (l:=p.beh) (by first | omega | assumption | rfl) (by first | omega | assumption | rfl) (by first | omega | assumption | rfl) (by first | omega | assumption | rfl))) (b := cal_szInt64SSS) (c := ?_); all_goals try simp only [go_sem, simprocAttr]) | (refine fun (hc : (_ : Bool) = _) => ?_; try simp only [hcS] at hc))
          all_goals try exact om_
          all_goals ((first | refine ret_auto ?_ | refine ret_auto' ?_); simp only [go_sem, simprocAttr, Try.f4])
        · repeat' (first | (with_reducible first | refine V_seq ?_ | refine V_skip ?_ | refine V_ret ?_) | ((with_reducible refine V_cond ?_); simp only [go_sem, simprocAttr]) | ((refine V_region (by rw [hn]; rfl) ?_); intro K hK) | ((first | with_reducible refine evOps_n ?_ | ((with_reducible apply evOps_g); rfl)); intro K hK; simp (contextual := true) only [go_sem, simprocAttr]) | with_reducible refine evOps_nil ?_ | ((with_reducible refine hK _ ?_); clear hK K) | (with_reducible first | refine And.intro ?_ ?_ | refine nxt_n ?_ | refine nxt_r ?_ | refine inR_mk ?_ ?_) | ((with_reducible refine evCall_at 13 ?_); refine EvCall.rq (a := (sp_szCategory_ok (by first | omega | assumption | rfl) (by first | omega | assumption | rfl))) (b := cal_szCategory) (c := ?_); all_goals try simp only [go_sem, simprocAttr]) | ((with_reducible refine evCall_at 14 ?_); refine EvCall.rq (a := (sp_szInt64SS_ok (by first | omega | assumption | rfl) (by first | omega | assumption | rfl))) (b := cal_szInt64SS) (c := ?_); all_goals try simp only [go_sem, simprocAttr]) | ((with_reducible refine evCall_at 15 ?_); refine EvCall.rq (a := (sp_szInt64SSS_no (l:=p.bef) (by first | omega | assumption | rfl) (by first | omega | assumption | rfl) (by first | omega | assumption | rfl) (by first | omega | assumption | rfl))) (b := cal_szInt64SSS) (c := ?_); all_goals try simp only [go_sem, simprocAttr]) | (refine fun (hc : (_ : Bool) = _) => ?_; try simp only [hcS] at hc))
          all_goals try exact om_
          all_goals ((first | refine ret_auto ?_ | refine ret_auto' ?_); simp only [go_sem, simprocAttr, Try.f4])
      · repeat' (first | (with_reducible first | refine V_seq ?_ | refine V_skip ?_ | refine V_ret ?_) | ((with_reducible refine V_cond ?_); simp only [go_sem, simprocAttr]) | ((refine V_region (by rw [hn]; rfl) ?_); intro K hK) | ((first | with_reducible refine evOps_n ?_ | ((with_reducible apply evOps_g); rfl)); intro K hK; simp (contextual := true) only [go_sem, simprocAttr]) | with_reducible refine evOps_nil ?_ | ((with_reducible refine hK _ ?_); clear hK K) | (with_reducible first | refine And.intro ?_ ?_ | refine nxt_n ?_ | refine nxt_r ?_ | refine inR_mk ?_ ?_) | ((with_reducible refine evCall_at 13 ?_); refine EvCall.rq (a := (sp_szCategory_ok (by first | omega | assumption | rfl) (by first | omega | assumption | rfl))) (b := cal_szCategory) (c := ?_); all_goals try simp only [go_sem, simprocAttr]) | ((with_reducible refine evCall_at 14 ?_); refine EvCall.rq (a := (sp_szInt64SS_no (by first | omega | assumption | rfl) (by first | omega | assumption | rfl) (by first | omega | assumption | rfl) (by first | omega | assumption | rfl) (by first | omega | assumption | rfl))) (b := cal_szInt64SS) (c := ?_); all_goals try simp only [go_sem, simprocAttr]) | (refine fun (hc : (_ : Bool) = _) => ?_; try simp only [hcS] at hc))
        all_goals try exact om_
        all_goals ((first | refine ret_auto ?_ | refine ret_auto' ?_); simp only [go_sem, simprocAttr, Try.f4])
    · repeat' (first | (with_reducible first | refine V_seq ?_ | refine V_skip ?_ | refine V_ret ?_) | ((with_reducible refine V_cond ?_); simp only [go_sem, simprocAttr]) | ((refine V_region (by rw [hn]; rfl) ?_); intro K hK) | ((first | with_reducible refine evOps_n ?_ | ((with_reducible apply evOps_g); rfl)); intro K hK; simp (contextual := true) only [go_sem, simprocAttr]) | with_reducible refine evOps_nil ?_ | ((with_reducible refine hK _ ?_); clear hK K) | (with_reducible first | refine And.intro ?_ ?_ | refine nxt_n ?_ | refine nxt_r ?_ | refine inR_mk ?_ ?_) | ((with_reducible refine evCall_at 13 ?_); refine EvCall.rq (a := (sp_szCategory_ok (c:=p.src) (by first | omega | assumption | rfl) (by first | omega | assumption | rfl))) (b := cal_szCategory) (c := ?_); all_goals try simp only [go_sem, simprocAttr]) | ((with_reducible refine evCall_at 13 ?_); refine EvCall.rq (a := (sp_szCategory_no (c:=p.tgt) (by first | omega | assumption | rfl) (by first | omega | assumption | rfl) (by first | omega | assumption | rfl) (by first | omega | assumption | rfl))) (b := cal_szCategory) (c := ?_); all_goals try simp only [go_sem, simprocAttr]) | (refine fun (hc : (_ : Bool) = _) => ?_; try simp only [hcS] at hc))
      all_goals try exact om_
      all_goals ((first | refine ret_auto ?_ | refine ret_auto' ?_); simp only [go_sem, simprocAttr, Try.f4])
  · repeat' (first | (with_reducible first | refine V_seq ?_ | refine V_skip ?_ | refine V_ret ?_) | ((with_reducible refine V_cond ?_); simp only [go_sem, simprocAttr]) | ((refine V_region (by rw [hn]; rfl) ?_); intro K hK) | ((first | with_reducible refine evOps_n ?_ | ((with_reducible apply evOps_g); rfl)); intro K hK; simp (contextual := true) only [go_sem, simprocAttr]) | with_reducible refine evOps_nil ?_ | ((with_reducible refine hK _ ?_); clear hK K) | (with_reducible first | refine And.intro ?_ ?_ | refine nxt_n ?_ | refine nxt_r ?_ | refine inR_mk ?_ ?_) | ((with_reducible refine evCall_at 13 ?_); refine EvCall.rq (a := (sp_szCategory_no (by first | omega | assumption | rfl) (by first | omega | assumption | rfl) (by first | omega | assumption | rfl) (by first | omega | assumption | rfl))) (b := cal_szCategory) (c := ?_); all_goals try simp only [go_sem, simprocAttr]) | (refine fun (hc : (_ : Bool) = _) => ?_; try simp only [hcS] at hc))
    all_goals try exact om_
    all_goals ((first | refine ret_auto ?_ | refine ret_auto' ?_); simp only [go_sem, simprocAttr, Try.f4])
end Go.Eng
