/- Sums of categories, by the reference. -/
import Derived.Test.YtbflkfamigcncaaGreatZ04q
set_option linter.unusedSimpArgs false
set_option linter.unusedVariables false
set_option maxRecDepth 100000
set_option maxHeartbeats 16000000
namespace Go.Eng
open Go Go.Proofs Go.Cats
def tkM (l : List Int) (k : Nat) (z : Int) : List Int := (l.take k).map (· + z)
def smT (c : Cat) (m f g : Nat) : List (List Int) := (List.range c.co.length).map fun i => c.co.getD i [] ++ List.replicate (if i < f then m else if i = f then g else 0) (-1)
def smW (c d : Cat) (f g : Nat) : List Int := List.replicate c.fr.length (-1) ++ ((d.co.getD f []).take g).map (shI c.fr.length)
def smR (c d : Cat) (f : Nat) : List (List Int) := smT c d.fr.length c.co.length 0 ++ (List.range f).map fun i => smW c d i d.fr.length
section
variable {c d : Cat} {l : List Int} {m f g k : Nat} {z : Int}
theorem tkM_zero : tkM l 0 z = [] := by simp [tkM]
theorem tkM_len (h : k ≤ l.length) : (tkM l k z).length = k := by unfold tkM; rw [List.length_map, List.length_take]; omega
theorem tkM_succ (h : k < l.length) : tkM l (k + 1) z = tkM l k z ++ [l.getD k 0 + z] := by
  unfold tkM
  rw [List.take_succ_eq_append_getElem h, List.map_append, List.getD_eq_getElem?_getD, List.getElem?_eq_getElem h]; rfl
theorem tkM_all : tkM l l.length z = l.map (· + z) := by unfold tkM; rw [List.take_length]
theorem smT_len : (smT c m f g).length = c.co.length := by unfold smT; rw [List.length_map, List.length_range]
theorem smT_at {i : Nat} (h : i < c.co.length) : (smT c m f g).getD i [] = c.co.getD i [] ++ List.replicate (if i < f then m else if i = f then g else 0) (-1) := by
  unfold smT; rw [List.getD_eq_getElem?_getD, List.getElem?_map, List.getElem?_range h]; rfl
theorem smT_here (h : f < c.co.length) : (smT c m f g).getD f [] = c.co.getD f [] ++ List.replicate g (-1) := by
  rw [smT_at h, if_neg (Nat.lt_irrefl f), if_pos rfl]
theorem list2_ext {a b : List (List Int)} (hl : a.length = b.length) (h : ∀ i, i < a.length → a.getD i [] = b.getD i []) : a = b := by
  refine List.ext_getElem hl fun i h1 h2 => ?_
  have := h i h1
  rw [List.getD_eq_getElem?_getD, List.getElem?_eq_getElem h1, List.getD_eq_getElem?_getD, List.getElem?_eq_getElem h2] at this
  exact this
theorem set2_at {a : List (List Int)} {i j : Nat} {r : List Int} (h : j < a.length) : (a.set j r).getD i [] = if i = j then r else a.getD i [] := by
  rw [List.getD_eq_getElem?_getD, List.getElem?_set, List.getD_eq_getElem?_getD]
  by_cases e : j = i
  · subst e; rw [if_pos rfl, if_pos h, if_pos rfl]; rfl
  · rw [if_neg e, if_neg (fun q => e q.symm)]
theorem smT_step (h : f < c.co.length) : (smT c m f g).set f ((c.co.getD f [] ++ List.replicate g (-1)) ++ [-1]) = smT c m f (g + 1) := by
  refine list2_ext (by rw [List.length_set, smT_len, smT_len]) fun i hi => ?_
  rw [List.length_set, smT_len] at hi
  rw [set2_at (by rw [smT_len]; exact h), smT_at hi, smT_at hi]
  by_cases e : i = f
  · subst e
    rw [if_pos rfl, if_neg (Nat.lt_irrefl i), if_pos rfl, List.append_assoc, List.replicate_succ']
  · rw [if_neg e, if_neg e, if_neg e]
theorem smT_row : smT c m f m = smT c m (f + 1) 0 := by
  refine list2_ext (by rw [smT_len, smT_len]) fun i hi => ?_
  rw [smT_len] at hi
  rw [smT_at hi, smT_at hi]
  congr 2
  by_cases h1 : i < f
  · rw [if_pos h1, if_pos (by omega)]
  · by_cases h2 : i = f
    · rw [if_neg h1, if_pos h2, if_pos (by omega)]
    · rw [if_neg h1, if_neg h2, if_neg (by omega)]; split <;> rfl
theorem smT_none : smT c m 0 0 = c.co := by
  refine list2_ext smT_len fun i hi => ?_
  rw [smT_len] at hi
  rw [smT_at hi, if_neg (by omega)]
  have : (if i = 0 then (0 : Nat) else 0) = 0 := by split <;> rfl
  rw [this]; simp
theorem smW_zero : smW c d f 0 = List.replicate c.fr.length (-1) := by simp [smW]
theorem smW_succ (h : g < (d.co.getD f []).length) : smW c d f (g + 1) = smW c d f g ++ [shI c.fr.length ((d.co.getD f []).getD g 0)] := by
  unfold smW
  rw [List.take_succ_eq_append_getElem h, List.map_append, List.append_assoc, List.getD_eq_getElem?_getD (l := d.co.getD f []), List.getElem?_eq_getElem h]; rfl
theorem smW_len (h : g ≤ (d.co.getD f []).length) : (smW c d f g).length = c.fr.length + g := by unfold smW; rw [List.length_append, List.length_replicate, List.length_map, List.length_take]; omega
theorem smR_zero : smR c d 0 = smT c d.fr.length c.co.length 0 := by unfold smR; simp
theorem smR_succ : smR c d (f + 1) = smR c d f ++ [smW c d f d.fr.length] := by unfold smR; rw [List.range_succ, List.map_append, List.append_assoc]; rfl
theorem smR_len : (smR c d f).length = c.co.length + f := by unfold smR; rw [List.length_append, smT_len, List.length_map, List.length_range]
theorem smT_all : smT c m c.co.length 0 = c.co.map fun r => r ++ List.replicate m (-1) := by
  refine list2_ext (by rw [smT_len, List.length_map]) fun i hi => ?_
  rw [smT_len] at hi
  rw [smT_at hi, if_pos hi, List.getD_eq_getElem?_getD (l := List.map _ _), List.getElem?_map, List.getElem?_eq_getElem hi, List.getD_eq_getElem?_getD, List.getElem?_eq_getElem hi]; rfl
theorem smC_eq (sc : Shape c) (sd : Shape d) : smC c d = ⟨c.ob + d.ob, c.fr ++ tkM d.fr d.fr.length c.ob, c.to ++ tkM d.to d.to.length c.ob, c.id ++ tkM d.id d.id.length c.fr.length, smR c d d.fr.length⟩ := by
  have e : (List.range d.fr.length).map (fun i => smW c d i d.fr.length) = d.co.map fun r => List.replicate c.fr.length (-1) ++ r.map (shI c.fr.length) := by
    rw [← sd.col]
    refine list2_ext (by rw [List.length_map, List.length_map, List.length_range]) fun i hi => ?_
    rw [List.length_map, List.length_range] at hi
    have hr := (sd.coe i (by rw [← sd.col]; exact hi)).1
    rw [List.getD_eq_getElem?_getD, List.getElem?_map, List.getElem?_range hi, List.getD_eq_getElem?_getD, List.getElem?_map, List.getElem?_eq_getElem hi]
    show smW c d i d.co.length = _
    unfold smW
    rw [List.take_of_length_le (by rw [hr, sd.col]; exact Nat.le_refl _), List.getD_eq_getElem?_getD, List.getElem?_eq_getElem hi]; rfl
  unfold smC smR
  rw [tkM_all, tkM_all, tkM_all, smT_all, e]
end
theorem Shape.catB {c : Cat} (s : Shape c) : CatB c := by
  have o0 := s.ob0
  have o8 := s.ob8
  have m := s.m40
  have t := s.tol
  have i := s.idl
  have l := s.col
  exact ⟨by omega, by omega, by omega, by omega, by omega, by omega, fun f hf => by have := (s.coe f (by omega)).1; omega⟩
attribute [local go_sem] List.set_cons_zero List.set_cons_succ tkM_zero List.append_nil
theorem cal_l03Sum : Callable Tryz.prog 208 := ⟨_, Tryz.func208, rfl, rfl⟩
theorem sp_l03Sum {c d : Cat} (sc : Shape c) (sd : Shape d) : Spec Tryz.prog 208 [catV c, catV d] [] (.agg [iv (smC c d).ob, .sl 0, .sl 1, .sl 2, .sl 3]) [(0, ⟨1, .arr (ints (smC c d).fr)⟩), (1, ⟨1, .arr (ints (smC c d).to)⟩), (2, ⟨1, .arr (ints (smC c d).id)⟩), (3, ⟨1, .arr (intss (smC c d).co)⟩)] := by
  have bc := Shape.catB sc
  have c0 := sc.ob0
  have c8 := sc.ob8
  have c40 := sc.m40
  have ctl := sc.tol
  have cil := sc.idl
  have ccl := sc.col
  have d0 := sd.ob0
  have d8 := sd.ob8
  have d40 := sd.m40
  have dtl := sd.tol
  have dil := sd.idl
  have dcl := sd.col
  rw [smC_eq sc sd]
  refine spec_of_V (E := TE) 0 Tryz.func208 rfl (by simp [Tryz.f208]) fun X hn hX => ?_
  repeat' (first | with_reducible refine St.f ?_ | ((with_reducible refine V_cond ?_); simp only [go_sem, simprocAttr]) | ((first | refine V_rg ?_ | refine V_dr ?_); intro K hK) | ((first | with_reducible refine So.f ?_ | ((with_reducible apply evOps_g); rfl) | ((with_reducible apply evOpsD_g); rfl)); intro K hK; simp (contextual := true) only [go_sem, simprocAttr]) | ((with_reducible refine evOpsD_nil ?_ ?_); kernel_rfl) | ((with_reducible refine hK _ ?_); clear hK K) | (with_reducible first | refine And.intro ?_ ?_ | refine blk_other (by decide) ?_ | refine inR_mk ?_ ?_) | ((with_reducible refine evCall_at 169 ?_); refine EvCall.rq (a := (sp_l02Own (c:=c) ?_)) (b := cal_l02Own) (c := ?_); all_goals try simp only [go_sem, simprocAttr]) | (refine fun (hc : (_ : Bool) = _) => ?_; try simp only [hcS] at hc))
  all_goals try exact om_
  refine V_loopK (G := {y : Nat // y ≤ d.id.length ∧ (True)}) (fun ⟨y, _⟩ => [(8, iv y), (2, .ptr 0 0), (3, .ptr 1 0), (4, .ptr 2 0), (7, .ptr 7 0), (5, iv c.ob), (6, iv c.fr.length)]) [] (fun ⟨y, _⟩ => [(7, ⟨1, .box [iv (c.ob + d.ob), .sl 3, .sl 4, .sl 5, .sl 6]⟩), (3, ⟨1, .arr (ints c.fr)⟩), (4, ⟨1, .arr (ints c.to)⟩), (5, ⟨1, .arr (ints (c.id ++ tkM d.id y c.fr.length))⟩), (6, ⟨1, .arr (intss c.co)⟩)]) [3, 4, 5, 6, 7] (fun zz => d.id.length - zz.1) ⟨0, Nat.zero_le _, by first | trivial | simp⟩ ?_ ?_
  · exact Imp.au hX
  rintro ⟨y, hiy, hwy⟩
  simp only [go_sem, simprocAttr]
  rcases Nat.lt_or_ge y d.id.length with hy | hy
  · have w1 := sd.idw y hy
    have e1 := tkM_succ (z := (c.fr.length : Int)) hy
    have l1 := tkM_len (l := d.id) (z := (c.fr.length : Int)) (Nat.le_of_lt hy)
    repeat' (first | with_reducible refine St.f ?_ | ((with_reducible refine V_cond ?_); simp only [go_sem, simprocAttr]) | ((first | refine V_rg ?_ | refine V_dr ?_); intro K hK) | ((first | with_reducible refine So.f ?_ | ((with_reducible apply evOps_g); rfl) | ((with_reducible apply evOpsD_g); rfl)); intro K hK; simp (contextual := true) only [go_sem, simprocAttr]) | ((with_reducible refine evOpsD_nil ?_ ?_); kernel_rfl) | ((with_reducible refine hK _ ?_); clear hK K) | (with_reducible first | refine And.intro ?_ ?_ | refine blk_other (by decide) ?_ | refine inR_mk ?_ ?_) | (refine fun (hc : (_ : Bool) = _) => ?_; try simp only [hcS] at hc))
    all_goals try exact om_
    all_goals try (exfalso; omega)
    refine ⟨⟨y + 1, by omega, (by (trivial))⟩, by simp only; omega, Imp.auto hX (by simp only [go_sem, simprocAttr, e1, List.append_assoc])⟩
  · obtain rfl : y = d.id.length := by omega
    have l0 := tkM_len (l := d.id) (z := (c.fr.length : Int)) (Nat.le_refl d.id.length)
    repeat' (first | with_reducible refine St.f ?_ | ((with_reducible refine V_cond ?_); simp only [go_sem, simprocAttr]) | ((first | refine V_rg ?_ | refine V_dr ?_); intro K hK) | ((first | with_reducible refine So.f ?_ | ((with_reducible apply evOps_g); rfl) | ((with_reducible apply evOpsD_g); rfl)); intro K hK; simp (contextual := true) only [go_sem, simprocAttr]) | ((with_reducible refine evOpsD_nil ?_ ?_); kernel_rfl) | ((with_reducible refine hK _ ?_); clear hK K) | (with_reducible first | refine And.intro ?_ ?_ | refine blk_other (by decide) ?_ | refine inR_mk ?_ ?_) | (refine fun (hc : (_ : Bool) = _) => ?_; try simp only [hcS] at hc))
    all_goals try exact om_
    all_goals try (exfalso; omega)
    refine V_loopK (G := {f : Nat // f ≤ c.co.length ∧ (True)}) (fun ⟨f, _⟩ => [(9, iv f), (2, .ptr 0 0), (3, .ptr 1 0), (4, .ptr 2 0), (7, .ptr 7 0), (5, iv c.ob), (6, iv c.fr.length)]) [] (fun ⟨f, _⟩ => [(7, ⟨1, .box [iv (c.ob + d.ob), .sl 3, .sl 4, .sl 5, .sl 6]⟩), (3, ⟨1, .arr (ints c.fr)⟩), (4, ⟨1, .arr (ints c.to)⟩), (5, ⟨1, .arr (ints (c.id ++ tkM d.id d.id.length c.fr.length))⟩), (6, ⟨1, .arr (intss (smT c d.fr.length f 0))⟩)]) [3, 4, 5, 6, 7] (fun zz => c.co.length - zz.1) ⟨0, Nat.zero_le _, by trivial⟩ ?_ ?_
    · exact Imp.auto hX (by simp [go_sem, simprocAttr, smT_none])
    rintro ⟨f, hif, hwf⟩
    simp only [go_sem, simprocAttr]
    have l2 := smT_len (c := c) (m := d.fr.length) (f := f) (g := 0)
    rcases Nat.lt_or_ge f c.co.length with hf1 | hf1
    · have lr := (sc.coe f (by omega)).1
      repeat' (first | with_reducible refine St.f ?_ | ((with_reducible refine V_cond ?_); simp only [go_sem, simprocAttr]) | ((first | refine V_rg ?_ | refine V_dr ?_); intro K hK) | ((first | with_reducible refine So.f ?_ | ((with_reducible apply evOps_g); rfl) | ((with_reducible apply evOpsD_g); rfl)); intro K hK; simp (contextual := true) only [go_sem, simprocAttr]) | ((with_reducible refine evOpsD_nil ?_ ?_); kernel_rfl) | ((with_reducible refine hK _ ?_); clear hK K) | (with_reducible first | refine And.intro ?_ ?_ | refine blk_other (by decide) ?_ | refine inR_mk ?_ ?_) | (refine fun (hc : (_ : Bool) = _) => ?_; try simp only [hcS] at hc))
      all_goals try exact om_
      all_goals try (exfalso; omega)
      refine V_loopK (G := {g : Nat // g ≤ d.fr.length ∧ (True)}) (fun ⟨g, _⟩ => [(10, iv g), (2, .ptr 0 0), (3, .ptr 1 0), (4, .ptr 2 0), (7, .ptr 7 0), (5, iv c.ob), (6, iv c.fr.length), (9, iv f)]) [] (fun ⟨g, _⟩ => [(7, ⟨1, .box [iv (c.ob + d.ob), .sl 3, .sl 4, .sl 5, .sl 6]⟩), (3, ⟨1, .arr (ints c.fr)⟩), (4, ⟨1, .arr (ints c.to)⟩), (5, ⟨1, .arr (ints (c.id ++ tkM d.id d.id.length c.fr.length))⟩), (6, ⟨1, .arr (intss (smT c d.fr.length f g))⟩)]) [3, 4, 5, 6, 7] (fun zz => d.fr.length - zz.1) ⟨0, Nat.zero_le _, by first | trivial | simp⟩ ?_ ?_
      · exact Imp.au hX
      rintro ⟨g, hig, hwg⟩
      simp only [go_sem, simprocAttr]
      have l3 := smT_len (c := c) (m := d.fr.length) (f := f) (g := g)
      rcases Nat.lt_or_ge g d.fr.length with hg1 | hg1
      · have e1 := smT_here (c := c) (m := d.fr.length) (f := f) (g := g) hf1
        have e2 := smT_step (c := c) (m := d.fr.length) (f := f) (g := g) hf1
        have l4 : (c.co.getD f [] ++ List.replicate g (-1)).length = c.fr.length + g := by rw [List.length_append, List.length_replicate, lr]
        repeat' (first | (rw [e1]) | (refine V_at 14 (Imp.open_ 6 f (intss (smT c d.fr.length f g)) [] (.inr ⟨rfl, rfl⟩) (Nat.le_refl 1) (by simp only [go_sem, simprocAttr]; omega) rfl (by simp only [go_sem, simprocAttr]) rfl) ?_; simp only [go_sem, simprocAttr]) | with_reducible refine St.f ?_ | ((with_reducible refine V_cond ?_); simp only [go_sem, simprocAttr]) | ((first | refine V_rg ?_ | refine V_dr ?_); intro K hK) | ((first | with_reducible refine So.f ?_ | ((with_reducible apply evOps_g); rfl) | ((with_reducible apply evOpsD_g); rfl)); intro K hK; simp (contextual := true) only [go_sem, simprocAttr]) | ((with_reducible refine evOpsD_nil ?_ ?_); kernel_rfl) | ((with_reducible refine hK _ ?_); clear hK K) | (with_reducible first | refine And.intro ?_ ?_ | refine blk_other (by decide) ?_ | refine inR_mk ?_ ?_) | (refine fun (hc : (_ : Bool) = _) => ?_; try simp only [hcS] at hc))
        all_goals try exact om_
        all_goals try (exfalso; omega)
        refine ⟨⟨g + 1, by omega, (by (trivial))⟩, by simp only; omega, Imp.auto hX (by simp only [go_sem, simprocAttr, e2])⟩
      · obtain rfl : g = d.fr.length := by omega
        have e1 := smT_row (c := c) (m := d.fr.length) (f := f)
        repeat' (first | with_reducible refine St.f ?_ | ((with_reducible refine V_cond ?_); simp only [go_sem, simprocAttr]) | ((first | refine V_rg ?_ | refine V_dr ?_); intro K hK) | ((first | with_reducible refine So.f ?_ | ((with_reducible apply evOps_g); rfl) | ((with_reducible apply evOpsD_g); rfl)); intro K hK; simp (contextual := true) only [go_sem, simprocAttr]) | ((with_reducible refine evOpsD_nil ?_ ?_); kernel_rfl) | ((with_reducible refine hK _ ?_); clear hK K) | (with_reducible first | refine And.intro ?_ ?_ | refine blk_other (by decide) ?_ | refine inR_mk ?_ ?_) | (refine fun (hc : (_ : Bool) = _) => ?_; try simp only [hcS] at hc))
        all_goals try exact om_
        all_goals try (exfalso; omega)
        refine ⟨⟨f + 1, by omega, (by (trivial))⟩, by simp only; omega, Imp.auto hX (by simp only [go_sem, simprocAttr, e1])⟩
    · obtain rfl : f = c.co.length := by omega
      repeat' (first | with_reducible refine St.f ?_ | ((with_reducible refine V_cond ?_); simp only [go_sem, simprocAttr]) | ((first | refine V_rg ?_ | refine V_dr ?_); intro K hK) | ((first | with_reducible refine So.f ?_ | ((with_reducible apply evOps_g); rfl) | ((with_reducible apply evOpsD_g); rfl)); intro K hK; simp (contextual := true) only [go_sem, simprocAttr]) | ((with_reducible refine evOpsD_nil ?_ ?_); kernel_rfl) | ((with_reducible refine hK _ ?_); clear hK K) | (with_reducible first | refine And.intro ?_ ?_ | refine blk_other (by decide) ?_ | refine inR_mk ?_ ?_) | (refine fun (hc : (_ : Bool) = _) => ?_; try simp only [hcS] at hc))
      all_goals try exact om_
      all_goals try (exfalso; omega)
      refine V_loopK (G := {f : Nat // f ≤ d.fr.length ∧ (True)}) (fun ⟨f, _⟩ => [(11, iv f), (2, .ptr 0 0), (3, .ptr 1 0), (4, .ptr 2 0), (7, .ptr 7 0), (5, iv c.ob), (6, iv c.fr.length)]) [] (fun ⟨f, _⟩ => [(7, ⟨1, .box [iv (c.ob + d.ob), .sl 3, .sl 4, .sl 5, .sl 6]⟩), (3, ⟨1, .arr (ints (c.fr ++ tkM d.fr f c.ob))⟩), (4, ⟨1, .arr (ints (c.to ++ tkM d.to f c.ob))⟩), (5, ⟨1, .arr (ints (c.id ++ tkM d.id d.id.length c.fr.length))⟩), (6, ⟨1, .arr (intss (smR c d f))⟩)]) [3, 4, 5, 6, 7] (fun zz => d.fr.length - zz.1) ⟨0, Nat.zero_le _, by trivial⟩ ?_ ?_
      · exact Imp.auto hX (by simp [go_sem, simprocAttr, smR_zero])
      rintro ⟨f, hif, hwf⟩
      simp only [go_sem, simprocAttr]
      have l3 := smR_len (c := c) (d := d) (f := f)
      rcases Nat.lt_or_ge f d.fr.length with hf2 | hf2
      · have w1 := sd.frw f hf2
        have w2 := sd.tow f (by omega)
        have lr := (sd.coe f hf2).1
        have e1 := tkM_succ (l := d.fr) (z := c.ob) hf2
        have e2 := tkM_succ (l := d.to) (k := f) (z := c.ob) (by omega)
        have n1 := tkM_len (l := d.fr) (z := c.ob) (Nat.le_of_lt hf2)
        have n2 := tkM_len (l := d.to) (k := f) (z := c.ob) (by omega)
        have er := smR_succ (c := c) (d := d) (f := f)
        repeat' (first | with_reducible refine St.f ?_ | ((with_reducible refine V_cond ?_); simp only [go_sem, simprocAttr]) | ((first | refine V_rg ?_ | refine V_dr ?_); intro K hK) | ((first | with_reducible refine So.f ?_ | ((with_reducible apply evOps_g); rfl) | ((with_reducible apply evOpsD_g); rfl)); intro K hK; simp (contextual := true) only [go_sem, simprocAttr]) | ((with_reducible refine evOpsD_nil ?_ ?_); kernel_rfl) | ((with_reducible refine hK _ ?_); clear hK K) | (with_reducible first | refine And.intro ?_ ?_ | refine blk_other (by decide) ?_ | refine inR_mk ?_ ?_) | (refine fun (hc : (_ : Bool) = _) => ?_; try simp only [hcS] at hc))
        all_goals try exact om_
        all_goals try (exfalso; omega)
        refine V_loopK (G := {g : Nat // g ≤ c.fr.length ∧ (True)}) (fun ⟨g, _⟩ => [(13, iv g), (2, .ptr 0 0), (3, .ptr 1 0), (4, .ptr 2 0), (7, .ptr 7 0), (5, iv c.ob), (6, iv c.fr.length), (11, iv f), (87, .sl 8), (99, .sl 10), (12, .sl 12)]) [] (fun ⟨g, _⟩ => [(7, ⟨1, .box [iv (c.ob + d.ob), .sl 9, .sl 11, .sl 5, .sl 6]⟩), (9, ⟨1, .arr (ints (c.fr ++ tkM d.fr (f + 1) c.ob))⟩), (11, ⟨1, .arr (ints (c.to ++ tkM d.to (f + 1) c.ob))⟩), (5, ⟨1, .arr (ints (c.id ++ tkM d.id d.id.length c.fr.length))⟩), (6, ⟨1, .arr (intss (smR c d f))⟩), (8, ⟨1, .arr (ints [d.fr.getD f 0 + c.ob])⟩), (10, ⟨1, .arr (ints [d.to.getD f 0 + c.ob])⟩), (12, ⟨1, .arr (ints (List.replicate g (-1)))⟩)]) [5, 6, 7, 8, 9, 10, 11, 12] (fun zz => c.fr.length - zz.1) ⟨0, Nat.zero_le _, by trivial⟩ ?_ ?_
        · exact Imp.auto hX (by simp [go_sem, simprocAttr, e1, e2, List.append_assoc, List.replicate_zero])
        rintro ⟨g, hig, hwg⟩
        simp only [go_sem, simprocAttr]
        rcases Nat.lt_or_ge g c.fr.length with hg1 | hg1
        · have e3 : List.replicate (g + 1) (-1 : Int) = List.replicate g (-1) ++ [-1] := List.replicate_succ'
          repeat' (first | with_reducible refine St.f ?_ | ((with_reducible refine V_cond ?_); simp only [go_sem, simprocAttr]) | ((first | refine V_rg ?_ | refine V_dr ?_); intro K hK) | ((first | with_reducible refine So.f ?_ | ((with_reducible apply evOps_g); rfl) | ((with_reducible apply evOpsD_g); rfl)); intro K hK; simp (contextual := true) only [go_sem, simprocAttr]) | ((with_reducible refine evOpsD_nil ?_ ?_); kernel_rfl) | ((with_reducible refine hK _ ?_); clear hK K) | (with_reducible first | refine And.intro ?_ ?_ | refine blk_other (by decide) ?_ | refine inR_mk ?_ ?_) | (refine fun (hc : (_ : Bool) = _) => ?_; try simp only [hcS] at hc))
          all_goals try exact om_
          all_goals try (exfalso; omega)
          refine ⟨⟨g + 1, by omega, (by (trivial))⟩, by simp only; omega, Imp.auto hX (by simp only [go_sem, simprocAttr, e3])⟩
        · obtain rfl : g = c.fr.length := by omega
          repeat' (first | with_reducible refine St.f ?_ | ((with_reducible refine V_cond ?_); simp only [go_sem, simprocAttr]) | ((first | refine V_rg ?_ | refine V_dr ?_); intro K hK) | ((first | with_reducible refine So.f ?_ | ((with_reducible apply evOps_g); rfl) | ((with_reducible apply evOpsD_g); rfl)); intro K hK; simp (contextual := true) only [go_sem, simprocAttr]) | ((with_reducible refine evOpsD_nil ?_ ?_); kernel_rfl) | ((with_reducible refine hK _ ?_); clear hK K) | (with_reducible first | refine And.intro ?_ ?_ | refine blk_other (by decide) ?_ | refine inR_mk ?_ ?_) | (refine fun (hc : (_ : Bool) = _) => ?_; try simp only [hcS] at hc))
          all_goals try exact om_
          all_goals try (exfalso; omega)
          refine V_loopK (G := {g : Nat // g ≤ d.fr.length ∧ (True)}) (fun ⟨g, _⟩ => [(14, iv g), (2, .ptr 0 0), (3, .ptr 1 0), (4, .ptr 2 0), (7, .ptr 7 0), (5, iv c.ob), (6, iv c.fr.length), (11, iv f), (87, .sl 8), (99, .sl 10), (12, .sl 12)]) [] (fun ⟨g, _⟩ => [(7, ⟨1, .box [iv (c.ob + d.ob), .sl 9, .sl 11, .sl 5, .sl 6]⟩), (9, ⟨1, .arr (ints (c.fr ++ tkM d.fr (f + 1) c.ob))⟩), (11, ⟨1, .arr (ints (c.to ++ tkM d.to (f + 1) c.ob))⟩), (5, ⟨1, .arr (ints (c.id ++ tkM d.id d.id.length c.fr.length))⟩), (6, ⟨1, .arr (intss (smR c d f))⟩), (8, ⟨1, .arr (ints [d.fr.getD f 0 + c.ob])⟩), (10, ⟨1, .arr (ints [d.to.getD f 0 + c.ob])⟩), (12, ⟨1, .arr (ints (smW c d f g))⟩)]) [5, 6, 7, 8, 9, 10, 11, 12] (fun zz => d.fr.length - zz.1) ⟨0, Nat.zero_le _, by trivial⟩ ?_ ?_
          · exact Imp.auto hX (by simp [go_sem, simprocAttr, smW_zero])
          rintro ⟨g, hig, hwg⟩
          simp only [go_sem, simprocAttr]
          have l4 := smW_len (c := c) (d := d) (f := f) (g := g) (by omega)
          rcases Nat.lt_or_ge g d.fr.length with hg2 | hg2
          · have e3 := smW_succ (c := c) (d := d) (f := f) (g := g) (by omega)
            have hE := (sd.coe f hf2).2 g hg2
            have hR : (d.co.getD f []).getD g 0 < d.fr.length := by
              rcases hE with q | q
              · have := q.2.1.2
                simpa [Cat.C] using this
              · have := q.2
                simp only [Cat.C, Int.toNat_natCast] at this
                omega
            by_cases h0 : 0 ≤ (d.co.getD f []).getD g 0
            · have e4 : shI c.fr.length ((d.co.getD f []).getD g 0) = (d.co.getD f []).getD g 0 + c.fr.length := by unfold shI; rw [if_pos h0]
              rw [e4] at e3
              repeat' (first | with_reducible refine St.f ?_ | ((with_reducible refine V_cond ?_); simp only [go_sem, simprocAttr]) | ((first | refine V_rg ?_ | refine V_dr ?_); intro K hK) | ((first | with_reducible refine So.f ?_ | ((with_reducible apply evOps_g); rfl) | ((with_reducible apply evOpsD_g); rfl)); intro K hK; simp (contextual := true) only [go_sem, simprocAttr]) | ((with_reducible refine evOpsD_nil ?_ ?_); kernel_rfl) | ((with_reducible refine hK _ ?_); clear hK K) | (with_reducible first | refine And.intro ?_ ?_ | refine blk_other (by decide) ?_ | refine inR_mk ?_ ?_) | (refine fun (hc : (_ : Bool) = _) => ?_; try simp only [hcS] at hc))
              all_goals try exact om_
              all_goals try (exfalso; omega)
              refine ⟨⟨g + 1, by omega, (by (trivial))⟩, by simp only; omega, Imp.auto hX (by simp only [go_sem, simprocAttr, e3])⟩
            · have e4 : shI c.fr.length ((d.co.getD f []).getD g 0) = (d.co.getD f []).getD g 0 := by unfold shI; rw [if_neg h0]
              rw [e4] at e3
              repeat' (first | with_reducible refine St.f ?_ | ((with_reducible refine V_cond ?_); simp only [go_sem, simprocAttr]) | ((first | refine V_rg ?_ | refine V_dr ?_); intro K hK) | ((first | with_reducible refine So.f ?_ | ((with_reducible apply evOps_g); rfl) | ((with_reducible apply evOpsD_g); rfl)); intro K hK; simp (contextual := true) only [go_sem, simprocAttr]) | ((with_reducible refine evOpsD_nil ?_ ?_); kernel_rfl) | ((with_reducible refine hK _ ?_); clear hK K) | (with_reducible first | refine And.intro ?_ ?_ | refine blk_other (by decide) ?_ | refine inR_mk ?_ ?_) | (refine fun (hc : (_ : Bool) = _) => ?_; try simp only [hcS] at hc))
              all_goals try exact om_
              all_goals try (exfalso; omega)
              refine ⟨⟨g + 1, by omega, (by (trivial))⟩, by simp only; omega, Imp.auto hX (by simp only [go_sem, simprocAttr, e3])⟩
          · obtain rfl : g = d.fr.length := by omega
            repeat' (first | with_reducible refine St.f ?_ | ((with_reducible refine V_cond ?_); simp only [go_sem, simprocAttr]) | ((first | refine V_rg ?_ | refine V_dr ?_); intro K hK) | ((first | with_reducible refine So.f ?_ | ((with_reducible apply evOps_g); rfl) | ((with_reducible apply evOpsD_g); rfl)); intro K hK; simp (contextual := true) only [go_sem, simprocAttr]) | ((with_reducible refine evOpsD_nil ?_ ?_); kernel_rfl) | ((with_reducible refine hK _ ?_); clear hK K) | (with_reducible first | refine And.intro ?_ ?_ | refine blk_other (by decide) ?_ | refine inR_mk ?_ ?_) | (refine fun (hc : (_ : Bool) = _) => ?_; try simp only [hcS] at hc))
            all_goals try exact om_
            all_goals try (exfalso; omega)
            refine ⟨⟨f + 1, by omega, (by (trivial))⟩, by simp only; omega, Imp.auto hX (by simp only [go_sem, simprocAttr, er])⟩
      · obtain rfl : f = d.fr.length := by omega
        repeat' (first | with_reducible refine St.f ?_ | ((with_reducible refine V_cond ?_); simp only [go_sem, simprocAttr]) | ((first | refine V_rg ?_ | refine V_dr ?_); intro K hK) | ((first | with_reducible refine So.f ?_ | ((with_reducible apply evOps_g); rfl) | ((with_reducible apply evOpsD_g); rfl)); intro K hK; simp (contextual := true) only [go_sem, simprocAttr]) | ((with_reducible refine evOpsD_nil ?_ ?_); kernel_rfl) | ((with_reducible refine hK _ ?_); clear hK K) | (with_reducible first | refine And.intro ?_ ?_ | refine blk_other (by decide) ?_ | refine inR_mk ?_ ?_) | (refine fun (hc : (_ : Bool) = _) => ?_; try simp only [hcS] at hc))
        all_goals try exact om_
        all_goals try (exfalso; omega)
        (first | refine ret_auto ?_ | refine ret_auto' ?_); simp only [go_sem, simprocAttr, Tryz.f208]
        rw [dtl]
end Go.Eng
