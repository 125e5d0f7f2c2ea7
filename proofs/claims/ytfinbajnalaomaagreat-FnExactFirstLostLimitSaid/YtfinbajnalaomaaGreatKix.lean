/- Several texts in one: C04, C09, C08, C12, C13, C10, C11, C05, C06. -/
import Derived.Test.YtfinbajnalaomaaGreatKex
import Derived.Test.YtfinbajnalaomaaGreatC01q
import Derived.Test.YtfinbajnalaomaaGreatG11q
set_option linter.unusedSimpArgs false
set_option linter.unusedVariables false
set_option maxRecDepth 100000
set_option maxHeartbeats 16000000
section
namespace Go.Eng
open Go Go.Proofs Go.Cats
attribute [go_sem] cO_zero colN_zero colN_len
end Go.Eng
end
section
namespace Go.Eng
open Go Go.Proofs Go.Cats
abbrev cmK (f e : Fun) (h : Value) (d : Dt) : Rk := .bx [.bptr [] (funD f), .bptr [] (funD e), .v h, .dead] 3 d
abbrev cmL (f e : Fun) (h : Value) (s t : Nat) (p q : List Int) (A : List (List Int)) : List (Nat × Rs) :=
  [(3, ⟨1, cmK f e h (intss A)⟩), (8, ⟨1, .box [.ptr 3 0]⟩), (9, ⟨1, .box [.bor [] (ints p)]⟩), (10, ⟨1, .box [.bor [] (ints q)]⟩), (7, ⟨1, .box [iv t]⟩), (4, ⟨1, .box [.ptr 3 0]⟩), (0, ⟨1, .box [.v (.pointer none)]⟩), (1, ⟨1, .box [.v (.bool false)]⟩), (6, ⟨1, .box [iv s]⟩)]
abbrev cmI : List Nat := [3, 8, 9, 10, 7, 4, 0, 1, 6]
attribute [local go_sem] cmK cmL
end Go.Eng
end
section
namespace Go.Eng
open Go Go.Proofs Go.Cats
attribute [local go_sem] cA_zero cmK
@[go_sem] theorem one_nil_c8 : (Value.slice none 0 0).oneCell' = true := rfl
@[go_sem] theorem one_ptr_c8 : (Value.pointer none).oneCell' = true := rfl
attribute [local go_sem] cmL idML cmI
end Go.Eng
end
section
namespace Go.Eng
open Go Go.Proofs Go.Cats
attribute [local go_sem] cmK cmL
end Go.Eng
end
section
namespace Go.Eng
open Go Go.Proofs Go.Cats
attribute [local go_sem] cA_zero cmK cmL idML cmI
end Go.Eng
end
section
namespace Go.Eng
open Go Go.Proofs Go.Cats
@[go_sem] theorem bys_isSl (l) : (bys l).isSl = true := rfl
@[go_sem] theorem bys_sz (l) : (bys l).sz = 1 := rfl
@[go_sem] theorem bys_nc (l : List Int) : (bys l).nc = l.length := by simp [bys, Dt.nc, Dt.cells]
@[go_sem] theorem bys_len (l : List Int) : (bys l).len = l.length := by simp [bys, Dt.len, Dt.sz, Dt.nc, Dt.cells]
@[go_sem] theorem bys_ones (l : List Int) : (bys l).ones = true := by simp [bys, Dt.ones, Dt.cells, Dt.one, Value.oneCell']
@[go_sem] theorem bys_flat (l : List Int) : (bys l).flat = true := by simp [bys, Dt.flat, Dt.cells, Dt.isV]
@[go_sem] theorem bys_app (l m : List Int) : Dt.app 1 (.v (.int .u8 0)) (bys l) (bys m) = bys (l ++ m) := by simp [bys, Dt.app, Dt.cells]
@[go_sem] theorem bys_nil : Dt.sl 1 (.v (.int .u8 0)) [] = bys [] := rfl
@[go_sem] theorem bys_one (n : Int) : Dt.sl 1 (.v (.int .u8 0)) [.v (.int .u8 n)] = bys [n] := rfl
def keyL (ls : List (List Int)) : List Int := ls.flatMap fun l => l ++ [255]
@[go_sem] theorem keyL_nil : keyL [] = [] := rfl
def keyS (ls : List (List Int)) : ByteArray := strOfNums (keyL ls)
end Go.Eng
end
section
namespace Go.Eng
open Go Go.Proofs Go.Cats
def tEnt (fr to : List Int) (h : Nat → Nat → Int) (i j : Nat) : Int := if to.getD i 0 = fr.getD j 0 then h i j else -1
def tRows (fr to : List Int) (h : Nat → Nat → Int) (i : Nat) : List (List Int) := (List.range i).map fun k => (List.range fr.length).map (tEnt fr to h k)
section
variable {fr to : List Int} {h : Nat → Nat → Int} {i j m : Nat}
@[go_sem] theorem tRows_zero : tRows fr to h 0 = [] := rfl
theorem tRows_len : (tRows fr to h i).length = i := by simp [tRows]
theorem tb_at {x : List Int} : (intsN (tRows fr to h i ++ [x]) m).at i = ints x := by
  rw [intsN_at (by simp [tRows_len])]
  simp [List.getD_eq_getElem?_getD, tRows_len]
end
end Go.Eng
end
section
namespace Go.Eng
open Go Go.Proofs Go.Cats
attribute [local go_sem] cO_zero colN_zero colN_len cA_zero
theorem cal_l02Hom : Callable Tryz.prog 75 := ⟨_, Tryz.func75, rfl, rfl⟩
theorem sp_l02Hom {c : Cat} {x y : Int} (hl : c.fr.length ≤ 1048576) (ht : c.to.length = c.fr.length) : Spec Tryz.prog 75 [catV c, iv x, iv y] [] (.sl 0) [(0, ⟨1, .arr (ints (c.hom x y))⟩)] := by
  refine spec_of_V (E := TE) 0 Tryz.func75 rfl (by simp [Tryz.f75]) fun X hn hX => ?_
  repeat' (first | (with_reducible first | refine V_seq ?_ | refine V_block ?_ | refine V_skip ?_ | refine V_ret ?_ | refine V_exit ?_) | ((with_reducible refine V_cond ?_); simp only [go_sem, simprocAttr]) | ((refine V_region (by rw [hn]; rfl) ?_); intro K hK) | ((first | with_reducible refine evOps_n ?_ | ((with_reducible apply evOps_g); rfl)); intro K hK; simp (contextual := true) only [go_sem, simprocAttr]) | with_reducible refine evOps_nil ?_ | ((with_reducible refine hK _ ?_); clear hK K) | (with_reducible first | refine And.intro ?_ ?_ | refine nxt_n ?_ | refine nxt_r ?_ | refine nxt_e ?_ | refine blk_n ?_ | refine blk_r ?_ | refine blk_same ?_ | refine blk_other (by decide) ?_ | refine noG_n ?_ | refine noG_r ?_ | refine noG_e ?_ | refine inR_mk ?_ ?_) | (refine fun (hc : (_ : Bool) = _) => ?_; try simp only [hcS] at hc))
  all_goals try exact om_
  refine V_loopK (G := {i : Nat // i ≤ c.fr.length ∧ (True)}) (fun ⟨i, _⟩ => [(8, iv i), (7, .sl 1)]) [1, 2, 3, 6] (fun ⟨i, _⟩ => [(1, ⟨1, .arr (ints (c.homI x y i))⟩)]) [1] (fun zz => c.fr.length - zz.1) ⟨0, Nat.zero_le _, by first | trivial | simp⟩ ?_ ?_
  · exact Imp.au hX
  rintro ⟨i, hii, hwi⟩
  simp only [go_sem, simprocAttr]
  have hlen := c.homI_len x y i
  repeat' (first | (with_reducible first | refine V_seq ?_ | refine V_block ?_ | refine V_skip ?_ | refine V_ret ?_ | refine V_exit ?_) | ((with_reducible refine V_cond ?_); simp only [go_sem, simprocAttr]) | ((refine V_region (by rw [hn]; rfl) ?_); intro K hK) | ((first | with_reducible refine evOps_n ?_ | ((with_reducible apply evOps_g); rfl)); intro K hK; simp (contextual := true) only [go_sem, simprocAttr]) | with_reducible refine evOps_nil ?_ | ((with_reducible refine hK _ ?_); clear hK K) | (with_reducible first | refine And.intro ?_ ?_ | refine nxt_n ?_ | refine nxt_r ?_ | refine nxt_e ?_ | refine blk_n ?_ | refine blk_r ?_ | refine blk_same ?_ | refine blk_other (by decide) ?_ | refine noG_n ?_ | refine noG_r ?_ | refine noG_e ?_ | refine inR_mk ?_ ?_) | (refine fun (hc : (_ : Bool) = _) => ?_; try simp only [hcS] at hc))
  all_goals try exact om_
  all_goals try (refine ⟨⟨i + 1, by omega, (by trivial)⟩, by simp only; omega, Imp.auto hX (by simp only [go_sem, simprocAttr, Cat.homI_succ, *])⟩)
  · (first | refine ret_auto ?_ | refine ret_auto' ?_); simp only [go_sem, simprocAttr, Tryz.f75]
    have : i = c.fr.length := by omega
    subst this
    simp [Cat.hom]
end Go.Eng
end
section
namespace Go.Eng
open Go Go.Proofs Go.Cats
attribute [local go_sem] colN_zero colN_len tb_zero tb_len
end Go.Eng
end
