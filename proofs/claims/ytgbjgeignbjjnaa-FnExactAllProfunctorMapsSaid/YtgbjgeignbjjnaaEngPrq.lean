/- The engine, part PR: profunctors. -/
import Derived.Test.YtgbjgeignbjjnaaKex
set_option linter.unusedVariables false
set_option linter.unusedSimpArgs false
namespace Go.Eng
open Go Go.Cats
structure _root_.Go.Cats.Prof where
  src : Cat
  tgt : Cat
  sz : List (List Int)
  bef : List (List (List Int))
  beh : List (List (List Int))
abbrev _root_.Go.Cats.Prof.S (p : Prof) (x y : Nat) : Int := (p.sz.getD x []).getD y 0
abbrev _root_.Go.Cats.Prof.B (p : Prof) (a y : Nat) : List Int := (p.bef.getD a []).getD y []
abbrev _root_.Go.Cats.Prof.H (p : Prof) (b x : Nat) : List Int := (p.beh.getD b []).getD x []
structure _root_.Go.Cats.LLB (l : List (List (List Int))) : Prop where
  l1 : l.length ≤ 1048576
  l2 : ∀ a, a < l.length → (l.getD a []).length ≤ 1048576
  l3 : ∀ a, a < l.length → ∀ y, y < (l.getD a []).length → ((l.getD a []).getD y []).length ≤ 1048576
structure _root_.Go.Cats.PrB (p : Prof) : Prop where
  src : CatB p.src
  tgt : CatB p.tgt
  sz : p.sz.length ≤ 1048576
  szr : ∀ x, x < p.sz.length → (p.sz.getD x []).length ≤ 1048576
  bef : LLB p.bef
  beh : LLB p.beh
def _root_.Go.Cats.SzOK (p : Prof) (x : Nat) : Prop := ((p.sz.getD x []).length : Int) = p.tgt.ob ∧ Within (p.sz.getD x []) 65
def _root_.Go.Cats.BeOK (p : Prof) (a y : Nat) : Prop := ((p.B a y).length : Int) = p.S (p.src.to.getD a 0).toNat y ∧ Within (p.B a y) (p.S (p.src.fr.getD a 0).toNat y)
def _root_.Go.Cats.HeOK (p : Prof) (b x : Nat) : Prop := ((p.H b x).length : Int) = p.S x (p.tgt.fr.getD b 0).toNat ∧ Within (p.H b x) (p.S x (p.tgt.to.getD b 0).toNat)
def _root_.Go.Cats.BrOK (p : Prof) (a : Nat) : Prop := ((p.bef.getD a []).length : Int) = p.tgt.ob ∧ ∀ y, y < (p.bef.getD a []).length → BeOK p a y
def _root_.Go.Cats.HrOK (p : Prof) (b : Nat) : Prop := ((p.beh.getD b []).length : Int) = p.src.ob ∧ ∀ x, x < (p.beh.getD b []).length → HeOK p b x
structure _root_.Go.Cats.PrShape (p : Prof) : Prop where
  src : IsCat p.src
  tgt : IsCat p.tgt
  szl : (p.sz.length : Int) = p.src.ob
  szr : ∀ x, x < p.sz.length → SzOK p x
  bel : p.bef.length = p.src.fr.length
  ber : ∀ a, a < p.bef.length → BrOK p a
  hel : p.beh.length = p.tgt.fr.length
  her : ∀ b, b < p.beh.length → HrOK p b
def profD (p : Prof) : List Dt := catD p.src ++ catD p.tgt ++ [intss p.sz, intsss p.bef, intsss p.beh]
def profS (ts : List (Nat × Nat)) (p : Prof) : List Sv := [iv p.src.ob, .bor ts (ints p.src.fr), .bor ts (ints p.src.to), .bor ts (ints p.src.id), .bor ts (intss p.src.co),
  iv p.tgt.ob, .bor ts (ints p.tgt.fr), .bor ts (ints p.tgt.to), .bor ts (ints p.tgt.id), .bor ts (intss p.tgt.co), .bor ts (intss p.sz), .bor ts (intsss p.bef), .bor ts (intsss p.beh)]
abbrev profV (p : Prof) : Sv := .agg (profS [] p)
section
variable (p : Prof) (ts : List (Nat × Nat))
@[go_sem] theorem profD_s : (profD p).take 5 = catD p.src := rfl
@[go_sem] theorem profD_t : ((profD p).drop 5).take 5 = catD p.tgt := rfl
@[go_sem] theorem profD_z : ((profD p).drop 10).take 1 = [intss p.sz] := rfl
@[go_sem] theorem profD_b : ((profD p).drop 11).take 1 = [intsss p.bef] := rfl
@[go_sem] theorem profD_h : ((profD p).drop 12).take 1 = [intsss p.beh] := rfl
@[go_sem] theorem profD_all : (profD p).take 13 = profD p := rfl
@[go_sem] theorem profD_l : (profD p).length = 13 := rfl
@[go_sem] theorem profD_map : (profD p).map (Sv.ofDt ts) = profS ts p := rfl
attribute [go_sem] profS
end
section
variable {p : Prof} {x y a b : Nat}
end
end Go.Eng
