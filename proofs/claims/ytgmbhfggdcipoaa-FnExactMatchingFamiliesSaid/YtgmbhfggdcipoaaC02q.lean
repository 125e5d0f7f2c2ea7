/- Lists of categories and functors; functors, by the law's own functions. -/
import Derived.Test.YtgmbhfggdcipoaaC01q
import Derived.Test.YtgmbhfggdcipoaaG06q
set_option linter.unusedSimpArgs false
set_option linter.unusedVariables false
set_option maxRecDepth 100000
set_option maxHeartbeats 8000000
namespace Go.Eng
open Go Go.Proofs Go.Cats

def catPs (f0 : Cat) (l : List Cat) : Dt := .sl 1 (.pt (catD f0)) (l.map fun f => .pt (catD f))
@[go_sem] theorem catPs_isSl (f0 l) : (catPs f0 l).isSl = true := rfl
@[go_sem] theorem catPs_sz (f0 l) : (catPs f0 l).sz = 1 := rfl
@[go_sem] theorem catPs_nc (f0) (l : List Cat) : (catPs f0 l).nc = l.length := by simp [catPs, Dt.nc, Dt.cells]
@[go_sem] theorem catPs_len (f0) (l : List Cat) : (catPs f0 l).len = l.length := by simp [catPs, Dt.len, Dt.sz, Dt.nc, Dt.cells]
@[go_sem] theorem catPs_at (f0) (l : List Cat) (k : Nat) : (catPs f0 l).at k = .pt (catD (l.getD k f0)) := by
  simp only [catPs, Dt.at, Dt.cells, Dt.df, List.getD_eq_getElem?_getD, List.getElem?_map]
  cases l[k]? <;> simp
def funPs (f0 : Fun) (l : List Fun) : Dt := .sl 1 (.pt (funD f0)) (l.map fun f => .pt (funD f))
@[go_sem] theorem funPs_isSl (f0 l) : (funPs f0 l).isSl = true := rfl
@[go_sem] theorem funPs_sz (f0 l) : (funPs f0 l).sz = 1 := rfl
@[go_sem] theorem funPs_nc (f0) (l : List Fun) : (funPs f0 l).nc = l.length := by simp [funPs, Dt.nc, Dt.cells]
@[go_sem] theorem funPs_len (f0) (l : List Fun) : (funPs f0 l).len = l.length := by simp [funPs, Dt.len, Dt.sz, Dt.nc, Dt.cells]
@[go_sem] theorem funPs_at (f0) (l : List Fun) (k : Nat) : (funPs f0 l).at k = .pt (funD (l.getD k f0)) := by
  simp only [funPs, Dt.at, Dt.cells, Dt.df, List.getD_eq_getElem?_getD, List.getElem?_map]
  cases l[k]? <;> simp

theorem _root_.Go.Cats.Fun.eq {f g : Fun} (h1 : f.src = g.src) (h2 : f.tgt = g.tgt) (h3 : f.obs = g.obs) (h4 : f.ars = g.ars) : f = g := by cases f; cases g; simp_all
def funSz (f : Fun) : Nat := catSz f.src + catSz f.tgt + f.obs.length + f.ars.length
structure FunL (f : Fun) : Prop where
  src : CatL f.src
  tgt : CatL f.tgt
  obs : (f.obs.length : Int) ≤ 9223372036854775807
  ars : (f.ars.length : Int) ≤ 9223372036854775807
end Go.Eng
