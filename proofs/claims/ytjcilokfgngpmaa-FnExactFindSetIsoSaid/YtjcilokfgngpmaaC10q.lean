/- The key of lists: their numbers as bytes, each list closed by 255. -/
import Derived.Test.YtjcilokfgngpmaaG01q
import Derived.Test.YtjcilokfgngpmaaKex
set_option linter.unusedSimpArgs false
set_option linter.unusedVariables false
set_option maxRecDepth 100000
set_option maxHeartbeats 16000000
namespace Go.Eng
open Go Go.Proofs Go.Cats

@[go_sem] theorem bys_isSl (l) : (bys l).isSl = true := rfl
@[go_sem] theorem bys_sz (l) : (bys l).sz = 1 := rfl
@[go_sem] theorem bys_nc (l : List Int) : (bys l).nc = l.length := by simp [bys, Dt.nc, Dt.cells]
@[go_sem] theorem bys_len (l : List Int) : (bys l).len = l.length := by simp [bys, Dt.len, Dt.sz, Dt.nc, Dt.cells]
@[go_sem] theorem bys_ones (l : List Int) : (bys l).ones = true := by simp [bys, Dt.ones, Dt.cells, Dt.one, Value.oneCell']
@[go_sem] theorem bys_flat (l : List Int) : (bys l).flat = true := by simp [bys, Dt.flat, Dt.cells, Dt.isV]
@[go_sem] theorem bys_app (l m : List Int) : Dt.app 1 (.v (.int .u8 0)) (bys l) (bys m) = bys (l ++ m) := by simp [bys, Dt.app, Dt.cells]
@[go_sem] theorem bys_nil : Dt.sl 1 (.v (.int .u8 0)) [] = bys [] := rfl
@[go_sem] theorem bys_one (n : Int) : Dt.sl 1 (.v (.int .u8 0)) [.v (.int .u8 n)] = bys [n] := rfl

/-- The bytes of a key. -/
def keyL (ls : List (List Int)) : List Int := ls.flatMap fun l => l ++ [255]
@[go_sem] theorem keyL_nil : keyL [] = [] := rfl
def keyS (ls : List (List Int)) : ByteArray := strOfNums (keyL ls)
end Go.Eng
