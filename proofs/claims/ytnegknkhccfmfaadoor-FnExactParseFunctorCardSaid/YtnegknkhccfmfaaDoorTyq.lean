/- MADE BY PROGRAM (gentypes.py): what is known of the types of the seat. -/
import Derived.Test.YtnegknkhccfmfaaDoorKcx
import Derived.Test.YtnegknkhccfmfaaDoorProg
namespace Go.Eng
open Go Go.Proofs
def tenv : TypeId → Ti
  | 2 => ⟨.ik .i64, 1, 8, [.int .i64 0], default⟩
  | 3 => ⟨.ik .i64, 1, 8, [.int .i64 0], default⟩
  | 4 => ⟨.bk, 1, 1, [.bool false], default⟩
  | 5 => ⟨.ik .u8, 1, 1, [.int .u8 0], default⟩
  | 6 => ⟨.ik .u8, 1, 1, [.int .u8 0], default⟩
  | 7 => ⟨.st [(0, 1), (1, 1), (2, 1), (3, 1)], 4, 24, [.int .i64 0, .int .i64 0, .bool false, .int .u8 0], default⟩
  | 8 => ⟨.st [(0, 1), (1, 1), (2, 1), (3, 1)], 4, 24, [.int .i64 0, .int .i64 0, .bool false, .int .u8 0], default⟩
  | 9 => ⟨.strk, 1, 16, [.string ⟨#[]⟩], default⟩
  | 10 => ⟨.strk, 1, 16, [.string ⟨#[]⟩], default⟩
  | 11 => ⟨.strk, 1, 16, [.string ⟨#[]⟩], default⟩
  | 12 => ⟨.ik .u64, 1, 8, [.int .u64 0], default⟩
  | 13 => ⟨.st [(0, 1), (1, 1)], 2, 24, [.string ⟨#[]⟩, .int .u64 0], default⟩
  | 14 => ⟨.st [(0, 1), (1, 1)], 2, 24, [.string ⟨#[]⟩, .int .u64 0], default⟩
  | 15 => ⟨.sc, 1, 8, [.pointer none], default⟩
  | 16 => ⟨.sc, 1, 8, [.pointer none], default⟩
  | 17 => ⟨.sc, 1, 8, [.pointer none], default⟩
  | 18 => ⟨.st [(0, 1)], 1, 8, [.pointer none], default⟩
  | 19 => ⟨.st [(0, 1)], 1, 8, [.pointer none], default⟩
  | 21 => ⟨.ik .i32, 1, 4, [.int .i32 0], default⟩
  | 22 => ⟨.sli 2 1 8 [.int .i64 0], 1, 24, [.slice none 0 0], .v (.int .i64 0)⟩
  | 23 => ⟨.sli 22 1 24 [.slice none 0 0], 1, 24, [.slice none 0 0], .sl 1 (.v (.int .i64 0)) []⟩
  | 24 => ⟨.st [(0, 1), (1, 1), (2, 1), (3, 1), (4, 1)], 5, 104, [.int .i64 0, .slice none 0 0, .slice none 0 0, .slice none 0 0, .slice none 0 0], default⟩
  | 25 => ⟨.st [(0, 1), (1, 1), (2, 1), (3, 1), (4, 1)], 5, 104, [.int .i64 0, .slice none 0 0, .slice none 0 0, .slice none 0 0, .slice none 0 0], default⟩
  | 27 => ⟨.st [(0, 1), (1, 1), (2, 1), (3, 1), (4, 1)], 5, 104, [.int .i64 0, .slice none 0 0, .slice none 0 0, .slice none 0 0, .slice none 0 0], default⟩
  | 28 => ⟨.st [(0, 5), (5, 5), (10, 1), (11, 1)], 12, 256, [.int .i64 0, .slice none 0 0, .slice none 0 0, .slice none 0 0, .slice none 0 0, .int .i64 0, .slice none 0 0, .slice none 0 0, .slice none 0 0, .slice none 0 0, .slice none 0 0, .slice none 0 0], default⟩
  | 29 => ⟨.st [(0, 5), (5, 5), (10, 1), (11, 1)], 12, 256, [.int .i64 0, .slice none 0 0, .slice none 0 0, .slice none 0 0, .slice none 0 0, .int .i64 0, .slice none 0 0, .slice none 0 0, .slice none 0 0, .slice none 0 0, .slice none 0 0, .slice none 0 0], default⟩
  | 41 => ⟨.sli 9 1 16 [.string ⟨#[]⟩], 1, 24, [.slice none 0 0], .v (.string ⟨#[]⟩)⟩
  | 51 => ⟨.sc, 1, 8, [.pointer none], default⟩
  | 59 => ⟨.sc, 1, 8, [.nilFunc], default⟩
  | 60 => ⟨.sc, 1, 8, [.nilFunc], default⟩
  | 61 => ⟨.sc, 1, 8, [.nilFunc], default⟩
  | 67 => ⟨.sc, 1, 8, [.nilFunc], default⟩
  | 69 => ⟨.sli 51 1 8 [.pointer none], 1, 24, [.slice none 0 0], .v (.pointer none)⟩
  | 73 => ⟨.sc, 1, 8, [.pointer none], default⟩
  | 74 => ⟨.sc, 1, 8, [.nilFunc], default⟩
  | 75 => ⟨.sc, 1, 8, [.nilFunc], default⟩
  | 80 => ⟨.sc, 1, 8, [.nilFunc], default⟩
  | 81 => ⟨.sc, 1, 8, [.nilFunc], default⟩
  | 82 => ⟨.sc, 1, 8, [.nilFunc], default⟩
  | 83 => ⟨.sli 5 1 1 [.int .u8 0], 1, 24, [.slice none 0 0], .v (.int .u8 0)⟩
  | 84 => ⟨.st [(0, 1), (1, 1)], 2, 16, [.int .i64 0, .int .i64 0], default⟩
  | 85 => ⟨.st [(0, 1), (1, 1)], 2, 16, [.int .i64 0, .int .i64 0], default⟩
  | 89 => ⟨.ik .u64, 1, 8, [.int .u64 0], default⟩
  | 91 => ⟨.ik .u32, 1, 4, [.int .u32 0], default⟩
  | 99 => ⟨.st [(0, 1), (1, 1)], 2, 2, [.int .u8 0, .int .u8 0], default⟩
  | 100 => ⟨.st [(0, 1), (1, 1)], 2, 2, [.int .u8 0, .int .u8 0], default⟩
  | 101 => ⟨.ar 16 2, 32, 32, [.int .u8 0, .int .u8 0, .int .u8 0, .int .u8 0, .int .u8 0, .int .u8 0, .int .u8 0, .int .u8 0, .int .u8 0, .int .u8 0, .int .u8 0, .int .u8 0, .int .u8 0, .int .u8 0, .int .u8 0, .int .u8 0, .int .u8 0, .int .u8 0, .int .u8 0, .int .u8 0, .int .u8 0, .int .u8 0, .int .u8 0, .int .u8 0, .int .u8 0, .int .u8 0, .int .u8 0, .int .u8 0, .int .u8 0, .int .u8 0, .int .u8 0, .int .u8 0], default⟩
  | 102 => ⟨.sc, 1, 8, [.pointer none], default⟩
  | 104 => ⟨.st [(0, 1), (1, 1), (2, 1), (3, 1)], 4, 40, [.pointer none, .pointer none, .pointer none, .string ⟨#[]⟩], default⟩
  | 105 => ⟨.st [(0, 1), (1, 1), (2, 1), (3, 1)], 4, 40, [.pointer none, .pointer none, .pointer none, .string ⟨#[]⟩], default⟩
  | 110 => ⟨.ik .u8, 1, 1, [.int .u8 0], default⟩
  | 111 => ⟨.ik .u8, 1, 1, [.int .u8 0], default⟩
  | 113 => ⟨.sc, 1, 8, [.pointer none], default⟩
  | 114 => ⟨.ik .i32, 1, 4, [.int .i32 0], default⟩
  | 115 => ⟨.ik .i32, 1, 4, [.int .i32 0], default⟩
  | 116 => ⟨.st [(0, 1), (1, 1), (2, 1), (3, 1), (4, 1), (5, 1), (6, 1), (7, 1), (8, 1), (9, 1), (10, 1)], 11, 48, [.int .u64 0, .int .u64 0, .int .u32 0, .int .u8 0, .int .u8 0, .int .u8 0, .int .u8 0, .nilFunc, .pointer none, .int .i32 0, .int .i32 0], default⟩
  | 117 => ⟨.st [(0, 1), (1, 1), (2, 1), (3, 1), (4, 1), (5, 1), (6, 1), (7, 1), (8, 1), (9, 1), (10, 1)], 11, 48, [.int .u64 0, .int .u64 0, .int .u32 0, .int .u8 0, .int .u8 0, .int .u8 0, .int .u8 0, .nilFunc, .pointer none, .int .i32 0, .int .i32 0], default⟩
  | 118 => ⟨.st [(0, 1)], 1, 16, [.string ⟨#[]⟩], default⟩
  | 119 => ⟨.st [(0, 1)], 1, 16, [.string ⟨#[]⟩], default⟩
  | _ => Ti.no
@[go_sem] theorem tenv2 : tenv 2 = ⟨.ik .i64, 1, 8, [.int .i64 0], default⟩ := rfl
@[go_sem] theorem tenv3 : tenv 3 = ⟨.ik .i64, 1, 8, [.int .i64 0], default⟩ := rfl
@[go_sem] theorem tenv4 : tenv 4 = ⟨.bk, 1, 1, [.bool false], default⟩ := rfl
@[go_sem] theorem tenv5 : tenv 5 = ⟨.ik .u8, 1, 1, [.int .u8 0], default⟩ := rfl
@[go_sem] theorem tenv6 : tenv 6 = ⟨.ik .u8, 1, 1, [.int .u8 0], default⟩ := rfl
@[go_sem] theorem tenv7 : tenv 7 = ⟨.st [(0, 1), (1, 1), (2, 1), (3, 1)], 4, 24, [.int .i64 0, .int .i64 0, .bool false, .int .u8 0], default⟩ := rfl
@[go_sem] theorem tenv8 : tenv 8 = ⟨.st [(0, 1), (1, 1), (2, 1), (3, 1)], 4, 24, [.int .i64 0, .int .i64 0, .bool false, .int .u8 0], default⟩ := rfl
@[go_sem] theorem tenv9 : tenv 9 = ⟨.strk, 1, 16, [.string ⟨#[]⟩], default⟩ := rfl
@[go_sem] theorem tenv10 : tenv 10 = ⟨.strk, 1, 16, [.string ⟨#[]⟩], default⟩ := rfl
@[go_sem] theorem tenv11 : tenv 11 = ⟨.strk, 1, 16, [.string ⟨#[]⟩], default⟩ := rfl
@[go_sem] theorem tenv12 : tenv 12 = ⟨.ik .u64, 1, 8, [.int .u64 0], default⟩ := rfl
@[go_sem] theorem tenv13 : tenv 13 = ⟨.st [(0, 1), (1, 1)], 2, 24, [.string ⟨#[]⟩, .int .u64 0], default⟩ := rfl
@[go_sem] theorem tenv14 : tenv 14 = ⟨.st [(0, 1), (1, 1)], 2, 24, [.string ⟨#[]⟩, .int .u64 0], default⟩ := rfl
@[go_sem] theorem tenv15 : tenv 15 = ⟨.sc, 1, 8, [.pointer none], default⟩ := rfl
@[go_sem] theorem tenv16 : tenv 16 = ⟨.sc, 1, 8, [.pointer none], default⟩ := rfl
@[go_sem] theorem tenv17 : tenv 17 = ⟨.sc, 1, 8, [.pointer none], default⟩ := rfl
@[go_sem] theorem tenv18 : tenv 18 = ⟨.st [(0, 1)], 1, 8, [.pointer none], default⟩ := rfl
@[go_sem] theorem tenv19 : tenv 19 = ⟨.st [(0, 1)], 1, 8, [.pointer none], default⟩ := rfl
@[go_sem] theorem tenv21 : tenv 21 = ⟨.ik .i32, 1, 4, [.int .i32 0], default⟩ := rfl
@[go_sem] theorem tenv22 : tenv 22 = ⟨.sli 2 1 8 [.int .i64 0], 1, 24, [.slice none 0 0], .v (.int .i64 0)⟩ := rfl
@[go_sem] theorem tenv23 : tenv 23 = ⟨.sli 22 1 24 [.slice none 0 0], 1, 24, [.slice none 0 0], .sl 1 (.v (.int .i64 0)) []⟩ := rfl
@[go_sem] theorem tenv24 : tenv 24 = ⟨.st [(0, 1), (1, 1), (2, 1), (3, 1), (4, 1)], 5, 104, [.int .i64 0, .slice none 0 0, .slice none 0 0, .slice none 0 0, .slice none 0 0], default⟩ := rfl
@[go_sem] theorem tenv25 : tenv 25 = ⟨.st [(0, 1), (1, 1), (2, 1), (3, 1), (4, 1)], 5, 104, [.int .i64 0, .slice none 0 0, .slice none 0 0, .slice none 0 0, .slice none 0 0], default⟩ := rfl
@[go_sem] theorem tenv27 : tenv 27 = ⟨.st [(0, 1), (1, 1), (2, 1), (3, 1), (4, 1)], 5, 104, [.int .i64 0, .slice none 0 0, .slice none 0 0, .slice none 0 0, .slice none 0 0], default⟩ := rfl
@[go_sem] theorem tenv28 : tenv 28 = ⟨.st [(0, 5), (5, 5), (10, 1), (11, 1)], 12, 256, [.int .i64 0, .slice none 0 0, .slice none 0 0, .slice none 0 0, .slice none 0 0, .int .i64 0, .slice none 0 0, .slice none 0 0, .slice none 0 0, .slice none 0 0, .slice none 0 0, .slice none 0 0], default⟩ := rfl
@[go_sem] theorem tenv29 : tenv 29 = ⟨.st [(0, 5), (5, 5), (10, 1), (11, 1)], 12, 256, [.int .i64 0, .slice none 0 0, .slice none 0 0, .slice none 0 0, .slice none 0 0, .int .i64 0, .slice none 0 0, .slice none 0 0, .slice none 0 0, .slice none 0 0, .slice none 0 0, .slice none 0 0], default⟩ := rfl
@[go_sem] theorem tenv41 : tenv 41 = ⟨.sli 9 1 16 [.string ⟨#[]⟩], 1, 24, [.slice none 0 0], .v (.string ⟨#[]⟩)⟩ := rfl
@[go_sem] theorem tenv51 : tenv 51 = ⟨.sc, 1, 8, [.pointer none], default⟩ := rfl
@[go_sem] theorem tenv59 : tenv 59 = ⟨.sc, 1, 8, [.nilFunc], default⟩ := rfl
@[go_sem] theorem tenv60 : tenv 60 = ⟨.sc, 1, 8, [.nilFunc], default⟩ := rfl
@[go_sem] theorem tenv61 : tenv 61 = ⟨.sc, 1, 8, [.nilFunc], default⟩ := rfl
@[go_sem] theorem tenv67 : tenv 67 = ⟨.sc, 1, 8, [.nilFunc], default⟩ := rfl
@[go_sem] theorem tenv69 : tenv 69 = ⟨.sli 51 1 8 [.pointer none], 1, 24, [.slice none 0 0], .v (.pointer none)⟩ := rfl
@[go_sem] theorem tenv73 : tenv 73 = ⟨.sc, 1, 8, [.pointer none], default⟩ := rfl
@[go_sem] theorem tenv74 : tenv 74 = ⟨.sc, 1, 8, [.nilFunc], default⟩ := rfl
@[go_sem] theorem tenv75 : tenv 75 = ⟨.sc, 1, 8, [.nilFunc], default⟩ := rfl
@[go_sem] theorem tenv80 : tenv 80 = ⟨.sc, 1, 8, [.nilFunc], default⟩ := rfl
@[go_sem] theorem tenv81 : tenv 81 = ⟨.sc, 1, 8, [.nilFunc], default⟩ := rfl
@[go_sem] theorem tenv82 : tenv 82 = ⟨.sc, 1, 8, [.nilFunc], default⟩ := rfl
@[go_sem] theorem tenv83 : tenv 83 = ⟨.sli 5 1 1 [.int .u8 0], 1, 24, [.slice none 0 0], .v (.int .u8 0)⟩ := rfl
@[go_sem] theorem tenv84 : tenv 84 = ⟨.st [(0, 1), (1, 1)], 2, 16, [.int .i64 0, .int .i64 0], default⟩ := rfl
@[go_sem] theorem tenv85 : tenv 85 = ⟨.st [(0, 1), (1, 1)], 2, 16, [.int .i64 0, .int .i64 0], default⟩ := rfl
@[go_sem] theorem tenv89 : tenv 89 = ⟨.ik .u64, 1, 8, [.int .u64 0], default⟩ := rfl
@[go_sem] theorem tenv91 : tenv 91 = ⟨.ik .u32, 1, 4, [.int .u32 0], default⟩ := rfl
@[go_sem] theorem tenv99 : tenv 99 = ⟨.st [(0, 1), (1, 1)], 2, 2, [.int .u8 0, .int .u8 0], default⟩ := rfl
@[go_sem] theorem tenv100 : tenv 100 = ⟨.st [(0, 1), (1, 1)], 2, 2, [.int .u8 0, .int .u8 0], default⟩ := rfl
@[go_sem] theorem tenv101 : tenv 101 = ⟨.ar 16 2, 32, 32, [.int .u8 0, .int .u8 0, .int .u8 0, .int .u8 0, .int .u8 0, .int .u8 0, .int .u8 0, .int .u8 0, .int .u8 0, .int .u8 0, .int .u8 0, .int .u8 0, .int .u8 0, .int .u8 0, .int .u8 0, .int .u8 0, .int .u8 0, .int .u8 0, .int .u8 0, .int .u8 0, .int .u8 0, .int .u8 0, .int .u8 0, .int .u8 0, .int .u8 0, .int .u8 0, .int .u8 0, .int .u8 0, .int .u8 0, .int .u8 0, .int .u8 0, .int .u8 0], default⟩ := rfl
@[go_sem] theorem tenv102 : tenv 102 = ⟨.sc, 1, 8, [.pointer none], default⟩ := rfl
@[go_sem] theorem tenv104 : tenv 104 = ⟨.st [(0, 1), (1, 1), (2, 1), (3, 1)], 4, 40, [.pointer none, .pointer none, .pointer none, .string ⟨#[]⟩], default⟩ := rfl
@[go_sem] theorem tenv105 : tenv 105 = ⟨.st [(0, 1), (1, 1), (2, 1), (3, 1)], 4, 40, [.pointer none, .pointer none, .pointer none, .string ⟨#[]⟩], default⟩ := rfl
@[go_sem] theorem tenv110 : tenv 110 = ⟨.ik .u8, 1, 1, [.int .u8 0], default⟩ := rfl
@[go_sem] theorem tenv111 : tenv 111 = ⟨.ik .u8, 1, 1, [.int .u8 0], default⟩ := rfl
@[go_sem] theorem tenv113 : tenv 113 = ⟨.sc, 1, 8, [.pointer none], default⟩ := rfl
@[go_sem] theorem tenv114 : tenv 114 = ⟨.ik .i32, 1, 4, [.int .i32 0], default⟩ := rfl
@[go_sem] theorem tenv115 : tenv 115 = ⟨.ik .i32, 1, 4, [.int .i32 0], default⟩ := rfl
@[go_sem] theorem tenv116 : tenv 116 = ⟨.st [(0, 1), (1, 1), (2, 1), (3, 1), (4, 1), (5, 1), (6, 1), (7, 1), (8, 1), (9, 1), (10, 1)], 11, 48, [.int .u64 0, .int .u64 0, .int .u32 0, .int .u8 0, .int .u8 0, .int .u8 0, .int .u8 0, .nilFunc, .pointer none, .int .i32 0, .int .i32 0], default⟩ := rfl
@[go_sem] theorem tenv117 : tenv 117 = ⟨.st [(0, 1), (1, 1), (2, 1), (3, 1), (4, 1), (5, 1), (6, 1), (7, 1), (8, 1), (9, 1), (10, 1)], 11, 48, [.int .u64 0, .int .u64 0, .int .u32 0, .int .u8 0, .int .u8 0, .int .u8 0, .int .u8 0, .nilFunc, .pointer none, .int .i32 0, .int .i32 0], default⟩ := rfl
@[go_sem] theorem tenv118 : tenv 118 = ⟨.st [(0, 1)], 1, 16, [.string ⟨#[]⟩], default⟩ := rfl
@[go_sem] theorem tenv119 : tenv 119 = ⟨.st [(0, 1)], 1, 16, [.string ⟨#[]⟩], default⟩ := rfl
set_option maxRecDepth 100000 in
theorem ty2 : TiOk Tryd.prog 2 (tenv 2) := ⟨⟨_, _, Tryd.type2, rfl, rfl, rfl, rfl⟩, Tryd.underlying2⟩
set_option maxRecDepth 100000 in
theorem ty3 : TiOk Tryd.prog 3 (tenv 3) := ⟨⟨_, _, Tryd.type3, rfl, rfl, rfl, rfl⟩, Tryd.underlying3⟩
set_option maxRecDepth 100000 in
theorem ty4 : TiOk Tryd.prog 4 (tenv 4) := ⟨⟨_, _, Tryd.type4, rfl, rfl, rfl, rfl⟩, Tryd.underlying4⟩
set_option maxRecDepth 100000 in
theorem ty5 : TiOk Tryd.prog 5 (tenv 5) := ⟨⟨_, _, Tryd.type5, rfl, rfl, rfl, rfl⟩, Tryd.underlying5⟩
set_option maxRecDepth 100000 in
theorem ty6 : TiOk Tryd.prog 6 (tenv 6) := ⟨⟨_, _, Tryd.type6, rfl, rfl, rfl, rfl⟩, Tryd.underlying6⟩
set_option maxRecDepth 100000 in
theorem ty7 : TiOk Tryd.prog 7 (tenv 7) := ⟨⟨_, _, Tryd.type7, rfl, rfl, rfl, rfl⟩, _, Tryd.underlying7, rfl, by kernel_rfl, rfl⟩
set_option maxRecDepth 100000 in
theorem ty8 : TiOk Tryd.prog 8 (tenv 8) := ⟨⟨_, _, Tryd.type8, rfl, rfl, rfl, rfl⟩, _, Tryd.underlying8, rfl, by kernel_rfl, rfl⟩
set_option maxRecDepth 100000 in
theorem ty9 : TiOk Tryd.prog 9 (tenv 9) := ⟨⟨_, _, Tryd.type9, rfl, rfl, rfl, rfl⟩, Tryd.underlying9⟩
set_option maxRecDepth 100000 in
theorem ty10 : TiOk Tryd.prog 10 (tenv 10) := ⟨⟨_, _, Tryd.type10, rfl, rfl, rfl, rfl⟩, Tryd.underlying10⟩
set_option maxRecDepth 100000 in
theorem ty11 : TiOk Tryd.prog 11 (tenv 11) := ⟨⟨_, _, Tryd.type11, rfl, rfl, rfl, rfl⟩, Tryd.underlying11⟩
set_option maxRecDepth 100000 in
theorem ty12 : TiOk Tryd.prog 12 (tenv 12) := ⟨⟨_, _, Tryd.type12, rfl, rfl, rfl, rfl⟩, Tryd.underlying12⟩
set_option maxRecDepth 100000 in
theorem ty13 : TiOk Tryd.prog 13 (tenv 13) := ⟨⟨_, _, Tryd.type13, rfl, rfl, rfl, rfl⟩, _, Tryd.underlying13, rfl, by kernel_rfl, rfl⟩
set_option maxRecDepth 100000 in
theorem ty14 : TiOk Tryd.prog 14 (tenv 14) := ⟨⟨_, _, Tryd.type14, rfl, rfl, rfl, rfl⟩, _, Tryd.underlying14, rfl, by kernel_rfl, rfl⟩
set_option maxRecDepth 100000 in
theorem ty15 : TiOk Tryd.prog 15 (tenv 15) := ⟨⟨_, _, Tryd.type15, rfl, rfl, rfl, rfl⟩, _, Tryd.underlying15, trivial⟩
set_option maxRecDepth 100000 in
theorem ty16 : TiOk Tryd.prog 16 (tenv 16) := ⟨⟨_, _, Tryd.type16, rfl, rfl, rfl, rfl⟩, _, Tryd.underlying16, trivial⟩
set_option maxRecDepth 100000 in
theorem ty17 : TiOk Tryd.prog 17 (tenv 17) := ⟨⟨_, _, Tryd.type17, rfl, rfl, rfl, rfl⟩, _, Tryd.underlying17, trivial⟩
set_option maxRecDepth 100000 in
theorem ty18 : TiOk Tryd.prog 18 (tenv 18) := ⟨⟨_, _, Tryd.type18, rfl, rfl, rfl, rfl⟩, _, Tryd.underlying18, rfl, by kernel_rfl, rfl⟩
set_option maxRecDepth 100000 in
theorem ty19 : TiOk Tryd.prog 19 (tenv 19) := ⟨⟨_, _, Tryd.type19, rfl, rfl, rfl, rfl⟩, _, Tryd.underlying19, rfl, by kernel_rfl, rfl⟩
set_option maxRecDepth 100000 in
theorem ty21 : TiOk Tryd.prog 21 (tenv 21) := ⟨⟨_, _, Tryd.type21, rfl, rfl, rfl, rfl⟩, Tryd.underlying21⟩
set_option maxRecDepth 100000 in
theorem ty22 : TiOk Tryd.prog 22 (tenv 22) := ⟨⟨_, _, Tryd.type22, rfl, rfl, rfl, rfl⟩, Tryd.underlying22, ⟨_, _, Tryd.type2, rfl, rfl, rfl, rfl⟩⟩
set_option maxRecDepth 100000 in
theorem ty23 : TiOk Tryd.prog 23 (tenv 23) := ⟨⟨_, _, Tryd.type23, rfl, rfl, rfl, rfl⟩, Tryd.underlying23, ⟨_, _, Tryd.type22, rfl, rfl, rfl, rfl⟩⟩
set_option maxRecDepth 100000 in
theorem ty24 : TiOk Tryd.prog 24 (tenv 24) := ⟨⟨_, _, Tryd.type24, rfl, rfl, rfl, rfl⟩, _, Tryd.underlying24, rfl, by kernel_rfl, rfl⟩
set_option maxRecDepth 100000 in
theorem ty25 : TiOk Tryd.prog 25 (tenv 25) := ⟨⟨_, _, Tryd.type25, rfl, rfl, rfl, rfl⟩, _, Tryd.underlying25, rfl, by kernel_rfl, rfl⟩
set_option maxRecDepth 100000 in
theorem ty27 : TiOk Tryd.prog 27 (tenv 27) := ⟨⟨_, _, Tryd.type27, rfl, rfl, rfl, rfl⟩, _, Tryd.underlying27, rfl, by kernel_rfl, rfl⟩
set_option maxRecDepth 100000 in
theorem ty28 : TiOk Tryd.prog 28 (tenv 28) := ⟨⟨_, _, Tryd.type28, rfl, rfl, rfl, rfl⟩, _, Tryd.underlying28, rfl, by kernel_rfl, rfl⟩
set_option maxRecDepth 100000 in
theorem ty29 : TiOk Tryd.prog 29 (tenv 29) := ⟨⟨_, _, Tryd.type29, rfl, rfl, rfl, rfl⟩, _, Tryd.underlying29, rfl, by kernel_rfl, rfl⟩
set_option maxRecDepth 100000 in
theorem ty41 : TiOk Tryd.prog 41 (tenv 41) := ⟨⟨_, _, Tryd.type41, rfl, rfl, rfl, rfl⟩, Tryd.underlying41, ⟨_, _, Tryd.type9, rfl, rfl, rfl, rfl⟩⟩
set_option maxRecDepth 100000 in
theorem ty51 : TiOk Tryd.prog 51 (tenv 51) := ⟨⟨_, _, Tryd.type51, rfl, rfl, rfl, rfl⟩, _, Tryd.underlying51, trivial⟩
set_option maxRecDepth 100000 in
theorem ty59 : TiOk Tryd.prog 59 (tenv 59) := ⟨⟨_, _, Tryd.type59, rfl, rfl, rfl, rfl⟩, _, Tryd.underlying59, trivial⟩
set_option maxRecDepth 100000 in
theorem ty60 : TiOk Tryd.prog 60 (tenv 60) := ⟨⟨_, _, Tryd.type60, rfl, rfl, rfl, rfl⟩, _, Tryd.underlying60, trivial⟩
set_option maxRecDepth 100000 in
theorem ty61 : TiOk Tryd.prog 61 (tenv 61) := ⟨⟨_, _, Tryd.type61, rfl, rfl, rfl, rfl⟩, _, Tryd.underlying61, trivial⟩
set_option maxRecDepth 100000 in
theorem ty67 : TiOk Tryd.prog 67 (tenv 67) := ⟨⟨_, _, Tryd.type67, rfl, rfl, rfl, rfl⟩, _, Tryd.underlying67, trivial⟩
set_option maxRecDepth 100000 in
theorem ty69 : TiOk Tryd.prog 69 (tenv 69) := ⟨⟨_, _, Tryd.type69, rfl, rfl, rfl, rfl⟩, Tryd.underlying69, ⟨_, _, Tryd.type51, rfl, rfl, rfl, rfl⟩⟩
set_option maxRecDepth 100000 in
theorem ty73 : TiOk Tryd.prog 73 (tenv 73) := ⟨⟨_, _, Tryd.type73, rfl, rfl, rfl, rfl⟩, _, Tryd.underlying73, trivial⟩
set_option maxRecDepth 100000 in
theorem ty74 : TiOk Tryd.prog 74 (tenv 74) := ⟨⟨_, _, Tryd.type74, rfl, rfl, rfl, rfl⟩, _, Tryd.underlying74, trivial⟩
set_option maxRecDepth 100000 in
theorem ty75 : TiOk Tryd.prog 75 (tenv 75) := ⟨⟨_, _, Tryd.type75, rfl, rfl, rfl, rfl⟩, _, Tryd.underlying75, trivial⟩
set_option maxRecDepth 100000 in
theorem ty80 : TiOk Tryd.prog 80 (tenv 80) := ⟨⟨_, _, Tryd.type80, rfl, rfl, rfl, rfl⟩, _, Tryd.underlying80, trivial⟩
set_option maxRecDepth 100000 in
theorem ty81 : TiOk Tryd.prog 81 (tenv 81) := ⟨⟨_, _, Tryd.type81, rfl, rfl, rfl, rfl⟩, _, Tryd.underlying81, trivial⟩
set_option maxRecDepth 100000 in
theorem ty82 : TiOk Tryd.prog 82 (tenv 82) := ⟨⟨_, _, Tryd.type82, rfl, rfl, rfl, rfl⟩, _, Tryd.underlying82, trivial⟩
set_option maxRecDepth 100000 in
theorem ty83 : TiOk Tryd.prog 83 (tenv 83) := ⟨⟨_, _, Tryd.type83, rfl, rfl, rfl, rfl⟩, Tryd.underlying83, ⟨_, _, Tryd.type5, rfl, rfl, rfl, rfl⟩⟩
set_option maxRecDepth 100000 in
theorem ty84 : TiOk Tryd.prog 84 (tenv 84) := ⟨⟨_, _, Tryd.type84, rfl, rfl, rfl, rfl⟩, _, Tryd.underlying84, rfl, by kernel_rfl, rfl⟩
set_option maxRecDepth 100000 in
theorem ty85 : TiOk Tryd.prog 85 (tenv 85) := ⟨⟨_, _, Tryd.type85, rfl, rfl, rfl, rfl⟩, _, Tryd.underlying85, rfl, by kernel_rfl, rfl⟩
set_option maxRecDepth 100000 in
theorem ty89 : TiOk Tryd.prog 89 (tenv 89) := ⟨⟨_, _, Tryd.type89, rfl, rfl, rfl, rfl⟩, Tryd.underlying89⟩
set_option maxRecDepth 100000 in
theorem ty91 : TiOk Tryd.prog 91 (tenv 91) := ⟨⟨_, _, Tryd.type91, rfl, rfl, rfl, rfl⟩, Tryd.underlying91⟩
set_option maxRecDepth 100000 in
theorem ty99 : TiOk Tryd.prog 99 (tenv 99) := ⟨⟨_, _, Tryd.type99, rfl, rfl, rfl, rfl⟩, _, Tryd.underlying99, rfl, by kernel_rfl, rfl⟩
set_option maxRecDepth 100000 in
theorem ty100 : TiOk Tryd.prog 100 (tenv 100) := ⟨⟨_, _, Tryd.type100, rfl, rfl, rfl, rfl⟩, _, Tryd.underlying100, rfl, by kernel_rfl, rfl⟩
set_option maxRecDepth 100000 in
theorem ty101 : TiOk Tryd.prog 101 (tenv 101) := ⟨⟨_, _, Tryd.type101, rfl, rfl, rfl, rfl⟩, _, _, _, Tryd.underlying101, ⟨_, _, Tryd.type100, rfl, rfl, rfl, rfl⟩⟩
set_option maxRecDepth 100000 in
theorem ty102 : TiOk Tryd.prog 102 (tenv 102) := ⟨⟨_, _, Tryd.type102, rfl, rfl, rfl, rfl⟩, _, Tryd.underlying102, trivial⟩
set_option maxRecDepth 100000 in
theorem ty104 : TiOk Tryd.prog 104 (tenv 104) := ⟨⟨_, _, Tryd.type104, rfl, rfl, rfl, rfl⟩, _, Tryd.underlying104, rfl, by kernel_rfl, rfl⟩
set_option maxRecDepth 100000 in
theorem ty105 : TiOk Tryd.prog 105 (tenv 105) := ⟨⟨_, _, Tryd.type105, rfl, rfl, rfl, rfl⟩, _, Tryd.underlying105, rfl, by kernel_rfl, rfl⟩
set_option maxRecDepth 100000 in
theorem ty110 : TiOk Tryd.prog 110 (tenv 110) := ⟨⟨_, _, Tryd.type110, rfl, rfl, rfl, rfl⟩, Tryd.underlying110⟩
set_option maxRecDepth 100000 in
theorem ty111 : TiOk Tryd.prog 111 (tenv 111) := ⟨⟨_, _, Tryd.type111, rfl, rfl, rfl, rfl⟩, Tryd.underlying111⟩
set_option maxRecDepth 100000 in
theorem ty113 : TiOk Tryd.prog 113 (tenv 113) := ⟨⟨_, _, Tryd.type113, rfl, rfl, rfl, rfl⟩, _, Tryd.underlying113, trivial⟩
set_option maxRecDepth 100000 in
theorem ty114 : TiOk Tryd.prog 114 (tenv 114) := ⟨⟨_, _, Tryd.type114, rfl, rfl, rfl, rfl⟩, Tryd.underlying114⟩
set_option maxRecDepth 100000 in
theorem ty115 : TiOk Tryd.prog 115 (tenv 115) := ⟨⟨_, _, Tryd.type115, rfl, rfl, rfl, rfl⟩, Tryd.underlying115⟩
set_option maxRecDepth 100000 in
theorem ty116 : TiOk Tryd.prog 116 (tenv 116) := ⟨⟨_, _, Tryd.type116, rfl, rfl, rfl, rfl⟩, _, Tryd.underlying116, rfl, by kernel_rfl, rfl⟩
set_option maxRecDepth 100000 in
theorem ty117 : TiOk Tryd.prog 117 (tenv 117) := ⟨⟨_, _, Tryd.type117, rfl, rfl, rfl, rfl⟩, _, Tryd.underlying117, rfl, by kernel_rfl, rfl⟩
set_option maxRecDepth 100000 in
theorem ty118 : TiOk Tryd.prog 118 (tenv 118) := ⟨⟨_, _, Tryd.type118, rfl, rfl, rfl, rfl⟩, _, Tryd.underlying118, rfl, by kernel_rfl, rfl⟩
set_option maxRecDepth 100000 in
theorem ty119 : TiOk Tryd.prog 119 (tenv 119) := ⟨⟨_, _, Tryd.type119, rfl, rfl, rfl, rfl⟩, _, Tryd.underlying119, rfl, by kernel_rfl, rfl⟩
theorem tok : ∀ t, TiOk Tryd.prog t (tenv t) := by
  intro t
  by_cases h : t ∈ [2, 3, 4, 5, 6, 7, 8, 9, 10, 11, 12, 13, 14, 15, 16, 17, 18, 19, 21, 22, 23, 24, 25, 27, 28, 29, 41, 51, 59, 60, 61, 67, 69, 73, 74, 75, 80, 81, 82, 83, 84, 85, 89, 91, 99, 100, 101, 102, 104, 105, 110, 111, 113, 114, 115, 116, 117, 118, 119]
  · simp only [List.mem_cons, List.not_mem_nil, or_false] at h
    rcases h with rfl | rfl | rfl | rfl | rfl | rfl | rfl | rfl | rfl | rfl | rfl | rfl | rfl | rfl | rfl | rfl | rfl | rfl | rfl | rfl | rfl | rfl | rfl | rfl | rfl | rfl | rfl | rfl | rfl | rfl | rfl | rfl | rfl | rfl | rfl | rfl | rfl | rfl | rfl | rfl | rfl | rfl | rfl | rfl | rfl | rfl | rfl | rfl | rfl | rfl | rfl | rfl | rfl | rfl | rfl | rfl | rfl | rfl | rfl
    · exact ty2
    · exact ty3
    · exact ty4
    · exact ty5
    · exact ty6
    · exact ty7
    · exact ty8
    · exact ty9
    · exact ty10
    · exact ty11
    · exact ty12
    · exact ty13
    · exact ty14
    · exact ty15
    · exact ty16
    · exact ty17
    · exact ty18
    · exact ty19
    · exact ty21
    · exact ty22
    · exact ty23
    · exact ty24
    · exact ty25
    · exact ty27
    · exact ty28
    · exact ty29
    · exact ty41
    · exact ty51
    · exact ty59
    · exact ty60
    · exact ty61
    · exact ty67
    · exact ty69
    · exact ty73
    · exact ty74
    · exact ty75
    · exact ty80
    · exact ty81
    · exact ty82
    · exact ty83
    · exact ty84
    · exact ty85
    · exact ty89
    · exact ty91
    · exact ty99
    · exact ty100
    · exact ty101
    · exact ty102
    · exact ty104
    · exact ty105
    · exact ty110
    · exact ty111
    · exact ty113
    · exact ty114
    · exact ty115
    · exact ty116
    · exact ty117
    · exact ty118
    · exact ty119
  · have : tenv t = Ti.no := by
      unfold tenv
      split
      all_goals first | rfl | (exfalso; apply h; decide)
    rw [this]; trivial
noncomputable def TE : Env := { P := Tryd.prog, ti := tenv, ok := tok }
@[go_sem] theorem TE_ti (t : TypeId) : TE.ti t = tenv t := rfl
@[go_sem] theorem TE_P : TE.P = Tryd.prog := rfl
end Go.Eng
