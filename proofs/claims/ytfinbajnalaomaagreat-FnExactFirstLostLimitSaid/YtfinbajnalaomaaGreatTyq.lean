/- MADE BY PROGRAM (gentypes.py): what is known of the types of the seat. -/
import Derived.Test.YtfinbajnalaomaaGreatKcx
import Derived.Test.YtfinbajnalaomaaGreatProg
namespace Go.Eng
open Go Go.Proofs
def tenv : TypeId → Ti
  | 2 => ⟨.ik .i64, 1, 8, [.int .i64 0], default⟩
  | 3 => ⟨.ik .i64, 1, 8, [.int .i64 0], default⟩
  | 4 => ⟨.bk, 1, 1, [.bool false], default⟩
  | 5 => ⟨.ik .u8, 1, 1, [.int .u8 0], default⟩
  | 6 => ⟨.ik .u8, 1, 1, [.int .u8 0], default⟩
  | 7 => ⟨.st [(0, 1), (1, 1), (2, 1), (3, 1)], 4, 24, [.int .i64 0, .int .i64 0, .bool false, .int .u8 0], default⟩
  | 8 => ⟨.st [(0, 1), (1, 1), (2, 1), (3, 1)], 4, 24, [.int .i64 0, .int .i64 0, .bool false, .int .u8 0], default⟩
  | 9 => ⟨.strk, 1, 16, [.string ⟨#[]⟩], default⟩
  | 10 => ⟨.strk, 1, 16, [.string ⟨#[]⟩], default⟩
  | 11 => ⟨.strk, 1, 16, [.string ⟨#[]⟩], default⟩
  | 12 => ⟨.ik .u64, 1, 8, [.int .u64 0], default⟩
  | 13 => ⟨.st [(0, 1), (1, 1)], 2, 24, [.string ⟨#[]⟩, .int .u64 0], default⟩
  | 14 => ⟨.st [(0, 1), (1, 1)], 2, 24, [.string ⟨#[]⟩, .int .u64 0], default⟩
  | 15 => ⟨.sc, 1, 8, [.pointer none], default⟩
  | 16 => ⟨.sc, 1, 8, [.pointer none], default⟩
  | 17 => ⟨.sc, 1, 8, [.pointer none], default⟩
  | 18 => ⟨.st [(0, 1)], 1, 8, [.pointer none], default⟩
  | 19 => ⟨.st [(0, 1)], 1, 8, [.pointer none], default⟩
  | 21 => ⟨.ik .i32, 1, 4, [.int .i32 0], default⟩
  | 22 => ⟨.sli 2 1 8 [.int .i64 0], 1, 24, [.slice none 0 0], .v (.int .i64 0)⟩
  | 23 => ⟨.sli 22 1 24 [.slice none 0 0], 1, 24, [.slice none 0 0], .sl 1 (.v (.int .i64 0)) []⟩
  | 24 => ⟨.st [(0, 1), (1, 1), (2, 1), (3, 1), (4, 1)], 5, 104, [.int .i64 0, .slice none 0 0, .slice none 0 0, .slice none 0 0, .slice none 0 0], default⟩
  | 25 => ⟨.st [(0, 1), (1, 1), (2, 1), (3, 1), (4, 1)], 5, 104, [.int .i64 0, .slice none 0 0, .slice none 0 0, .slice none 0 0, .slice none 0 0], default⟩
  | 26 => ⟨.st [(0, 5), (5, 5), (10, 1), (11, 1)], 12, 256, [.int .i64 0, .slice none 0 0, .slice none 0 0, .slice none 0 0, .slice none 0 0, .int .i64 0, .slice none 0 0, .slice none 0 0, .slice none 0 0, .slice none 0 0, .slice none 0 0, .slice none 0 0], default⟩
  | 27 => ⟨.st [(0, 5), (5, 5), (10, 1), (11, 1)], 12, 256, [.int .i64 0, .slice none 0 0, .slice none 0 0, .slice none 0 0, .slice none 0 0, .int .i64 0, .slice none 0 0, .slice none 0 0, .slice none 0 0, .slice none 0 0, .slice none 0 0, .slice none 0 0], default⟩
  | 32 => ⟨.st [(0, 1), (1, 1), (2, 1), (3, 1), (4, 1)], 5, 104, [.int .i64 0, .slice none 0 0, .slice none 0 0, .slice none 0 0, .slice none 0 0], default⟩
  | 34 => ⟨.st [(0, 5), (5, 5), (10, 1), (11, 1)], 12, 256, [.int .i64 0, .slice none 0 0, .slice none 0 0, .slice none 0 0, .slice none 0 0, .int .i64 0, .slice none 0 0, .slice none 0 0, .slice none 0 0, .slice none 0 0, .slice none 0 0, .slice none 0 0], default⟩
  | 35 => ⟨.st [(0, 5), (5, 5), (10, 1), (11, 1)], 12, 256, [.int .i64 0, .slice none 0 0, .slice none 0 0, .slice none 0 0, .slice none 0 0, .int .i64 0, .slice none 0 0, .slice none 0 0, .slice none 0 0, .slice none 0 0, .slice none 0 0, .slice none 0 0], default⟩
  | 44 => ⟨.sli 35 12 256 [.int .i64 0, .slice none 0 0, .slice none 0 0, .slice none 0 0, .slice none 0 0, .int .i64 0, .slice none 0 0, .slice none 0 0, .slice none 0 0, .slice none 0 0, .slice none 0 0, .slice none 0 0], 1, 24, [.slice none 0 0], .v (.int .i64 0)⟩
  | 52 => ⟨.sc, 1, 8, [.nilFunc], default⟩
  | 53 => ⟨.sc, 1, 8, [.pointer none], default⟩
  | 56 => ⟨.sc, 1, 8, [.pointer none], default⟩
  | 59 => ⟨.sc, 1, 8, [.nilFunc], default⟩
  | 60 => ⟨.sc, 1, 8, [.nilFunc], default⟩
  | 63 => ⟨.sc, 1, 8, [.nilFunc], default⟩
  | 65 => ⟨.sli 70 2 32 [.int .i64 0, .slice none 0 0], 1, 24, [.slice none 0 0], .v (.int .i64 0)⟩
  | 69 => ⟨.st [(0, 1), (1, 1)], 2, 32, [.int .i64 0, .slice none 0 0], default⟩
  | 70 => ⟨.st [(0, 1), (1, 1)], 2, 32, [.int .i64 0, .slice none 0 0], default⟩
  | 74 => ⟨.sc, 1, 8, [.pointer none], default⟩
  | 81 => ⟨.st [(0, 12), (12, 12), (24, 1), (25, 1), (26, 1)], 27, 568, [.int .i64 0, .slice none 0 0, .slice none 0 0, .slice none 0 0, .slice none 0 0, .int .i64 0, .slice none 0 0, .slice none 0 0, .slice none 0 0, .slice none 0 0, .slice none 0 0, .slice none 0 0, .int .i64 0, .slice none 0 0, .slice none 0 0, .slice none 0 0, .slice none 0 0, .int .i64 0, .slice none 0 0, .slice none 0 0, .slice none 0 0, .slice none 0 0, .slice none 0 0, .slice none 0 0, .pointer none, .slice none 0 0, .slice none 0 0], default⟩
  | 82 => ⟨.st [(0, 12), (12, 12), (24, 1), (25, 1), (26, 1)], 27, 568, [.int .i64 0, .slice none 0 0, .slice none 0 0, .slice none 0 0, .slice none 0 0, .int .i64 0, .slice none 0 0, .slice none 0 0, .slice none 0 0, .slice none 0 0, .slice none 0 0, .slice none 0 0, .int .i64 0, .slice none 0 0, .slice none 0 0, .slice none 0 0, .slice none 0 0, .int .i64 0, .slice none 0 0, .slice none 0 0, .slice none 0 0, .slice none 0 0, .slice none 0 0, .slice none 0 0, .pointer none, .slice none 0 0, .slice none 0 0], default⟩
  | 87 => ⟨.sc, 1, 8, [.nilFunc], default⟩
  | 88 => ⟨.sc, 1, 8, [.nilFunc], default⟩
  | 95 => ⟨.sc, 1, 8, [.nilFunc], default⟩
  | 96 => ⟨.sc, 1, 8, [.nilFunc], default⟩
  | 97 => ⟨.st [(0, 1), (1, 1)], 2, 16, [.int .i64 0, .int .i64 0], default⟩
  | 98 => ⟨.st [(0, 1), (1, 1)], 2, 16, [.int .i64 0, .int .i64 0], default⟩
  | 100 => ⟨.sc, 1, 8, [.nilFunc], default⟩
  | 101 => ⟨.sli 74 1 8 [.pointer none], 1, 24, [.slice none 0 0], .v (.pointer none)⟩
  | 102 => ⟨.sc, 1, 8, [.pointer none], default⟩
  | 105 => ⟨.sc, 1, 8, [.nilFunc], default⟩
  | 107 => ⟨.sc, 1, 8, [.nilFunc], default⟩
  | 116 => ⟨.st [(0, 1), (1, 1), (2, 1), (3, 1), (4, 1), (5, 1)], 6, 80, [.pointer none, .pointer none, .slice none 0 0, .slice none 0 0, .bool false, .nilFunc], default⟩
  | 117 => ⟨.st [(0, 1), (1, 1), (2, 1), (3, 1), (4, 1), (5, 1)], 6, 80, [.pointer none, .pointer none, .slice none 0 0, .slice none 0 0, .bool false, .nilFunc], default⟩
  | 123 => ⟨.sc, 1, 8, [.nilFunc], default⟩
  | 126 => ⟨.sc, 1, 8, [.pointer none], default⟩
  | 127 => ⟨.st [(0, 12), (12, 12), (24, 1), (25, 1), (26, 1)], 27, 552, [.int .i64 0, .slice none 0 0, .slice none 0 0, .slice none 0 0, .slice none 0 0, .int .i64 0, .slice none 0 0, .slice none 0 0, .slice none 0 0, .slice none 0 0, .slice none 0 0, .slice none 0 0, .int .i64 0, .slice none 0 0, .slice none 0 0, .slice none 0 0, .slice none 0 0, .int .i64 0, .slice none 0 0, .slice none 0 0, .slice none 0 0, .slice none 0 0, .slice none 0 0, .slice none 0 0, .bool false, .int .i64 0, .slice none 0 0], default⟩
  | 128 => ⟨.st [(0, 12), (12, 12), (24, 1), (25, 1), (26, 1)], 27, 552, [.int .i64 0, .slice none 0 0, .slice none 0 0, .slice none 0 0, .slice none 0 0, .int .i64 0, .slice none 0 0, .slice none 0 0, .slice none 0 0, .slice none 0 0, .slice none 0 0, .slice none 0 0, .int .i64 0, .slice none 0 0, .slice none 0 0, .slice none 0 0, .slice none 0 0, .int .i64 0, .slice none 0 0, .slice none 0 0, .slice none 0 0, .slice none 0 0, .slice none 0 0, .slice none 0 0, .bool false, .int .i64 0, .slice none 0 0], default⟩
  | 130 => ⟨.sli 4 1 1 [.bool false], 1, 24, [.slice none 0 0], .v (.bool false)⟩
  | 137 => ⟨.st [(0, 1), (1, 1), (2, 1), (3, 1)], 4, 40, [.pointer none, .pointer none, .pointer none, .string ⟨#[]⟩], default⟩
  | 138 => ⟨.st [(0, 1), (1, 1), (2, 1), (3, 1)], 4, 40, [.pointer none, .pointer none, .pointer none, .string ⟨#[]⟩], default⟩
  | 143 => ⟨.ik .u32, 1, 4, [.int .u32 0], default⟩
  | 144 => ⟨.ik .u8, 1, 1, [.int .u8 0], default⟩
  | 145 => ⟨.ik .u8, 1, 1, [.int .u8 0], default⟩
  | 147 => ⟨.sc, 1, 8, [.pointer none], default⟩
  | 148 => ⟨.ik .i32, 1, 4, [.int .i32 0], default⟩
  | 149 => ⟨.ik .i32, 1, 4, [.int .i32 0], default⟩
  | 150 => ⟨.st [(0, 1), (1, 1), (2, 1), (3, 1), (4, 1), (5, 1), (6, 1), (7, 1), (8, 1), (9, 1), (10, 1)], 11, 48, [.int .u64 0, .int .u64 0, .int .u32 0, .int .u8 0, .int .u8 0, .int .u8 0, .int .u8 0, .nilFunc, .pointer none, .int .i32 0, .int .i32 0], default⟩
  | 151 => ⟨.st [(0, 1), (1, 1), (2, 1), (3, 1), (4, 1), (5, 1), (6, 1), (7, 1), (8, 1), (9, 1), (10, 1)], 11, 48, [.int .u64 0, .int .u64 0, .int .u32 0, .int .u8 0, .int .u8 0, .int .u8 0, .int .u8 0, .nilFunc, .pointer none, .int .i32 0, .int .i32 0], default⟩
  | _ => Ti.no
@[go_sem] theorem tenv2 : tenv 2 = ⟨.ik .i64, 1, 8, [.int .i64 0], default⟩ := rfl
@[go_sem] theorem tenv3 : tenv 3 = ⟨.ik .i64, 1, 8, [.int .i64 0], default⟩ := rfl
@[go_sem] theorem tenv4 : tenv 4 = ⟨.bk, 1, 1, [.bool false], default⟩ := rfl
@[go_sem] theorem tenv5 : tenv 5 = ⟨.ik .u8, 1, 1, [.int .u8 0], default⟩ := rfl
@[go_sem] theorem tenv6 : tenv 6 = ⟨.ik .u8, 1, 1, [.int .u8 0], default⟩ := rfl
@[go_sem] theorem tenv7 : tenv 7 = ⟨.st [(0, 1), (1, 1), (2, 1), (3, 1)], 4, 24, [.int .i64 0, .int .i64 0, .bool false, .int .u8 0], default⟩ := rfl
@[go_sem] theorem tenv8 : tenv 8 = ⟨.st [(0, 1), (1, 1), (2, 1), (3, 1)], 4, 24, [.int .i64 0, .int .i64 0, .bool false, .int .u8 0], default⟩ := rfl
@[go_sem] theorem tenv9 : tenv 9 = ⟨.strk, 1, 16, [.string ⟨#[]⟩], default⟩ := rfl
@[go_sem] theorem tenv10 : tenv 10 = ⟨.strk, 1, 16, [.string ⟨#[]⟩], default⟩ := rfl
@[go_sem] theorem tenv11 : tenv 11 = ⟨.strk, 1, 16, [.string ⟨#[]⟩], default⟩ := rfl
@[go_sem] theorem tenv12 : tenv 12 = ⟨.ik .u64, 1, 8, [.int .u64 0], default⟩ := rfl
@[go_sem] theorem tenv13 : tenv 13 = ⟨.st [(0, 1), (1, 1)], 2, 24, [.string ⟨#[]⟩, .int .u64 0], default⟩ := rfl
@[go_sem] theorem tenv14 : tenv 14 = ⟨.st [(0, 1), (1, 1)], 2, 24, [.string ⟨#[]⟩, .int .u64 0], default⟩ := rfl
@[go_sem] theorem tenv15 : tenv 15 = ⟨.sc, 1, 8, [.pointer none], default⟩ := rfl
@[go_sem] theorem tenv16 : tenv 16 = ⟨.sc, 1, 8, [.pointer none], default⟩ := rfl
@[go_sem] theorem tenv17 : tenv 17 = ⟨.sc, 1, 8, [.pointer none], default⟩ := rfl
@[go_sem] theorem tenv18 : tenv 18 = ⟨.st [(0, 1)], 1, 8, [.pointer none], default⟩ := rfl
@[go_sem] theorem tenv19 : tenv 19 = ⟨.st [(0, 1)], 1, 8, [.pointer none], default⟩ := rfl
@[go_sem] theorem tenv21 : tenv 21 = ⟨.ik .i32, 1, 4, [.int .i32 0], default⟩ := rfl
@[go_sem] theorem tenv22 : tenv 22 = ⟨.sli 2 1 8 [.int .i64 0], 1, 24, [.slice none 0 0], .v (.int .i64 0)⟩ := rfl
@[go_sem] theorem tenv23 : tenv 23 = ⟨.sli 22 1 24 [.slice none 0 0], 1, 24, [.slice none 0 0], .sl 1 (.v (.int .i64 0)) []⟩ := rfl
@[go_sem] theorem tenv24 : tenv 24 = ⟨.st [(0, 1), (1, 1), (2, 1), (3, 1), (4, 1)], 5, 104, [.int .i64 0, .slice none 0 0, .slice none 0 0, .slice none 0 0, .slice none 0 0], default⟩ := rfl
@[go_sem] theorem tenv25 : tenv 25 = ⟨.st [(0, 1), (1, 1), (2, 1), (3, 1), (4, 1)], 5, 104, [.int .i64 0, .slice none 0 0, .slice none 0 0, .slice none 0 0, .slice none 0 0], default⟩ := rfl
@[go_sem] theorem tenv26 : tenv 26 = ⟨.st [(0, 5), (5, 5), (10, 1), (11, 1)], 12, 256, [.int .i64 0, .slice none 0 0, .slice none 0 0, .slice none 0 0, .slice none 0 0, .int .i64 0, .slice none 0 0, .slice none 0 0, .slice none 0 0, .slice none 0 0, .slice none 0 0, .slice none 0 0], default⟩ := rfl
@[go_sem] theorem tenv27 : tenv 27 = ⟨.st [(0, 5), (5, 5), (10, 1), (11, 1)], 12, 256, [.int .i64 0, .slice none 0 0, .slice none 0 0, .slice none 0 0, .slice none 0 0, .int .i64 0, .slice none 0 0, .slice none 0 0, .slice none 0 0, .slice none 0 0, .slice none 0 0, .slice none 0 0], default⟩ := rfl
@[go_sem] theorem tenv32 : tenv 32 = ⟨.st [(0, 1), (1, 1), (2, 1), (3, 1), (4, 1)], 5, 104, [.int .i64 0, .slice none 0 0, .slice none 0 0, .slice none 0 0, .slice none 0 0], default⟩ := rfl
@[go_sem] theorem tenv34 : tenv 34 = ⟨.st [(0, 5), (5, 5), (10, 1), (11, 1)], 12, 256, [.int .i64 0, .slice none 0 0, .slice none 0 0, .slice none 0 0, .slice none 0 0, .int .i64 0, .slice none 0 0, .slice none 0 0, .slice none 0 0, .slice none 0 0, .slice none 0 0, .slice none 0 0], default⟩ := rfl
@[go_sem] theorem tenv35 : tenv 35 = ⟨.st [(0, 5), (5, 5), (10, 1), (11, 1)], 12, 256, [.int .i64 0, .slice none 0 0, .slice none 0 0, .slice none 0 0, .slice none 0 0, .int .i64 0, .slice none 0 0, .slice none 0 0, .slice none 0 0, .slice none 0 0, .slice none 0 0, .slice none 0 0], default⟩ := rfl
@[go_sem] theorem tenv44 : tenv 44 = ⟨.sli 35 12 256 [.int .i64 0, .slice none 0 0, .slice none 0 0, .slice none 0 0, .slice none 0 0, .int .i64 0, .slice none 0 0, .slice none 0 0, .slice none 0 0, .slice none 0 0, .slice none 0 0, .slice none 0 0], 1, 24, [.slice none 0 0], .v (.int .i64 0)⟩ := rfl
@[go_sem] theorem tenv52 : tenv 52 = ⟨.sc, 1, 8, [.nilFunc], default⟩ := rfl
@[go_sem] theorem tenv53 : tenv 53 = ⟨.sc, 1, 8, [.pointer none], default⟩ := rfl
@[go_sem] theorem tenv56 : tenv 56 = ⟨.sc, 1, 8, [.pointer none], default⟩ := rfl
@[go_sem] theorem tenv59 : tenv 59 = ⟨.sc, 1, 8, [.nilFunc], default⟩ := rfl
@[go_sem] theorem tenv60 : tenv 60 = ⟨.sc, 1, 8, [.nilFunc], default⟩ := rfl
@[go_sem] theorem tenv63 : tenv 63 = ⟨.sc, 1, 8, [.nilFunc], default⟩ := rfl
@[go_sem] theorem tenv65 : tenv 65 = ⟨.sli 70 2 32 [.int .i64 0, .slice none 0 0], 1, 24, [.slice none 0 0], .v (.int .i64 0)⟩ := rfl
@[go_sem] theorem tenv69 : tenv 69 = ⟨.st [(0, 1), (1, 1)], 2, 32, [.int .i64 0, .slice none 0 0], default⟩ := rfl
@[go_sem] theorem tenv70 : tenv 70 = ⟨.st [(0, 1), (1, 1)], 2, 32, [.int .i64 0, .slice none 0 0], default⟩ := rfl
@[go_sem] theorem tenv74 : tenv 74 = ⟨.sc, 1, 8, [.pointer none], default⟩ := rfl
@[go_sem] theorem tenv81 : tenv 81 = ⟨.st [(0, 12), (12, 12), (24, 1), (25, 1), (26, 1)], 27, 568, [.int .i64 0, .slice none 0 0, .slice none 0 0, .slice none 0 0, .slice none 0 0, .int .i64 0, .slice none 0 0, .slice none 0 0, .slice none 0 0, .slice none 0 0, .slice none 0 0, .slice none 0 0, .int .i64 0, .slice none 0 0, .slice none 0 0, .slice none 0 0, .slice none 0 0, .int .i64 0, .slice none 0 0, .slice none 0 0, .slice none 0 0, .slice none 0 0, .slice none 0 0, .slice none 0 0, .pointer none, .slice none 0 0, .slice none 0 0], default⟩ := rfl
@[go_sem] theorem tenv82 : tenv 82 = ⟨.st [(0, 12), (12, 12), (24, 1), (25, 1), (26, 1)], 27, 568, [.int .i64 0, .slice none 0 0, .slice none 0 0, .slice none 0 0, .slice none 0 0, .int .i64 0, .slice none 0 0, .slice none 0 0, .slice none 0 0, .slice none 0 0, .slice none 0 0, .slice none 0 0, .int .i64 0, .slice none 0 0, .slice none 0 0, .slice none 0 0, .slice none 0 0, .int .i64 0, .slice none 0 0, .slice none 0 0, .slice none 0 0, .slice none 0 0, .slice none 0 0, .slice none 0 0, .pointer none, .slice none 0 0, .slice none 0 0], default⟩ := rfl
@[go_sem] theorem tenv87 : tenv 87 = ⟨.sc, 1, 8, [.nilFunc], default⟩ := rfl
@[go_sem] theorem tenv88 : tenv 88 = ⟨.sc, 1, 8, [.nilFunc], default⟩ := rfl
@[go_sem] theorem tenv95 : tenv 95 = ⟨.sc, 1, 8, [.nilFunc], default⟩ := rfl
@[go_sem] theorem tenv96 : tenv 96 = ⟨.sc, 1, 8, [.nilFunc], default⟩ := rfl
@[go_sem] theorem tenv97 : tenv 97 = ⟨.st [(0, 1), (1, 1)], 2, 16, [.int .i64 0, .int .i64 0], default⟩ := rfl
@[go_sem] theorem tenv98 : tenv 98 = ⟨.st [(0, 1), (1, 1)], 2, 16, [.int .i64 0, .int .i64 0], default⟩ := rfl
@[go_sem] theorem tenv100 : tenv 100 = ⟨.sc, 1, 8, [.nilFunc], default⟩ := rfl
@[go_sem] theorem tenv101 : tenv 101 = ⟨.sli 74 1 8 [.pointer none], 1, 24, [.slice none 0 0], .v (.pointer none)⟩ := rfl
@[go_sem] theorem tenv102 : tenv 102 = ⟨.sc, 1, 8, [.pointer none], default⟩ := rfl
@[go_sem] theorem tenv105 : tenv 105 = ⟨.sc, 1, 8, [.nilFunc], default⟩ := rfl
@[go_sem] theorem tenv107 : tenv 107 = ⟨.sc, 1, 8, [.nilFunc], default⟩ := rfl
@[go_sem] theorem tenv116 : tenv 116 = ⟨.st [(0, 1), (1, 1), (2, 1), (3, 1), (4, 1), (5, 1)], 6, 80, [.pointer none, .pointer none, .slice none 0 0, .slice none 0 0, .bool false, .nilFunc], default⟩ := rfl
@[go_sem] theorem tenv117 : tenv 117 = ⟨.st [(0, 1), (1, 1), (2, 1), (3, 1), (4, 1), (5, 1)], 6, 80, [.pointer none, .pointer none, .slice none 0 0, .slice none 0 0, .bool false, .nilFunc], default⟩ := rfl
@[go_sem] theorem tenv123 : tenv 123 = ⟨.sc, 1, 8, [.nilFunc], default⟩ := rfl
@[go_sem] theorem tenv126 : tenv 126 = ⟨.sc, 1, 8, [.pointer none], default⟩ := rfl
@[go_sem] theorem tenv127 : tenv 127 = ⟨.st [(0, 12), (12, 12), (24, 1), (25, 1), (26, 1)], 27, 552, [.int .i64 0, .slice none 0 0, .slice none 0 0, .slice none 0 0, .slice none 0 0, .int .i64 0, .slice none 0 0, .slice none 0 0, .slice none 0 0, .slice none 0 0, .slice none 0 0, .slice none 0 0, .int .i64 0, .slice none 0 0, .slice none 0 0, .slice none 0 0, .slice none 0 0, .int .i64 0, .slice none 0 0, .slice none 0 0, .slice none 0 0, .slice none 0 0, .slice none 0 0, .slice none 0 0, .bool false, .int .i64 0, .slice none 0 0], default⟩ := rfl
@[go_sem] theorem tenv128 : tenv 128 = ⟨.st [(0, 12), (12, 12), (24, 1), (25, 1), (26, 1)], 27, 552, [.int .i64 0, .slice none 0 0, .slice none 0 0, .slice none 0 0, .slice none 0 0, .int .i64 0, .slice none 0 0, .slice none 0 0, .slice none 0 0, .slice none 0 0, .slice none 0 0, .slice none 0 0, .int .i64 0, .slice none 0 0, .slice none 0 0, .slice none 0 0, .slice none 0 0, .int .i64 0, .slice none 0 0, .slice none 0 0, .slice none 0 0, .slice none 0 0, .slice none 0 0, .slice none 0 0, .bool false, .int .i64 0, .slice none 0 0], default⟩ := rfl
@[go_sem] theorem tenv130 : tenv 130 = ⟨.sli 4 1 1 [.bool false], 1, 24, [.slice none 0 0], .v (.bool false)⟩ := rfl
@[go_sem] theorem tenv137 : tenv 137 = ⟨.st [(0, 1), (1, 1), (2, 1), (3, 1)], 4, 40, [.pointer none, .pointer none, .pointer none, .string ⟨#[]⟩], default⟩ := rfl
@[go_sem] theorem tenv138 : tenv 138 = ⟨.st [(0, 1), (1, 1), (2, 1), (3, 1)], 4, 40, [.pointer none, .pointer none, .pointer none, .string ⟨#[]⟩], default⟩ := rfl
@[go_sem] theorem tenv143 : tenv 143 = ⟨.ik .u32, 1, 4, [.int .u32 0], default⟩ := rfl
@[go_sem] theorem tenv144 : tenv 144 = ⟨.ik .u8, 1, 1, [.int .u8 0], default⟩ := rfl
@[go_sem] theorem tenv145 : tenv 145 = ⟨.ik .u8, 1, 1, [.int .u8 0], default⟩ := rfl
@[go_sem] theorem tenv147 : tenv 147 = ⟨.sc, 1, 8, [.pointer none], default⟩ := rfl
@[go_sem] theorem tenv148 : tenv 148 = ⟨.ik .i32, 1, 4, [.int .i32 0], default⟩ := rfl
@[go_sem] theorem tenv149 : tenv 149 = ⟨.ik .i32, 1, 4, [.int .i32 0], default⟩ := rfl
@[go_sem] theorem tenv150 : tenv 150 = ⟨.st [(0, 1), (1, 1), (2, 1), (3, 1), (4, 1), (5, 1), (6, 1), (7, 1), (8, 1), (9, 1), (10, 1)], 11, 48, [.int .u64 0, .int .u64 0, .int .u32 0, .int .u8 0, .int .u8 0, .int .u8 0, .int .u8 0, .nilFunc, .pointer none, .int .i32 0, .int .i32 0], default⟩ := rfl
@[go_sem] theorem tenv151 : tenv 151 = ⟨.st [(0, 1), (1, 1), (2, 1), (3, 1), (4, 1), (5, 1), (6, 1), (7, 1), (8, 1), (9, 1), (10, 1)], 11, 48, [.int .u64 0, .int .u64 0, .int .u32 0, .int .u8 0, .int .u8 0, .int .u8 0, .int .u8 0, .nilFunc, .pointer none, .int .i32 0, .int .i32 0], default⟩ := rfl
set_option maxRecDepth 100000 in
theorem ty2 : TiOk Tryz.prog 2 (tenv 2) := ⟨⟨_, _, Tryz.type2, rfl, rfl, rfl, rfl⟩, Tryz.underlying2⟩
set_option maxRecDepth 100000 in
theorem ty3 : TiOk Tryz.prog 3 (tenv 3) := ⟨⟨_, _, Tryz.type3, rfl, rfl, rfl, rfl⟩, Tryz.underlying3⟩
set_option maxRecDepth 100000 in
theorem ty4 : TiOk Tryz.prog 4 (tenv 4) := ⟨⟨_, _, Tryz.type4, rfl, rfl, rfl, rfl⟩, Tryz.underlying4⟩
set_option maxRecDepth 100000 in
theorem ty5 : TiOk Tryz.prog 5 (tenv 5) := ⟨⟨_, _, Tryz.type5, rfl, rfl, rfl, rfl⟩, Tryz.underlying5⟩
set_option maxRecDepth 100000 in
theorem ty6 : TiOk Tryz.prog 6 (tenv 6) := ⟨⟨_, _, Tryz.type6, rfl, rfl, rfl, rfl⟩, Tryz.underlying6⟩
set_option maxRecDepth 100000 in
theorem ty7 : TiOk Tryz.prog 7 (tenv 7) := ⟨⟨_, _, Tryz.type7, rfl, rfl, rfl, rfl⟩, _, Tryz.underlying7, rfl, by kernel_rfl, rfl⟩
set_option maxRecDepth 100000 in
theorem ty8 : TiOk Tryz.prog 8 (tenv 8) := ⟨⟨_, _, Tryz.type8, rfl, rfl, rfl, rfl⟩, _, Tryz.underlying8, rfl, by kernel_rfl, rfl⟩
set_option maxRecDepth 100000 in
theorem ty9 : TiOk Tryz.prog 9 (tenv 9) := ⟨⟨_, _, Tryz.type9, rfl, rfl, rfl, rfl⟩, Tryz.underlying9⟩
set_option maxRecDepth 100000 in
theorem ty10 : TiOk Tryz.prog 10 (tenv 10) := ⟨⟨_, _, Tryz.type10, rfl, rfl, rfl, rfl⟩, Tryz.underlying10⟩
set_option maxRecDepth 100000 in
theorem ty11 : TiOk Tryz.prog 11 (tenv 11) := ⟨⟨_, _, Tryz.type11, rfl, rfl, rfl, rfl⟩, Tryz.underlying11⟩
set_option maxRecDepth 100000 in
theorem ty12 : TiOk Tryz.prog 12 (tenv 12) := ⟨⟨_, _, Tryz.type12, rfl, rfl, rfl, rfl⟩, Tryz.underlying12⟩
set_option maxRecDepth 100000 in
theorem ty13 : TiOk Tryz.prog 13 (tenv 13) := ⟨⟨_, _, Tryz.type13, rfl, rfl, rfl, rfl⟩, _, Tryz.underlying13, rfl, by kernel_rfl, rfl⟩
set_option maxRecDepth 100000 in
theorem ty14 : TiOk Tryz.prog 14 (tenv 14) := ⟨⟨_, _, Tryz.type14, rfl, rfl, rfl, rfl⟩, _, Tryz.underlying14, rfl, by kernel_rfl, rfl⟩
set_option maxRecDepth 100000 in
theorem ty15 : TiOk Tryz.prog 15 (tenv 15) := ⟨⟨_, _, Tryz.type15, rfl, rfl, rfl, rfl⟩, _, Tryz.underlying15, trivial⟩
set_option maxRecDepth 100000 in
theorem ty16 : TiOk Tryz.prog 16 (tenv 16) := ⟨⟨_, _, Tryz.type16, rfl, rfl, rfl, rfl⟩, _, Tryz.underlying16, trivial⟩
set_option maxRecDepth 100000 in
theorem ty17 : TiOk Tryz.prog 17 (tenv 17) := ⟨⟨_, _, Tryz.type17, rfl, rfl, rfl, rfl⟩, _, Tryz.underlying17, trivial⟩
set_option maxRecDepth 100000 in
theorem ty18 : TiOk Tryz.prog 18 (tenv 18) := ⟨⟨_, _, Tryz.type18, rfl, rfl, rfl, rfl⟩, _, Tryz.underlying18, rfl, by kernel_rfl, rfl⟩
set_option maxRecDepth 100000 in
theorem ty19 : TiOk Tryz.prog 19 (tenv 19) := ⟨⟨_, _, Tryz.type19, rfl, rfl, rfl, rfl⟩, _, Tryz.underlying19, rfl, by kernel_rfl, rfl⟩
set_option maxRecDepth 100000 in
theorem ty21 : TiOk Tryz.prog 21 (tenv 21) := ⟨⟨_, _, Tryz.type21, rfl, rfl, rfl, rfl⟩, Tryz.underlying21⟩
set_option maxRecDepth 100000 in
theorem ty22 : TiOk Tryz.prog 22 (tenv 22) := ⟨⟨_, _, Tryz.type22, rfl, rfl, rfl, rfl⟩, Tryz.underlying22, ⟨_, _, Tryz.type2, rfl, rfl, rfl, rfl⟩⟩
set_option maxRecDepth 100000 in
theorem ty23 : TiOk Tryz.prog 23 (tenv 23) := ⟨⟨_, _, Tryz.type23, rfl, rfl, rfl, rfl⟩, Tryz.underlying23, ⟨_, _, Tryz.type22, rfl, rfl, rfl, rfl⟩⟩
set_option maxRecDepth 100000 in
theorem ty24 : TiOk Tryz.prog 24 (tenv 24) := ⟨⟨_, _, Tryz.type24, rfl, rfl, rfl, rfl⟩, _, Tryz.underlying24, rfl, by kernel_rfl, rfl⟩
set_option maxRecDepth 100000 in
theorem ty25 : TiOk Tryz.prog 25 (tenv 25) := ⟨⟨_, _, Tryz.type25, rfl, rfl, rfl, rfl⟩, _, Tryz.underlying25, rfl, by kernel_rfl, rfl⟩
set_option maxRecDepth 100000 in
theorem ty26 : TiOk Tryz.prog 26 (tenv 26) := ⟨⟨_, _, Tryz.type26, rfl, rfl, rfl, rfl⟩, _, Tryz.underlying26, rfl, by kernel_rfl, rfl⟩
set_option maxRecDepth 100000 in
theorem ty27 : TiOk Tryz.prog 27 (tenv 27) := ⟨⟨_, _, Tryz.type27, rfl, rfl, rfl, rfl⟩, _, Tryz.underlying27, rfl, by kernel_rfl, rfl⟩
set_option maxRecDepth 100000 in
theorem ty32 : TiOk Tryz.prog 32 (tenv 32) := ⟨⟨_, _, Tryz.type32, rfl, rfl, rfl, rfl⟩, _, Tryz.underlying32, rfl, by kernel_rfl, rfl⟩
set_option maxRecDepth 100000 in
theorem ty34 : TiOk Tryz.prog 34 (tenv 34) := ⟨⟨_, _, Tryz.type34, rfl, rfl, rfl, rfl⟩, _, Tryz.underlying34, rfl, by kernel_rfl, rfl⟩
set_option maxRecDepth 100000 in
theorem ty35 : TiOk Tryz.prog 35 (tenv 35) := ⟨⟨_, _, Tryz.type35, rfl, rfl, rfl, rfl⟩, _, Tryz.underlying35, rfl, by kernel_rfl, rfl⟩
set_option maxRecDepth 100000 in
theorem ty44 : TiOk Tryz.prog 44 (tenv 44) := ⟨⟨_, _, Tryz.type44, rfl, rfl, rfl, rfl⟩, Tryz.underlying44, ⟨_, _, Tryz.type35, rfl, rfl, rfl, rfl⟩⟩
set_option maxRecDepth 100000 in
theorem ty52 : TiOk Tryz.prog 52 (tenv 52) := ⟨⟨_, _, Tryz.type52, rfl, rfl, rfl, rfl⟩, _, Tryz.underlying52, trivial⟩
set_option maxRecDepth 100000 in
theorem ty53 : TiOk Tryz.prog 53 (tenv 53) := ⟨⟨_, _, Tryz.type53, rfl, rfl, rfl, rfl⟩, _, Tryz.underlying53, trivial⟩
set_option maxRecDepth 100000 in
theorem ty56 : TiOk Tryz.prog 56 (tenv 56) := ⟨⟨_, _, Tryz.type56, rfl, rfl, rfl, rfl⟩, _, Tryz.underlying56, trivial⟩
set_option maxRecDepth 100000 in
theorem ty59 : TiOk Tryz.prog 59 (tenv 59) := ⟨⟨_, _, Tryz.type59, rfl, rfl, rfl, rfl⟩, _, Tryz.underlying59, trivial⟩
set_option maxRecDepth 100000 in
theorem ty60 : TiOk Tryz.prog 60 (tenv 60) := ⟨⟨_, _, Tryz.type60, rfl, rfl, rfl, rfl⟩, _, Tryz.underlying60, trivial⟩
set_option maxRecDepth 100000 in
theorem ty63 : TiOk Tryz.prog 63 (tenv 63) := ⟨⟨_, _, Tryz.type63, rfl, rfl, rfl, rfl⟩, _, Tryz.underlying63, trivial⟩
set_option maxRecDepth 100000 in
theorem ty65 : TiOk Tryz.prog 65 (tenv 65) := ⟨⟨_, _, Tryz.type65, rfl, rfl, rfl, rfl⟩, Tryz.underlying65, ⟨_, _, Tryz.type70, rfl, rfl, rfl, rfl⟩⟩
set_option maxRecDepth 100000 in
theorem ty69 : TiOk Tryz.prog 69 (tenv 69) := ⟨⟨_, _, Tryz.type69, rfl, rfl, rfl, rfl⟩, _, Tryz.underlying69, rfl, by kernel_rfl, rfl⟩
set_option maxRecDepth 100000 in
theorem ty70 : TiOk Tryz.prog 70 (tenv 70) := ⟨⟨_, _, Tryz.type70, rfl, rfl, rfl, rfl⟩, _, Tryz.underlying70, rfl, by kernel_rfl, rfl⟩
set_option maxRecDepth 100000 in
theorem ty74 : TiOk Tryz.prog 74 (tenv 74) := ⟨⟨_, _, Tryz.type74, rfl, rfl, rfl, rfl⟩, _, Tryz.underlying74, trivial⟩
set_option maxRecDepth 100000 in
theorem ty81 : TiOk Tryz.prog 81 (tenv 81) := ⟨⟨_, _, Tryz.type81, rfl, rfl, rfl, rfl⟩, _, Tryz.underlying81, rfl, by kernel_rfl, rfl⟩
set_option maxRecDepth 100000 in
theorem ty82 : TiOk Tryz.prog 82 (tenv 82) := ⟨⟨_, _, Tryz.type82, rfl, rfl, rfl, rfl⟩, _, Tryz.underlying82, rfl, by kernel_rfl, rfl⟩
set_option maxRecDepth 100000 in
theorem ty87 : TiOk Tryz.prog 87 (tenv 87) := ⟨⟨_, _, Tryz.type87, rfl, rfl, rfl, rfl⟩, _, Tryz.underlying87, trivial⟩
set_option maxRecDepth 100000 in
theorem ty88 : TiOk Tryz.prog 88 (tenv 88) := ⟨⟨_, _, Tryz.type88, rfl, rfl, rfl, rfl⟩, _, Tryz.underlying88, trivial⟩
set_option maxRecDepth 100000 in
theorem ty95 : TiOk Tryz.prog 95 (tenv 95) := ⟨⟨_, _, Tryz.type95, rfl, rfl, rfl, rfl⟩, _, Tryz.underlying95, trivial⟩
set_option maxRecDepth 100000 in
theorem ty96 : TiOk Tryz.prog 96 (tenv 96) := ⟨⟨_, _, Tryz.type96, rfl, rfl, rfl, rfl⟩, _, Tryz.underlying96, trivial⟩
set_option maxRecDepth 100000 in
theorem ty97 : TiOk Tryz.prog 97 (tenv 97) := ⟨⟨_, _, Tryz.type97, rfl, rfl, rfl, rfl⟩, _, Tryz.underlying97, rfl, by kernel_rfl, rfl⟩
set_option maxRecDepth 100000 in
theorem ty98 : TiOk Tryz.prog 98 (tenv 98) := ⟨⟨_, _, Tryz.type98, rfl, rfl, rfl, rfl⟩, _, Tryz.underlying98, rfl, by kernel_rfl, rfl⟩
set_option maxRecDepth 100000 in
theorem ty100 : TiOk Tryz.prog 100 (tenv 100) := ⟨⟨_, _, Tryz.type100, rfl, rfl, rfl, rfl⟩, _, Tryz.underlying100, trivial⟩
set_option maxRecDepth 100000 in
theorem ty101 : TiOk Tryz.prog 101 (tenv 101) := ⟨⟨_, _, Tryz.type101, rfl, rfl, rfl, rfl⟩, Tryz.underlying101, ⟨_, _, Tryz.type74, rfl, rfl, rfl, rfl⟩⟩
set_option maxRecDepth 100000 in
theorem ty102 : TiOk Tryz.prog 102 (tenv 102) := ⟨⟨_, _, Tryz.type102, rfl, rfl, rfl, rfl⟩, _, Tryz.underlying102, trivial⟩
set_option maxRecDepth 100000 in
theorem ty105 : TiOk Tryz.prog 105 (tenv 105) := ⟨⟨_, _, Tryz.type105, rfl, rfl, rfl, rfl⟩, _, Tryz.underlying105, trivial⟩
set_option maxRecDepth 100000 in
theorem ty107 : TiOk Tryz.prog 107 (tenv 107) := ⟨⟨_, _, Tryz.type107, rfl, rfl, rfl, rfl⟩, _, Tryz.underlying107, trivial⟩
set_option maxRecDepth 100000 in
theorem ty116 : TiOk Tryz.prog 116 (tenv 116) := ⟨⟨_, _, Tryz.type116, rfl, rfl, rfl, rfl⟩, _, Tryz.underlying116, rfl, by kernel_rfl, rfl⟩
set_option maxRecDepth 100000 in
theorem ty117 : TiOk Tryz.prog 117 (tenv 117) := ⟨⟨_, _, Tryz.type117, rfl, rfl, rfl, rfl⟩, _, Tryz.underlying117, rfl, by kernel_rfl, rfl⟩
set_option maxRecDepth 100000 in
theorem ty123 : TiOk Tryz.prog 123 (tenv 123) := ⟨⟨_, _, Tryz.type123, rfl, rfl, rfl, rfl⟩, _, Tryz.underlying123, trivial⟩
set_option maxRecDepth 100000 in
theorem ty126 : TiOk Tryz.prog 126 (tenv 126) := ⟨⟨_, _, Tryz.type126, rfl, rfl, rfl, rfl⟩, _, Tryz.underlying126, trivial⟩
set_option maxRecDepth 100000 in
theorem ty127 : TiOk Tryz.prog 127 (tenv 127) := ⟨⟨_, _, Tryz.type127, rfl, rfl, rfl, rfl⟩, _, Tryz.underlying127, rfl, by kernel_rfl, rfl⟩
set_option maxRecDepth 100000 in
theorem ty128 : TiOk Tryz.prog 128 (tenv 128) := ⟨⟨_, _, Tryz.type128, rfl, rfl, rfl, rfl⟩, _, Tryz.underlying128, rfl, by kernel_rfl, rfl⟩
set_option maxRecDepth 100000 in
theorem ty130 : TiOk Tryz.prog 130 (tenv 130) := ⟨⟨_, _, Tryz.type130, rfl, rfl, rfl, rfl⟩, Tryz.underlying130, ⟨_, _, Tryz.type4, rfl, rfl, rfl, rfl⟩⟩
set_option maxRecDepth 100000 in
theorem ty137 : TiOk Tryz.prog 137 (tenv 137) := ⟨⟨_, _, Tryz.type137, rfl, rfl, rfl, rfl⟩, _, Tryz.underlying137, rfl, by kernel_rfl, rfl⟩
set_option maxRecDepth 100000 in
theorem ty138 : TiOk Tryz.prog 138 (tenv 138) := ⟨⟨_, _, Tryz.type138, rfl, rfl, rfl, rfl⟩, _, Tryz.underlying138, rfl, by kernel_rfl, rfl⟩
set_option maxRecDepth 100000 in
theorem ty143 : TiOk Tryz.prog 143 (tenv 143) := ⟨⟨_, _, Tryz.type143, rfl, rfl, rfl, rfl⟩, Tryz.underlying143⟩
set_option maxRecDepth 100000 in
theorem ty144 : TiOk Tryz.prog 144 (tenv 144) := ⟨⟨_, _, Tryz.type144, rfl, rfl, rfl, rfl⟩, Tryz.underlying144⟩
set_option maxRecDepth 100000 in
theorem ty145 : TiOk Tryz.prog 145 (tenv 145) := ⟨⟨_, _, Tryz.type145, rfl, rfl, rfl, rfl⟩, Tryz.underlying145⟩
set_option maxRecDepth 100000 in
theorem ty147 : TiOk Tryz.prog 147 (tenv 147) := ⟨⟨_, _, Tryz.type147, rfl, rfl, rfl, rfl⟩, _, Tryz.underlying147, trivial⟩
set_option maxRecDepth 100000 in
theorem ty148 : TiOk Tryz.prog 148 (tenv 148) := ⟨⟨_, _, Tryz.type148, rfl, rfl, rfl, rfl⟩, Tryz.underlying148⟩
set_option maxRecDepth 100000 in
theorem ty149 : TiOk Tryz.prog 149 (tenv 149) := ⟨⟨_, _, Tryz.type149, rfl, rfl, rfl, rfl⟩, Tryz.underlying149⟩
set_option maxRecDepth 100000 in
theorem ty150 : TiOk Tryz.prog 150 (tenv 150) := ⟨⟨_, _, Tryz.type150, rfl, rfl, rfl, rfl⟩, _, Tryz.underlying150, rfl, by kernel_rfl, rfl⟩
set_option maxRecDepth 100000 in
theorem ty151 : TiOk Tryz.prog 151 (tenv 151) := ⟨⟨_, _, Tryz.type151, rfl, rfl, rfl, rfl⟩, _, Tryz.underlying151, rfl, by kernel_rfl, rfl⟩
theorem tok : ∀ t, TiOk Tryz.prog t (tenv t) := by
  intro t
  by_cases h : t ∈ [2, 3, 4, 5, 6, 7, 8, 9, 10, 11, 12, 13, 14, 15, 16, 17, 18, 19, 21, 22, 23, 24, 25, 26, 27, 32, 34, 35, 44, 52, 53, 56, 59, 60, 63, 65, 69, 70, 74, 81, 82, 87, 88, 95, 96, 97, 98, 100, 101, 102, 105, 107, 116, 117, 123, 126, 127, 128, 130, 137, 138, 143, 144, 145, 147, 148, 149, 150, 151]
  · simp only [List.mem_cons, List.not_mem_nil, or_false] at h
    rcases h with rfl | rfl | rfl | rfl | rfl | rfl | rfl | rfl | rfl | rfl | rfl | rfl | rfl | rfl | rfl | rfl | rfl | rfl | rfl | rfl | rfl | rfl | rfl | rfl | rfl | rfl | rfl | rfl | rfl | rfl | rfl | rfl | rfl | rfl | rfl | rfl | rfl | rfl | rfl | rfl | rfl | rfl | rfl | rfl | rfl | rfl | rfl | rfl | rfl | rfl | rfl | rfl | rfl | rfl | rfl | rfl | rfl | rfl | rfl | rfl | rfl | rfl | rfl | rfl | rfl | rfl | rfl | rfl | rfl
    · exact ty2
    · exact ty3
    · exact ty4
    · exact ty5
    · exact ty6
    · exact ty7
    · exact ty8
    · exact ty9
    · exact ty10
    · exact ty11
    · exact ty12
    · exact ty13
    · exact ty14
    · exact ty15
    · exact ty16
    · exact ty17
    · exact ty18
    · exact ty19
    · exact ty21
    · exact ty22
    · exact ty23
    · exact ty24
    · exact ty25
    · exact ty26
    · exact ty27
    · exact ty32
    · exact ty34
    · exact ty35
    · exact ty44
    · exact ty52
    · exact ty53
    · exact ty56
    · exact ty59
    · exact ty60
    · exact ty63
    · exact ty65
    · exact ty69
    · exact ty70
    · exact ty74
    · exact ty81
    · exact ty82
    · exact ty87
    · exact ty88
    · exact ty95
    · exact ty96
    · exact ty97
    · exact ty98
    · exact ty100
    · exact ty101
    · exact ty102
    · exact ty105
    · exact ty107
    · exact ty116
    · exact ty117
    · exact ty123
    · exact ty126
    · exact ty127
    · exact ty128
    · exact ty130
    · exact ty137
    · exact ty138
    · exact ty143
    · exact ty144
    · exact ty145
    · exact ty147
    · exact ty148
    · exact ty149
    · exact ty150
    · exact ty151
  · have : tenv t = Ti.no := by
      unfold tenv
      split
      all_goals first | rfl | (exfalso; apply h; decide)
    rw [this]; trivial
noncomputable def TE : Env := { P := Tryz.prog, ti := tenv, ok := tok }
@[go_sem] theorem TE_ti (t : TypeId) : TE.ti t = tenv t := rfl
@[go_sem] theorem TE_P : TE.P = Tryz.prog := rfl
end Go.Eng
