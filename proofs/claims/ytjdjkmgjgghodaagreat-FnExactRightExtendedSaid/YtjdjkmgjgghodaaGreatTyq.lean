/- MADE BY PROGRAM (gentypes.py): what is known of the types of the seat. -/
import Derived.Test.YtjdjkmgjgghodaaGreatKcx
import Derived.Test.YtjdjkmgjgghodaaGreatProg
namespace Go.Eng
open Go Go.Proofs
def tenv : TypeId → Ti
  | 2 => ⟨.ik .i64, 1, 8, [.int .i64 0], default⟩
  | 3 => ⟨.ik .i64, 1, 8, [.int .i64 0], default⟩
  | 4 => ⟨.bk, 1, 1, [.bool false], default⟩
  | 5 => ⟨.ik .u8, 1, 1, [.int .u8 0], default⟩
  | 6 => ⟨.ik .u8, 1, 1, [.int .u8 0], default⟩
  | 7 => ⟨.st [(0, 1), (1, 1), (2, 1), (3, 1)], 4, 24, [.int .i64 0, .int .i64 0, .bool false, .int .u8 0], default⟩
  | 8 => ⟨.st [(0, 1), (1, 1), (2, 1), (3, 1)], 4, 24, [.int .i64 0, .int .i64 0, .bool false, .int .u8 0], default⟩
  | 9 => ⟨.strk, 1, 16, [.string ⟨#[]⟩], default⟩
  | 10 => ⟨.strk, 1, 16, [.string ⟨#[]⟩], default⟩
  | 11 => ⟨.strk, 1, 16, [.string ⟨#[]⟩], default⟩
  | 12 => ⟨.ik .u64, 1, 8, [.int .u64 0], default⟩
  | 13 => ⟨.st [(0, 1), (1, 1)], 2, 24, [.string ⟨#[]⟩, .int .u64 0], default⟩
  | 14 => ⟨.st [(0, 1), (1, 1)], 2, 24, [.string ⟨#[]⟩, .int .u64 0], default⟩
  | 15 => ⟨.sc, 1, 8, [.pointer none], default⟩
  | 16 => ⟨.sc, 1, 8, [.pointer none], default⟩
  | 17 => ⟨.sc, 1, 8, [.pointer none], default⟩
  | 18 => ⟨.st [(0, 1)], 1, 8, [.pointer none], default⟩
  | 19 => ⟨.st [(0, 1)], 1, 8, [.pointer none], default⟩
  | 21 => ⟨.ik .i32, 1, 4, [.int .i32 0], default⟩
  | 22 => ⟨.sli 2 1 8 [.int .i64 0], 1, 24, [.slice none 0 0], .v (.int .i64 0)⟩
  | 23 => ⟨.sli 22 1 24 [.slice none 0 0], 1, 24, [.slice none 0 0], .sl 1 (.v (.int .i64 0)) []⟩
  | 24 => ⟨.st [(0, 1), (1, 1), (2, 1), (3, 1), (4, 1)], 5, 104, [.int .i64 0, .slice none 0 0, .slice none 0 0, .slice none 0 0, .slice none 0 0], default⟩
  | 25 => ⟨.st [(0, 1), (1, 1), (2, 1), (3, 1), (4, 1)], 5, 104, [.int .i64 0, .slice none 0 0, .slice none 0 0, .slice none 0 0, .slice none 0 0], default⟩
  | 26 => ⟨.st [(0, 5), (5, 5), (10, 1), (11, 1)], 12, 256, [.int .i64 0, .slice none 0 0, .slice none 0 0, .slice none 0 0, .slice none 0 0, .int .i64 0, .slice none 0 0, .slice none 0 0, .slice none 0 0, .slice none 0 0, .slice none 0 0, .slice none 0 0], default⟩
  | 27 => ⟨.st [(0, 5), (5, 5), (10, 1), (11, 1)], 12, 256, [.int .i64 0, .slice none 0 0, .slice none 0 0, .slice none 0 0, .slice none 0 0, .int .i64 0, .slice none 0 0, .slice none 0 0, .slice none 0 0, .slice none 0 0, .slice none 0 0, .slice none 0 0], default⟩
  | 28 => ⟨.st [(0, 5), (5, 1), (6, 1)], 7, 152, [.int .i64 0, .slice none 0 0, .slice none 0 0, .slice none 0 0, .slice none 0 0, .slice none 0 0, .slice none 0 0], default⟩
  | 29 => ⟨.st [(0, 5), (5, 1), (6, 1)], 7, 152, [.int .i64 0, .slice none 0 0, .slice none 0 0, .slice none 0 0, .slice none 0 0, .slice none 0 0, .slice none 0 0], default⟩
  | 32 => ⟨.st [(0, 1), (1, 1), (2, 1), (3, 1), (4, 1)], 5, 104, [.int .i64 0, .slice none 0 0, .slice none 0 0, .slice none 0 0, .slice none 0 0], default⟩
  | 33 => ⟨.st [(0, 5), (5, 1), (6, 1)], 7, 152, [.int .i64 0, .slice none 0 0, .slice none 0 0, .slice none 0 0, .slice none 0 0, .slice none 0 0, .slice none 0 0], default⟩
  | 34 => ⟨.st [(0, 5), (5, 1), (6, 1)], 7, 152, [.int .i64 0, .slice none 0 0, .slice none 0 0, .slice none 0 0, .slice none 0 0, .slice none 0 0, .slice none 0 0], default⟩
  | 35 => ⟨.st [(0, 7), (7, 7), (14, 1)], 15, 328, [.int .i64 0, .slice none 0 0, .slice none 0 0, .slice none 0 0, .slice none 0 0, .slice none 0 0, .slice none 0 0, .int .i64 0, .slice none 0 0, .slice none 0 0, .slice none 0 0, .slice none 0 0, .slice none 0 0, .slice none 0 0, .slice none 0 0], default⟩
  | 36 => ⟨.st [(0, 7), (7, 7), (14, 1)], 15, 328, [.int .i64 0, .slice none 0 0, .slice none 0 0, .slice none 0 0, .slice none 0 0, .slice none 0 0, .slice none 0 0, .int .i64 0, .slice none 0 0, .slice none 0 0, .slice none 0 0, .slice none 0 0, .slice none 0 0, .slice none 0 0, .slice none 0 0], default⟩
  | 39 => ⟨.st [(0, 5), (5, 5), (10, 1), (11, 1)], 12, 256, [.int .i64 0, .slice none 0 0, .slice none 0 0, .slice none 0 0, .slice none 0 0, .int .i64 0, .slice none 0 0, .slice none 0 0, .slice none 0 0, .slice none 0 0, .slice none 0 0, .slice none 0 0], default⟩
  | 40 => ⟨.st [(0, 5), (5, 5), (10, 1), (11, 1)], 12, 256, [.int .i64 0, .slice none 0 0, .slice none 0 0, .slice none 0 0, .slice none 0 0, .int .i64 0, .slice none 0 0, .slice none 0 0, .slice none 0 0, .slice none 0 0, .slice none 0 0, .slice none 0 0], default⟩
  | 50 => ⟨.st [(0, 7), (7, 7), (14, 1)], 15, 328, [.int .i64 0, .slice none 0 0, .slice none 0 0, .slice none 0 0, .slice none 0 0, .slice none 0 0, .slice none 0 0, .int .i64 0, .slice none 0 0, .slice none 0 0, .slice none 0 0, .slice none 0 0, .slice none 0 0, .slice none 0 0, .slice none 0 0], default⟩
  | 51 => ⟨.st [(0, 7), (7, 7), (14, 1)], 15, 328, [.int .i64 0, .slice none 0 0, .slice none 0 0, .slice none 0 0, .slice none 0 0, .slice none 0 0, .slice none 0 0, .int .i64 0, .slice none 0 0, .slice none 0 0, .slice none 0 0, .slice none 0 0, .slice none 0 0, .slice none 0 0, .slice none 0 0], default⟩
  | 61 => ⟨.sli 23 1 24 [.slice none 0 0], 1, 24, [.slice none 0 0], .sl 1 (.sl 1 (.v (.int .i64 0)) []) []⟩
  | 62 => ⟨.st [(0, 7), (7, 1), (8, 1), (9, 1)], 10, 208, [.int .i64 0, .slice none 0 0, .slice none 0 0, .slice none 0 0, .slice none 0 0, .slice none 0 0, .slice none 0 0, .slice none 0 0, .slice none 0 0, .bool false], default⟩
  | 63 => ⟨.st [(0, 7), (7, 1), (8, 1), (9, 1)], 10, 208, [.int .i64 0, .slice none 0 0, .slice none 0 0, .slice none 0 0, .slice none 0 0, .slice none 0 0, .slice none 0 0, .slice none 0 0, .slice none 0 0, .bool false], default⟩
  | 73 => ⟨.sc, 1, 8, [.pointer none], default⟩
  | 74 => ⟨.sc, 1, 8, [.pointer none], default⟩
  | 75 => ⟨.sc, 1, 8, [.pointer none], default⟩
  | 79 => ⟨.sc, 1, 8, [.map none], default⟩
  | 80 => ⟨.st [(0, 1), (1, 1), (2, 1), (3, 1)], 4, 64, [.slice none 0 0, .map none, .slice none 0 0, .map none], default⟩
  | 81 => ⟨.st [(0, 1), (1, 1), (2, 1), (3, 1)], 4, 64, [.slice none 0 0, .map none, .slice none 0 0, .map none], default⟩
  | 82 => ⟨.sc, 1, 8, [.pointer none], default⟩
  | 83 => ⟨.sli 82 1 8 [.pointer none], 1, 24, [.slice none 0 0], .v (.pointer none)⟩
  | 84 => ⟨.st [(0, 1), (1, 7), (8, 1)], 9, 184, [.pointer none, .int .i64 0, .slice none 0 0, .slice none 0 0, .slice none 0 0, .slice none 0 0, .slice none 0 0, .slice none 0 0, .slice none 0 0], default⟩
  | 85 => ⟨.st [(0, 1), (1, 7), (8, 1)], 9, 184, [.pointer none, .int .i64 0, .slice none 0 0, .slice none 0 0, .slice none 0 0, .slice none 0 0, .slice none 0 0, .slice none 0 0, .slice none 0 0], default⟩
  | 89 => ⟨.sc, 1, 8, [.nilFunc], default⟩
  | 91 => ⟨.sc, 1, 8, [.nilFunc], default⟩
  | 97 => ⟨.sc, 1, 8, [.pointer none], default⟩
  | 106 => ⟨.sc, 1, 8, [.pointer none], default⟩
  | 117 => ⟨.sli 5 1 1 [.int .u8 0], 1, 24, [.slice none 0 0], .v (.int .u8 0)⟩
  | 125 => ⟨.sli 128 3 40 [.int .i64 0, .int .i64 0, .slice none 0 0], 1, 24, [.slice none 0 0], .v (.int .i64 0)⟩
  | 127 => ⟨.st [(0, 1), (1, 1), (2, 1)], 3, 40, [.int .i64 0, .int .i64 0, .slice none 0 0], default⟩
  | 128 => ⟨.st [(0, 1), (1, 1), (2, 1)], 3, 40, [.int .i64 0, .int .i64 0, .slice none 0 0], default⟩
  | 141 => ⟨.sli 106 1 8 [.pointer none], 1, 24, [.slice none 0 0], .v (.pointer none)⟩
  | 143 => ⟨.sc, 1, 8, [.nilFunc], default⟩
  | 144 => ⟨.sc, 1, 8, [.nilFunc], default⟩
  | 147 => ⟨.sc, 1, 8, [.pointer none], default⟩
  | 148 => ⟨.sc, 1, 8, [.map none], default⟩
  | 149 => ⟨.sc, 1, 8, [.nilFunc], default⟩
  | 150 => ⟨.st [(0, 1), (1, 1), (2, 1), (3, 1)], 4, 64, [.slice none 0 0, .map none, .slice none 0 0, .nilFunc], default⟩
  | 151 => ⟨.st [(0, 1), (1, 1), (2, 1), (3, 1)], 4, 64, [.slice none 0 0, .map none, .slice none 0 0, .nilFunc], default⟩
  | 153 => ⟨.sli 155 4 64 [.int .i64 0, .int .i64 0, .slice none 0 0, .slice none 0 0], 1, 24, [.slice none 0 0], .v (.int .i64 0)⟩
  | 154 => ⟨.st [(0, 1), (1, 1), (2, 1), (3, 1)], 4, 64, [.int .i64 0, .int .i64 0, .slice none 0 0, .slice none 0 0], default⟩
  | 155 => ⟨.st [(0, 1), (1, 1), (2, 1), (3, 1)], 4, 64, [.int .i64 0, .int .i64 0, .slice none 0 0, .slice none 0 0], default⟩
  | 161 => ⟨.sc, 1, 8, [.pointer none], default⟩
  | 162 => ⟨.sc, 1, 8, [.nilFunc], default⟩
  | 165 => ⟨.sc, 1, 8, [.pointer none], default⟩
  | 166 => ⟨.st [(0, 1), (1, 1), (2, 1), (3, 1), (4, 1)], 5, 104, [.slice none 0 0, .slice none 0 0, .slice none 0 0, .int .i64 0, .slice none 0 0], default⟩
  | 167 => ⟨.st [(0, 1), (1, 1), (2, 1), (3, 1), (4, 1)], 5, 104, [.slice none 0 0, .slice none 0 0, .slice none 0 0, .int .i64 0, .slice none 0 0], default⟩
  | 169 => ⟨.sli 74 1 8 [.pointer none], 1, 24, [.slice none 0 0], .v (.pointer none)⟩
  | 170 => ⟨.st [(0, 1), (1, 1)], 2, 16, [.int .i64 0, .int .i64 0], default⟩
  | 171 => ⟨.st [(0, 1), (1, 1)], 2, 16, [.int .i64 0, .int .i64 0], default⟩
  | 176 => ⟨.st [(0, 1), (1, 1), (2, 1), (3, 1)], 4, 40, [.pointer none, .pointer none, .pointer none, .string ⟨#[]⟩], default⟩
  | 177 => ⟨.st [(0, 1), (1, 1), (2, 1), (3, 1)], 4, 40, [.pointer none, .pointer none, .pointer none, .string ⟨#[]⟩], default⟩
  | 182 => ⟨.ik .u32, 1, 4, [.int .u32 0], default⟩
  | 183 => ⟨.ik .u8, 1, 1, [.int .u8 0], default⟩
  | 184 => ⟨.ik .u8, 1, 1, [.int .u8 0], default⟩
  | 186 => ⟨.sc, 1, 8, [.pointer none], default⟩
  | 187 => ⟨.ik .i32, 1, 4, [.int .i32 0], default⟩
  | 188 => ⟨.ik .i32, 1, 4, [.int .i32 0], default⟩
  | 189 => ⟨.st [(0, 1), (1, 1), (2, 1), (3, 1), (4, 1), (5, 1), (6, 1), (7, 1), (8, 1), (9, 1), (10, 1)], 11, 48, [.int .u64 0, .int .u64 0, .int .u32 0, .int .u8 0, .int .u8 0, .int .u8 0, .int .u8 0, .nilFunc, .pointer none, .int .i32 0, .int .i32 0], default⟩
  | 190 => ⟨.st [(0, 1), (1, 1), (2, 1), (3, 1), (4, 1), (5, 1), (6, 1), (7, 1), (8, 1), (9, 1), (10, 1)], 11, 48, [.int .u64 0, .int .u64 0, .int .u32 0, .int .u8 0, .int .u8 0, .int .u8 0, .int .u8 0, .nilFunc, .pointer none, .int .i32 0, .int .i32 0], default⟩
  | _ => Ti.no
@[go_sem] theorem tenv2 : tenv 2 = ⟨.ik .i64, 1, 8, [.int .i64 0], default⟩ := rfl
@[go_sem] theorem tenv3 : tenv 3 = ⟨.ik .i64, 1, 8, [.int .i64 0], default⟩ := rfl
@[go_sem] theorem tenv4 : tenv 4 = ⟨.bk, 1, 1, [.bool false], default⟩ := rfl
@[go_sem] theorem tenv5 : tenv 5 = ⟨.ik .u8, 1, 1, [.int .u8 0], default⟩ := rfl
@[go_sem] theorem tenv6 : tenv 6 = ⟨.ik .u8, 1, 1, [.int .u8 0], default⟩ := rfl
@[go_sem] theorem tenv7 : tenv 7 = ⟨.st [(0, 1), (1, 1), (2, 1), (3, 1)], 4, 24, [.int .i64 0, .int .i64 0, .bool false, .int .u8 0], default⟩ := rfl
@[go_sem] theorem tenv8 : tenv 8 = ⟨.st [(0, 1), (1, 1), (2, 1), (3, 1)], 4, 24, [.int .i64 0, .int .i64 0, .bool false, .int .u8 0], default⟩ := rfl
@[go_sem] theorem tenv9 : tenv 9 = ⟨.strk, 1, 16, [.string ⟨#[]⟩], default⟩ := rfl
@[go_sem] theorem tenv10 : tenv 10 = ⟨.strk, 1, 16, [.string ⟨#[]⟩], default⟩ := rfl
@[go_sem] theorem tenv11 : tenv 11 = ⟨.strk, 1, 16, [.string ⟨#[]⟩], default⟩ := rfl
@[go_sem] theorem tenv12 : tenv 12 = ⟨.ik .u64, 1, 8, [.int .u64 0], default⟩ := rfl
@[go_sem] theorem tenv13 : tenv 13 = ⟨.st [(0, 1), (1, 1)], 2, 24, [.string ⟨#[]⟩, .int .u64 0], default⟩ := rfl
@[go_sem] theorem tenv14 : tenv 14 = ⟨.st [(0, 1), (1, 1)], 2, 24, [.string ⟨#[]⟩, .int .u64 0], default⟩ := rfl
@[go_sem] theorem tenv15 : tenv 15 = ⟨.sc, 1, 8, [.pointer none], default⟩ := rfl
@[go_sem] theorem tenv16 : tenv 16 = ⟨.sc, 1, 8, [.pointer none], default⟩ := rfl
@[go_sem] theorem tenv17 : tenv 17 = ⟨.sc, 1, 8, [.pointer none], default⟩ := rfl
@[go_sem] theorem tenv18 : tenv 18 = ⟨.st [(0, 1)], 1, 8, [.pointer none], default⟩ := rfl
@[go_sem] theorem tenv19 : tenv 19 = ⟨.st [(0, 1)], 1, 8, [.pointer none], default⟩ := rfl
@[go_sem] theorem tenv21 : tenv 21 = ⟨.ik .i32, 1, 4, [.int .i32 0], default⟩ := rfl
@[go_sem] theorem tenv22 : tenv 22 = ⟨.sli 2 1 8 [.int .i64 0], 1, 24, [.slice none 0 0], .v (.int .i64 0)⟩ := rfl
@[go_sem] theorem tenv23 : tenv 23 = ⟨.sli 22 1 24 [.slice none 0 0], 1, 24, [.slice none 0 0], .sl 1 (.v (.int .i64 0)) []⟩ := rfl
@[go_sem] theorem tenv24 : tenv 24 = ⟨.st [(0, 1), (1, 1), (2, 1), (3, 1), (4, 1)], 5, 104, [.int .i64 0, .slice none 0 0, .slice none 0 0, .slice none 0 0, .slice none 0 0], default⟩ := rfl
@[go_sem] theorem tenv25 : tenv 25 = ⟨.st [(0, 1), (1, 1), (2, 1), (3, 1), (4, 1)], 5, 104, [.int .i64 0, .slice none 0 0, .slice none 0 0, .slice none 0 0, .slice none 0 0], default⟩ := rfl
@[go_sem] theorem tenv26 : tenv 26 = ⟨.st [(0, 5), (5, 5), (10, 1), (11, 1)], 12, 256, [.int .i64 0, .slice none 0 0, .slice none 0 0, .slice none 0 0, .slice none 0 0, .int .i64 0, .slice none 0 0, .slice none 0 0, .slice none 0 0, .slice none 0 0, .slice none 0 0, .slice none 0 0], default⟩ := rfl
@[go_sem] theorem tenv27 : tenv 27 = ⟨.st [(0, 5), (5, 5), (10, 1), (11, 1)], 12, 256, [.int .i64 0, .slice none 0 0, .slice none 0 0, .slice none 0 0, .slice none 0 0, .int .i64 0, .slice none 0 0, .slice none 0 0, .slice none 0 0, .slice none 0 0, .slice none 0 0, .slice none 0 0], default⟩ := rfl
@[go_sem] theorem tenv28 : tenv 28 = ⟨.st [(0, 5), (5, 1), (6, 1)], 7, 152, [.int .i64 0, .slice none 0 0, .slice none 0 0, .slice none 0 0, .slice none 0 0, .slice none 0 0, .slice none 0 0], default⟩ := rfl
@[go_sem] theorem tenv29 : tenv 29 = ⟨.st [(0, 5), (5, 1), (6, 1)], 7, 152, [.int .i64 0, .slice none 0 0, .slice none 0 0, .slice none 0 0, .slice none 0 0, .slice none 0 0, .slice none 0 0], default⟩ := rfl
@[go_sem] theorem tenv32 : tenv 32 = ⟨.st [(0, 1), (1, 1), (2, 1), (3, 1), (4, 1)], 5, 104, [.int .i64 0, .slice none 0 0, .slice none 0 0, .slice none 0 0, .slice none 0 0], default⟩ := rfl
@[go_sem] theorem tenv33 : tenv 33 = ⟨.st [(0, 5), (5, 1), (6, 1)], 7, 152, [.int .i64 0, .slice none 0 0, .slice none 0 0, .slice none 0 0, .slice none 0 0, .slice none 0 0, .slice none 0 0], default⟩ := rfl
@[go_sem] theorem tenv34 : tenv 34 = ⟨.st [(0, 5), (5, 1), (6, 1)], 7, 152, [.int .i64 0, .slice none 0 0, .slice none 0 0, .slice none 0 0, .slice none 0 0, .slice none 0 0, .slice none 0 0], default⟩ := rfl
@[go_sem] theorem tenv35 : tenv 35 = ⟨.st [(0, 7), (7, 7), (14, 1)], 15, 328, [.int .i64 0, .slice none 0 0, .slice none 0 0, .slice none 0 0, .slice none 0 0, .slice none 0 0, .slice none 0 0, .int .i64 0, .slice none 0 0, .slice none 0 0, .slice none 0 0, .slice none 0 0, .slice none 0 0, .slice none 0 0, .slice none 0 0], default⟩ := rfl
@[go_sem] theorem tenv36 : tenv 36 = ⟨.st [(0, 7), (7, 7), (14, 1)], 15, 328, [.int .i64 0, .slice none 0 0, .slice none 0 0, .slice none 0 0, .slice none 0 0, .slice none 0 0, .slice none 0 0, .int .i64 0, .slice none 0 0, .slice none 0 0, .slice none 0 0, .slice none 0 0, .slice none 0 0, .slice none 0 0, .slice none 0 0], default⟩ := rfl
@[go_sem] theorem tenv39 : tenv 39 = ⟨.st [(0, 5), (5, 5), (10, 1), (11, 1)], 12, 256, [.int .i64 0, .slice none 0 0, .slice none 0 0, .slice none 0 0, .slice none 0 0, .int .i64 0, .slice none 0 0, .slice none 0 0, .slice none 0 0, .slice none 0 0, .slice none 0 0, .slice none 0 0], default⟩ := rfl
@[go_sem] theorem tenv40 : tenv 40 = ⟨.st [(0, 5), (5, 5), (10, 1), (11, 1)], 12, 256, [.int .i64 0, .slice none 0 0, .slice none 0 0, .slice none 0 0, .slice none 0 0, .int .i64 0, .slice none 0 0, .slice none 0 0, .slice none 0 0, .slice none 0 0, .slice none 0 0, .slice none 0 0], default⟩ := rfl
@[go_sem] theorem tenv50 : tenv 50 = ⟨.st [(0, 7), (7, 7), (14, 1)], 15, 328, [.int .i64 0, .slice none 0 0, .slice none 0 0, .slice none 0 0, .slice none 0 0, .slice none 0 0, .slice none 0 0, .int .i64 0, .slice none 0 0, .slice none 0 0, .slice none 0 0, .slice none 0 0, .slice none 0 0, .slice none 0 0, .slice none 0 0], default⟩ := rfl
@[go_sem] theorem tenv51 : tenv 51 = ⟨.st [(0, 7), (7, 7), (14, 1)], 15, 328, [.int .i64 0, .slice none 0 0, .slice none 0 0, .slice none 0 0, .slice none 0 0, .slice none 0 0, .slice none 0 0, .int .i64 0, .slice none 0 0, .slice none 0 0, .slice none 0 0, .slice none 0 0, .slice none 0 0, .slice none 0 0, .slice none 0 0], default⟩ := rfl
@[go_sem] theorem tenv61 : tenv 61 = ⟨.sli 23 1 24 [.slice none 0 0], 1, 24, [.slice none 0 0], .sl 1 (.sl 1 (.v (.int .i64 0)) []) []⟩ := rfl
@[go_sem] theorem tenv62 : tenv 62 = ⟨.st [(0, 7), (7, 1), (8, 1), (9, 1)], 10, 208, [.int .i64 0, .slice none 0 0, .slice none 0 0, .slice none 0 0, .slice none 0 0, .slice none 0 0, .slice none 0 0, .slice none 0 0, .slice none 0 0, .bool false], default⟩ := rfl
@[go_sem] theorem tenv63 : tenv 63 = ⟨.st [(0, 7), (7, 1), (8, 1), (9, 1)], 10, 208, [.int .i64 0, .slice none 0 0, .slice none 0 0, .slice none 0 0, .slice none 0 0, .slice none 0 0, .slice none 0 0, .slice none 0 0, .slice none 0 0, .bool false], default⟩ := rfl
@[go_sem] theorem tenv73 : tenv 73 = ⟨.sc, 1, 8, [.pointer none], default⟩ := rfl
@[go_sem] theorem tenv74 : tenv 74 = ⟨.sc, 1, 8, [.pointer none], default⟩ := rfl
@[go_sem] theorem tenv75 : tenv 75 = ⟨.sc, 1, 8, [.pointer none], default⟩ := rfl
@[go_sem] theorem tenv79 : tenv 79 = ⟨.sc, 1, 8, [.map none], default⟩ := rfl
@[go_sem] theorem tenv80 : tenv 80 = ⟨.st [(0, 1), (1, 1), (2, 1), (3, 1)], 4, 64, [.slice none 0 0, .map none, .slice none 0 0, .map none], default⟩ := rfl
@[go_sem] theorem tenv81 : tenv 81 = ⟨.st [(0, 1), (1, 1), (2, 1), (3, 1)], 4, 64, [.slice none 0 0, .map none, .slice none 0 0, .map none], default⟩ := rfl
@[go_sem] theorem tenv82 : tenv 82 = ⟨.sc, 1, 8, [.pointer none], default⟩ := rfl
@[go_sem] theorem tenv83 : tenv 83 = ⟨.sli 82 1 8 [.pointer none], 1, 24, [.slice none 0 0], .v (.pointer none)⟩ := rfl
@[go_sem] theorem tenv84 : tenv 84 = ⟨.st [(0, 1), (1, 7), (8, 1)], 9, 184, [.pointer none, .int .i64 0, .slice none 0 0, .slice none 0 0, .slice none 0 0, .slice none 0 0, .slice none 0 0, .slice none 0 0, .slice none 0 0], default⟩ := rfl
@[go_sem] theorem tenv85 : tenv 85 = ⟨.st [(0, 1), (1, 7), (8, 1)], 9, 184, [.pointer none, .int .i64 0, .slice none 0 0, .slice none 0 0, .slice none 0 0, .slice none 0 0, .slice none 0 0, .slice none 0 0, .slice none 0 0], default⟩ := rfl
@[go_sem] theorem tenv89 : tenv 89 = ⟨.sc, 1, 8, [.nilFunc], default⟩ := rfl
@[go_sem] theorem tenv91 : tenv 91 = ⟨.sc, 1, 8, [.nilFunc], default⟩ := rfl
@[go_sem] theorem tenv97 : tenv 97 = ⟨.sc, 1, 8, [.pointer none], default⟩ := rfl
@[go_sem] theorem tenv106 : tenv 106 = ⟨.sc, 1, 8, [.pointer none], default⟩ := rfl
@[go_sem] theorem tenv117 : tenv 117 = ⟨.sli 5 1 1 [.int .u8 0], 1, 24, [.slice none 0 0], .v (.int .u8 0)⟩ := rfl
@[go_sem] theorem tenv125 : tenv 125 = ⟨.sli 128 3 40 [.int .i64 0, .int .i64 0, .slice none 0 0], 1, 24, [.slice none 0 0], .v (.int .i64 0)⟩ := rfl
@[go_sem] theorem tenv127 : tenv 127 = ⟨.st [(0, 1), (1, 1), (2, 1)], 3, 40, [.int .i64 0, .int .i64 0, .slice none 0 0], default⟩ := rfl
@[go_sem] theorem tenv128 : tenv 128 = ⟨.st [(0, 1), (1, 1), (2, 1)], 3, 40, [.int .i64 0, .int .i64 0, .slice none 0 0], default⟩ := rfl
@[go_sem] theorem tenv141 : tenv 141 = ⟨.sli 106 1 8 [.pointer none], 1, 24, [.slice none 0 0], .v (.pointer none)⟩ := rfl
@[go_sem] theorem tenv143 : tenv 143 = ⟨.sc, 1, 8, [.nilFunc], default⟩ := rfl
@[go_sem] theorem tenv144 : tenv 144 = ⟨.sc, 1, 8, [.nilFunc], default⟩ := rfl
@[go_sem] theorem tenv147 : tenv 147 = ⟨.sc, 1, 8, [.pointer none], default⟩ := rfl
@[go_sem] theorem tenv148 : tenv 148 = ⟨.sc, 1, 8, [.map none], default⟩ := rfl
@[go_sem] theorem tenv149 : tenv 149 = ⟨.sc, 1, 8, [.nilFunc], default⟩ := rfl
@[go_sem] theorem tenv150 : tenv 150 = ⟨.st [(0, 1), (1, 1), (2, 1), (3, 1)], 4, 64, [.slice none 0 0, .map none, .slice none 0 0, .nilFunc], default⟩ := rfl
@[go_sem] theorem tenv151 : tenv 151 = ⟨.st [(0, 1), (1, 1), (2, 1), (3, 1)], 4, 64, [.slice none 0 0, .map none, .slice none 0 0, .nilFunc], default⟩ := rfl
@[go_sem] theorem tenv153 : tenv 153 = ⟨.sli 155 4 64 [.int .i64 0, .int .i64 0, .slice none 0 0, .slice none 0 0], 1, 24, [.slice none 0 0], .v (.int .i64 0)⟩ := rfl
@[go_sem] theorem tenv154 : tenv 154 = ⟨.st [(0, 1), (1, 1), (2, 1), (3, 1)], 4, 64, [.int .i64 0, .int .i64 0, .slice none 0 0, .slice none 0 0], default⟩ := rfl
@[go_sem] theorem tenv155 : tenv 155 = ⟨.st [(0, 1), (1, 1), (2, 1), (3, 1)], 4, 64, [.int .i64 0, .int .i64 0, .slice none 0 0, .slice none 0 0], default⟩ := rfl
@[go_sem] theorem tenv161 : tenv 161 = ⟨.sc, 1, 8, [.pointer none], default⟩ := rfl
@[go_sem] theorem tenv162 : tenv 162 = ⟨.sc, 1, 8, [.nilFunc], default⟩ := rfl
@[go_sem] theorem tenv165 : tenv 165 = ⟨.sc, 1, 8, [.pointer none], default⟩ := rfl
@[go_sem] theorem tenv166 : tenv 166 = ⟨.st [(0, 1), (1, 1), (2, 1), (3, 1), (4, 1)], 5, 104, [.slice none 0 0, .slice none 0 0, .slice none 0 0, .int .i64 0, .slice none 0 0], default⟩ := rfl
@[go_sem] theorem tenv167 : tenv 167 = ⟨.st [(0, 1), (1, 1), (2, 1), (3, 1), (4, 1)], 5, 104, [.slice none 0 0, .slice none 0 0, .slice none 0 0, .int .i64 0, .slice none 0 0], default⟩ := rfl
@[go_sem] theorem tenv169 : tenv 169 = ⟨.sli 74 1 8 [.pointer none], 1, 24, [.slice none 0 0], .v (.pointer none)⟩ := rfl
@[go_sem] theorem tenv170 : tenv 170 = ⟨.st [(0, 1), (1, 1)], 2, 16, [.int .i64 0, .int .i64 0], default⟩ := rfl
@[go_sem] theorem tenv171 : tenv 171 = ⟨.st [(0, 1), (1, 1)], 2, 16, [.int .i64 0, .int .i64 0], default⟩ := rfl
@[go_sem] theorem tenv176 : tenv 176 = ⟨.st [(0, 1), (1, 1), (2, 1), (3, 1)], 4, 40, [.pointer none, .pointer none, .pointer none, .string ⟨#[]⟩], default⟩ := rfl
@[go_sem] theorem tenv177 : tenv 177 = ⟨.st [(0, 1), (1, 1), (2, 1), (3, 1)], 4, 40, [.pointer none, .pointer none, .pointer none, .string ⟨#[]⟩], default⟩ := rfl
@[go_sem] theorem tenv182 : tenv 182 = ⟨.ik .u32, 1, 4, [.int .u32 0], default⟩ := rfl
@[go_sem] theorem tenv183 : tenv 183 = ⟨.ik .u8, 1, 1, [.int .u8 0], default⟩ := rfl
@[go_sem] theorem tenv184 : tenv 184 = ⟨.ik .u8, 1, 1, [.int .u8 0], default⟩ := rfl
@[go_sem] theorem tenv186 : tenv 186 = ⟨.sc, 1, 8, [.pointer none], default⟩ := rfl
@[go_sem] theorem tenv187 : tenv 187 = ⟨.ik .i32, 1, 4, [.int .i32 0], default⟩ := rfl
@[go_sem] theorem tenv188 : tenv 188 = ⟨.ik .i32, 1, 4, [.int .i32 0], default⟩ := rfl
@[go_sem] theorem tenv189 : tenv 189 = ⟨.st [(0, 1), (1, 1), (2, 1), (3, 1), (4, 1), (5, 1), (6, 1), (7, 1), (8, 1), (9, 1), (10, 1)], 11, 48, [.int .u64 0, .int .u64 0, .int .u32 0, .int .u8 0, .int .u8 0, .int .u8 0, .int .u8 0, .nilFunc, .pointer none, .int .i32 0, .int .i32 0], default⟩ := rfl
@[go_sem] theorem tenv190 : tenv 190 = ⟨.st [(0, 1), (1, 1), (2, 1), (3, 1), (4, 1), (5, 1), (6, 1), (7, 1), (8, 1), (9, 1), (10, 1)], 11, 48, [.int .u64 0, .int .u64 0, .int .u32 0, .int .u8 0, .int .u8 0, .int .u8 0, .int .u8 0, .nilFunc, .pointer none, .int .i32 0, .int .i32 0], default⟩ := rfl
set_option maxRecDepth 100000 in
theorem ty2 : TiOk Tryz.prog 2 (tenv 2) := ⟨⟨_, _, Tryz.type2, rfl, rfl, rfl, rfl⟩, Tryz.underlying2⟩
set_option maxRecDepth 100000 in
theorem ty3 : TiOk Tryz.prog 3 (tenv 3) := ⟨⟨_, _, Tryz.type3, rfl, rfl, rfl, rfl⟩, Tryz.underlying3⟩
set_option maxRecDepth 100000 in
theorem ty4 : TiOk Tryz.prog 4 (tenv 4) := ⟨⟨_, _, Tryz.type4, rfl, rfl, rfl, rfl⟩, Tryz.underlying4⟩
set_option maxRecDepth 100000 in
theorem ty5 : TiOk Tryz.prog 5 (tenv 5) := ⟨⟨_, _, Tryz.type5, rfl, rfl, rfl, rfl⟩, Tryz.underlying5⟩
set_option maxRecDepth 100000 in
theorem ty6 : TiOk Tryz.prog 6 (tenv 6) := ⟨⟨_, _, Tryz.type6, rfl, rfl, rfl, rfl⟩, Tryz.underlying6⟩
set_option maxRecDepth 100000 in
theorem ty7 : TiOk Tryz.prog 7 (tenv 7) := ⟨⟨_, _, Tryz.type7, rfl, rfl, rfl, rfl⟩, _, Tryz.underlying7, rfl, by kernel_rfl, rfl⟩
set_option maxRecDepth 100000 in
theorem ty8 : TiOk Tryz.prog 8 (tenv 8) := ⟨⟨_, _, Tryz.type8, rfl, rfl, rfl, rfl⟩, _, Tryz.underlying8, rfl, by kernel_rfl, rfl⟩
set_option maxRecDepth 100000 in
theorem ty9 : TiOk Tryz.prog 9 (tenv 9) := ⟨⟨_, _, Tryz.type9, rfl, rfl, rfl, rfl⟩, Tryz.underlying9⟩
set_option maxRecDepth 100000 in
theorem ty10 : TiOk Tryz.prog 10 (tenv 10) := ⟨⟨_, _, Tryz.type10, rfl, rfl, rfl, rfl⟩, Tryz.underlying10⟩
set_option maxRecDepth 100000 in
theorem ty11 : TiOk Tryz.prog 11 (tenv 11) := ⟨⟨_, _, Tryz.type11, rfl, rfl, rfl, rfl⟩, Tryz.underlying11⟩
set_option maxRecDepth 100000 in
theorem ty12 : TiOk Tryz.prog 12 (tenv 12) := ⟨⟨_, _, Tryz.type12, rfl, rfl, rfl, rfl⟩, Tryz.underlying12⟩
set_option maxRecDepth 100000 in
theorem ty13 : TiOk Tryz.prog 13 (tenv 13) := ⟨⟨_, _, Tryz.type13, rfl, rfl, rfl, rfl⟩, _, Tryz.underlying13, rfl, by kernel_rfl, rfl⟩
set_option maxRecDepth 100000 in
theorem ty14 : TiOk Tryz.prog 14 (tenv 14) := ⟨⟨_, _, Tryz.type14, rfl, rfl, rfl, rfl⟩, _, Tryz.underlying14, rfl, by kernel_rfl, rfl⟩
set_option maxRecDepth 100000 in
theorem ty15 : TiOk Tryz.prog 15 (tenv 15) := ⟨⟨_, _, Tryz.type15, rfl, rfl, rfl, rfl⟩, _, Tryz.underlying15, trivial⟩
set_option maxRecDepth 100000 in
theorem ty16 : TiOk Tryz.prog 16 (tenv 16) := ⟨⟨_, _, Tryz.type16, rfl, rfl, rfl, rfl⟩, _, Tryz.underlying16, trivial⟩
set_option maxRecDepth 100000 in
theorem ty17 : TiOk Tryz.prog 17 (tenv 17) := ⟨⟨_, _, Tryz.type17, rfl, rfl, rfl, rfl⟩, _, Tryz.underlying17, trivial⟩
set_option maxRecDepth 100000 in
theorem ty18 : TiOk Tryz.prog 18 (tenv 18) := ⟨⟨_, _, Tryz.type18, rfl, rfl, rfl, rfl⟩, _, Tryz.underlying18, rfl, by kernel_rfl, rfl⟩
set_option maxRecDepth 100000 in
theorem ty19 : TiOk Tryz.prog 19 (tenv 19) := ⟨⟨_, _, Tryz.type19, rfl, rfl, rfl, rfl⟩, _, Tryz.underlying19, rfl, by kernel_rfl, rfl⟩
set_option maxRecDepth 100000 in
theorem ty21 : TiOk Tryz.prog 21 (tenv 21) := ⟨⟨_, _, Tryz.type21, rfl, rfl, rfl, rfl⟩, Tryz.underlying21⟩
set_option maxRecDepth 100000 in
theorem ty22 : TiOk Tryz.prog 22 (tenv 22) := ⟨⟨_, _, Tryz.type22, rfl, rfl, rfl, rfl⟩, Tryz.underlying22, ⟨_, _, Tryz.type2, rfl, rfl, rfl, rfl⟩⟩
set_option maxRecDepth 100000 in
theorem ty23 : TiOk Tryz.prog 23 (tenv 23) := ⟨⟨_, _, Tryz.type23, rfl, rfl, rfl, rfl⟩, Tryz.underlying23, ⟨_, _, Tryz.type22, rfl, rfl, rfl, rfl⟩⟩
set_option maxRecDepth 100000 in
theorem ty24 : TiOk Tryz.prog 24 (tenv 24) := ⟨⟨_, _, Tryz.type24, rfl, rfl, rfl, rfl⟩, _, Tryz.underlying24, rfl, by kernel_rfl, rfl⟩
set_option maxRecDepth 100000 in
theorem ty25 : TiOk Tryz.prog 25 (tenv 25) := ⟨⟨_, _, Tryz.type25, rfl, rfl, rfl, rfl⟩, _, Tryz.underlying25, rfl, by kernel_rfl, rfl⟩
set_option maxRecDepth 100000 in
theorem ty26 : TiOk Tryz.prog 26 (tenv 26) := ⟨⟨_, _, Tryz.type26, rfl, rfl, rfl, rfl⟩, _, Tryz.underlying26, rfl, by kernel_rfl, rfl⟩
set_option maxRecDepth 100000 in
theorem ty27 : TiOk Tryz.prog 27 (tenv 27) := ⟨⟨_, _, Tryz.type27, rfl, rfl, rfl, rfl⟩, _, Tryz.underlying27, rfl, by kernel_rfl, rfl⟩
set_option maxRecDepth 100000 in
theorem ty28 : TiOk Tryz.prog 28 (tenv 28) := ⟨⟨_, _, Tryz.type28, rfl, rfl, rfl, rfl⟩, _, Tryz.underlying28, rfl, by kernel_rfl, rfl⟩
set_option maxRecDepth 100000 in
theorem ty29 : TiOk Tryz.prog 29 (tenv 29) := ⟨⟨_, _, Tryz.type29, rfl, rfl, rfl, rfl⟩, _, Tryz.underlying29, rfl, by kernel_rfl, rfl⟩
set_option maxRecDepth 100000 in
theorem ty32 : TiOk Tryz.prog 32 (tenv 32) := ⟨⟨_, _, Tryz.type32, rfl, rfl, rfl, rfl⟩, _, Tryz.underlying32, rfl, by kernel_rfl, rfl⟩
set_option maxRecDepth 100000 in
theorem ty33 : TiOk Tryz.prog 33 (tenv 33) := ⟨⟨_, _, Tryz.type33, rfl, rfl, rfl, rfl⟩, _, Tryz.underlying33, rfl, by kernel_rfl, rfl⟩
set_option maxRecDepth 100000 in
theorem ty34 : TiOk Tryz.prog 34 (tenv 34) := ⟨⟨_, _, Tryz.type34, rfl, rfl, rfl, rfl⟩, _, Tryz.underlying34, rfl, by kernel_rfl, rfl⟩
set_option maxRecDepth 100000 in
theorem ty35 : TiOk Tryz.prog 35 (tenv 35) := ⟨⟨_, _, Tryz.type35, rfl, rfl, rfl, rfl⟩, _, Tryz.underlying35, rfl, by kernel_rfl, rfl⟩
set_option maxRecDepth 100000 in
theorem ty36 : TiOk Tryz.prog 36 (tenv 36) := ⟨⟨_, _, Tryz.type36, rfl, rfl, rfl, rfl⟩, _, Tryz.underlying36, rfl, by kernel_rfl, rfl⟩
set_option maxRecDepth 100000 in
theorem ty39 : TiOk Tryz.prog 39 (tenv 39) := ⟨⟨_, _, Tryz.type39, rfl, rfl, rfl, rfl⟩, _, Tryz.underlying39, rfl, by kernel_rfl, rfl⟩
set_option maxRecDepth 100000 in
theorem ty40 : TiOk Tryz.prog 40 (tenv 40) := ⟨⟨_, _, Tryz.type40, rfl, rfl, rfl, rfl⟩, _, Tryz.underlying40, rfl, by kernel_rfl, rfl⟩
set_option maxRecDepth 100000 in
theorem ty50 : TiOk Tryz.prog 50 (tenv 50) := ⟨⟨_, _, Tryz.type50, rfl, rfl, rfl, rfl⟩, _, Tryz.underlying50, rfl, by kernel_rfl, rfl⟩
set_option maxRecDepth 100000 in
theorem ty51 : TiOk Tryz.prog 51 (tenv 51) := ⟨⟨_, _, Tryz.type51, rfl, rfl, rfl, rfl⟩, _, Tryz.underlying51, rfl, by kernel_rfl, rfl⟩
set_option maxRecDepth 100000 in
theorem ty61 : TiOk Tryz.prog 61 (tenv 61) := ⟨⟨_, _, Tryz.type61, rfl, rfl, rfl, rfl⟩, Tryz.underlying61, ⟨_, _, Tryz.type23, rfl, rfl, rfl, rfl⟩⟩
set_option maxRecDepth 100000 in
theorem ty62 : TiOk Tryz.prog 62 (tenv 62) := ⟨⟨_, _, Tryz.type62, rfl, rfl, rfl, rfl⟩, _, Tryz.underlying62, rfl, by kernel_rfl, rfl⟩
set_option maxRecDepth 100000 in
theorem ty63 : TiOk Tryz.prog 63 (tenv 63) := ⟨⟨_, _, Tryz.type63, rfl, rfl, rfl, rfl⟩, _, Tryz.underlying63, rfl, by kernel_rfl, rfl⟩
set_option maxRecDepth 100000 in
theorem ty73 : TiOk Tryz.prog 73 (tenv 73) := ⟨⟨_, _, Tryz.type73, rfl, rfl, rfl, rfl⟩, _, Tryz.underlying73, trivial⟩
set_option maxRecDepth 100000 in
theorem ty74 : TiOk Tryz.prog 74 (tenv 74) := ⟨⟨_, _, Tryz.type74, rfl, rfl, rfl, rfl⟩, _, Tryz.underlying74, trivial⟩
set_option maxRecDepth 100000 in
theorem ty75 : TiOk Tryz.prog 75 (tenv 75) := ⟨⟨_, _, Tryz.type75, rfl, rfl, rfl, rfl⟩, _, Tryz.underlying75, trivial⟩
set_option maxRecDepth 100000 in
theorem ty79 : TiOk Tryz.prog 79 (tenv 79) := ⟨⟨_, _, Tryz.type79, rfl, rfl, rfl, rfl⟩, _, Tryz.underlying79, trivial⟩
set_option maxRecDepth 100000 in
theorem ty80 : TiOk Tryz.prog 80 (tenv 80) := ⟨⟨_, _, Tryz.type80, rfl, rfl, rfl, rfl⟩, _, Tryz.underlying80, rfl, by kernel_rfl, rfl⟩
set_option maxRecDepth 100000 in
theorem ty81 : TiOk Tryz.prog 81 (tenv 81) := ⟨⟨_, _, Tryz.type81, rfl, rfl, rfl, rfl⟩, _, Tryz.underlying81, rfl, by kernel_rfl, rfl⟩
set_option maxRecDepth 100000 in
theorem ty82 : TiOk Tryz.prog 82 (tenv 82) := ⟨⟨_, _, Tryz.type82, rfl, rfl, rfl, rfl⟩, _, Tryz.underlying82, trivial⟩
set_option maxRecDepth 100000 in
theorem ty83 : TiOk Tryz.prog 83 (tenv 83) := ⟨⟨_, _, Tryz.type83, rfl, rfl, rfl, rfl⟩, Tryz.underlying83, ⟨_, _, Tryz.type82, rfl, rfl, rfl, rfl⟩⟩
set_option maxRecDepth 100000 in
theorem ty84 : TiOk Tryz.prog 84 (tenv 84) := ⟨⟨_, _, Tryz.type84, rfl, rfl, rfl, rfl⟩, _, Tryz.underlying84, rfl, by kernel_rfl, rfl⟩
set_option maxRecDepth 100000 in
theorem ty85 : TiOk Tryz.prog 85 (tenv 85) := ⟨⟨_, _, Tryz.type85, rfl, rfl, rfl, rfl⟩, _, Tryz.underlying85, rfl, by kernel_rfl, rfl⟩
set_option maxRecDepth 100000 in
theorem ty89 : TiOk Tryz.prog 89 (tenv 89) := ⟨⟨_, _, Tryz.type89, rfl, rfl, rfl, rfl⟩, _, Tryz.underlying89, trivial⟩
set_option maxRecDepth 100000 in
theorem ty91 : TiOk Tryz.prog 91 (tenv 91) := ⟨⟨_, _, Tryz.type91, rfl, rfl, rfl, rfl⟩, _, Tryz.underlying91, trivial⟩
set_option maxRecDepth 100000 in
theorem ty97 : TiOk Tryz.prog 97 (tenv 97) := ⟨⟨_, _, Tryz.type97, rfl, rfl, rfl, rfl⟩, _, Tryz.underlying97, trivial⟩
set_option maxRecDepth 100000 in
theorem ty106 : TiOk Tryz.prog 106 (tenv 106) := ⟨⟨_, _, Tryz.type106, rfl, rfl, rfl, rfl⟩, _, Tryz.underlying106, trivial⟩
set_option maxRecDepth 100000 in
theorem ty117 : TiOk Tryz.prog 117 (tenv 117) := ⟨⟨_, _, Tryz.type117, rfl, rfl, rfl, rfl⟩, Tryz.underlying117, ⟨_, _, Tryz.type5, rfl, rfl, rfl, rfl⟩⟩
set_option maxRecDepth 100000 in
theorem ty125 : TiOk Tryz.prog 125 (tenv 125) := ⟨⟨_, _, Tryz.type125, rfl, rfl, rfl, rfl⟩, Tryz.underlying125, ⟨_, _, Tryz.type128, rfl, rfl, rfl, rfl⟩⟩
set_option maxRecDepth 100000 in
theorem ty127 : TiOk Tryz.prog 127 (tenv 127) := ⟨⟨_, _, Tryz.type127, rfl, rfl, rfl, rfl⟩, _, Tryz.underlying127, rfl, by kernel_rfl, rfl⟩
set_option maxRecDepth 100000 in
theorem ty128 : TiOk Tryz.prog 128 (tenv 128) := ⟨⟨_, _, Tryz.type128, rfl, rfl, rfl, rfl⟩, _, Tryz.underlying128, rfl, by kernel_rfl, rfl⟩
set_option maxRecDepth 100000 in
theorem ty141 : TiOk Tryz.prog 141 (tenv 141) := ⟨⟨_, _, Tryz.type141, rfl, rfl, rfl, rfl⟩, Tryz.underlying141, ⟨_, _, Tryz.type106, rfl, rfl, rfl, rfl⟩⟩
set_option maxRecDepth 100000 in
theorem ty143 : TiOk Tryz.prog 143 (tenv 143) := ⟨⟨_, _, Tryz.type143, rfl, rfl, rfl, rfl⟩, _, Tryz.underlying143, trivial⟩
set_option maxRecDepth 100000 in
theorem ty144 : TiOk Tryz.prog 144 (tenv 144) := ⟨⟨_, _, Tryz.type144, rfl, rfl, rfl, rfl⟩, _, Tryz.underlying144, trivial⟩
set_option maxRecDepth 100000 in
theorem ty147 : TiOk Tryz.prog 147 (tenv 147) := ⟨⟨_, _, Tryz.type147, rfl, rfl, rfl, rfl⟩, _, Tryz.underlying147, trivial⟩
set_option maxRecDepth 100000 in
theorem ty148 : TiOk Tryz.prog 148 (tenv 148) := ⟨⟨_, _, Tryz.type148, rfl, rfl, rfl, rfl⟩, _, Tryz.underlying148, trivial⟩
set_option maxRecDepth 100000 in
theorem ty149 : TiOk Tryz.prog 149 (tenv 149) := ⟨⟨_, _, Tryz.type149, rfl, rfl, rfl, rfl⟩, _, Tryz.underlying149, trivial⟩
set_option maxRecDepth 100000 in
theorem ty150 : TiOk Tryz.prog 150 (tenv 150) := ⟨⟨_, _, Tryz.type150, rfl, rfl, rfl, rfl⟩, _, Tryz.underlying150, rfl, by kernel_rfl, rfl⟩
set_option maxRecDepth 100000 in
theorem ty151 : TiOk Tryz.prog 151 (tenv 151) := ⟨⟨_, _, Tryz.type151, rfl, rfl, rfl, rfl⟩, _, Tryz.underlying151, rfl, by kernel_rfl, rfl⟩
set_option maxRecDepth 100000 in
theorem ty153 : TiOk Tryz.prog 153 (tenv 153) := ⟨⟨_, _, Tryz.type153, rfl, rfl, rfl, rfl⟩, Tryz.underlying153, ⟨_, _, Tryz.type155, rfl, rfl, rfl, rfl⟩⟩
set_option maxRecDepth 100000 in
theorem ty154 : TiOk Tryz.prog 154 (tenv 154) := ⟨⟨_, _, Tryz.type154, rfl, rfl, rfl, rfl⟩, _, Tryz.underlying154, rfl, by kernel_rfl, rfl⟩
set_option maxRecDepth 100000 in
theorem ty155 : TiOk Tryz.prog 155 (tenv 155) := ⟨⟨_, _, Tryz.type155, rfl, rfl, rfl, rfl⟩, _, Tryz.underlying155, rfl, by kernel_rfl, rfl⟩
set_option maxRecDepth 100000 in
theorem ty161 : TiOk Tryz.prog 161 (tenv 161) := ⟨⟨_, _, Tryz.type161, rfl, rfl, rfl, rfl⟩, _, Tryz.underlying161, trivial⟩
set_option maxRecDepth 100000 in
theorem ty162 : TiOk Tryz.prog 162 (tenv 162) := ⟨⟨_, _, Tryz.type162, rfl, rfl, rfl, rfl⟩, _, Tryz.underlying162, trivial⟩
set_option maxRecDepth 100000 in
theorem ty165 : TiOk Tryz.prog 165 (tenv 165) := ⟨⟨_, _, Tryz.type165, rfl, rfl, rfl, rfl⟩, _, Tryz.underlying165, trivial⟩
set_option maxRecDepth 100000 in
theorem ty166 : TiOk Tryz.prog 166 (tenv 166) := ⟨⟨_, _, Tryz.type166, rfl, rfl, rfl, rfl⟩, _, Tryz.underlying166, rfl, by kernel_rfl, rfl⟩
set_option maxRecDepth 100000 in
theorem ty167 : TiOk Tryz.prog 167 (tenv 167) := ⟨⟨_, _, Tryz.type167, rfl, rfl, rfl, rfl⟩, _, Tryz.underlying167, rfl, by kernel_rfl, rfl⟩
set_option maxRecDepth 100000 in
theorem ty169 : TiOk Tryz.prog 169 (tenv 169) := ⟨⟨_, _, Tryz.type169, rfl, rfl, rfl, rfl⟩, Tryz.underlying169, ⟨_, _, Tryz.type74, rfl, rfl, rfl, rfl⟩⟩
set_option maxRecDepth 100000 in
theorem ty170 : TiOk Tryz.prog 170 (tenv 170) := ⟨⟨_, _, Tryz.type170, rfl, rfl, rfl, rfl⟩, _, Tryz.underlying170, rfl, by kernel_rfl, rfl⟩
set_option maxRecDepth 100000 in
theorem ty171 : TiOk Tryz.prog 171 (tenv 171) := ⟨⟨_, _, Tryz.type171, rfl, rfl, rfl, rfl⟩, _, Tryz.underlying171, rfl, by kernel_rfl, rfl⟩
set_option maxRecDepth 100000 in
theorem ty176 : TiOk Tryz.prog 176 (tenv 176) := ⟨⟨_, _, Tryz.type176, rfl, rfl, rfl, rfl⟩, _, Tryz.underlying176, rfl, by kernel_rfl, rfl⟩
set_option maxRecDepth 100000 in
theorem ty177 : TiOk Tryz.prog 177 (tenv 177) := ⟨⟨_, _, Tryz.type177, rfl, rfl, rfl, rfl⟩, _, Tryz.underlying177, rfl, by kernel_rfl, rfl⟩
set_option maxRecDepth 100000 in
theorem ty182 : TiOk Tryz.prog 182 (tenv 182) := ⟨⟨_, _, Tryz.type182, rfl, rfl, rfl, rfl⟩, Tryz.underlying182⟩
set_option maxRecDepth 100000 in
theorem ty183 : TiOk Tryz.prog 183 (tenv 183) := ⟨⟨_, _, Tryz.type183, rfl, rfl, rfl, rfl⟩, Tryz.underlying183⟩
set_option maxRecDepth 100000 in
theorem ty184 : TiOk Tryz.prog 184 (tenv 184) := ⟨⟨_, _, Tryz.type184, rfl, rfl, rfl, rfl⟩, Tryz.underlying184⟩
set_option maxRecDepth 100000 in
theorem ty186 : TiOk Tryz.prog 186 (tenv 186) := ⟨⟨_, _, Tryz.type186, rfl, rfl, rfl, rfl⟩, _, Tryz.underlying186, trivial⟩
set_option maxRecDepth 100000 in
theorem ty187 : TiOk Tryz.prog 187 (tenv 187) := ⟨⟨_, _, Tryz.type187, rfl, rfl, rfl, rfl⟩, Tryz.underlying187⟩
set_option maxRecDepth 100000 in
theorem ty188 : TiOk Tryz.prog 188 (tenv 188) := ⟨⟨_, _, Tryz.type188, rfl, rfl, rfl, rfl⟩, Tryz.underlying188⟩
set_option maxRecDepth 100000 in
theorem ty189 : TiOk Tryz.prog 189 (tenv 189) := ⟨⟨_, _, Tryz.type189, rfl, rfl, rfl, rfl⟩, _, Tryz.underlying189, rfl, by kernel_rfl, rfl⟩
set_option maxRecDepth 100000 in
theorem ty190 : TiOk Tryz.prog 190 (tenv 190) := ⟨⟨_, _, Tryz.type190, rfl, rfl, rfl, rfl⟩, _, Tryz.underlying190, rfl, by kernel_rfl, rfl⟩
theorem tok : ∀ t, TiOk Tryz.prog t (tenv t) := by
  intro t
  by_cases h : t ∈ [2, 3, 4, 5, 6, 7, 8, 9, 10, 11, 12, 13, 14, 15, 16, 17, 18, 19, 21, 22, 23, 24, 25, 26, 27, 28, 29, 32, 33, 34, 35, 36, 39, 40, 50, 51, 61, 62, 63, 73, 74, 75, 79, 80, 81, 82, 83, 84, 85, 89, 91, 97, 106, 117, 125, 127, 128, 141, 143, 144, 147, 148, 149, 150, 151, 153, 154, 155, 161, 162, 165, 166, 167, 169, 170, 171, 176, 177, 182, 183, 184, 186, 187, 188, 189, 190]
  · simp only [List.mem_cons, List.not_mem_nil, or_false] at h
    rcases h with rfl | rfl | rfl | rfl | rfl | rfl | rfl | rfl | rfl | rfl | rfl | rfl | rfl | rfl | rfl | rfl | rfl | rfl | rfl | rfl | rfl | rfl | rfl | rfl | rfl | rfl | rfl | rfl | rfl | rfl | rfl | rfl | rfl | rfl | rfl | rfl | rfl | rfl | rfl | rfl | rfl | rfl | rfl | rfl | rfl | rfl | rfl | rfl | rfl | rfl | rfl | rfl | rfl | rfl | rfl | rfl | rfl | rfl | rfl | rfl | rfl | rfl | rfl | rfl | rfl | rfl | rfl | rfl | rfl | rfl | rfl | rfl | rfl | rfl | rfl | rfl | rfl | rfl | rfl | rfl | rfl | rfl | rfl | rfl | rfl | rfl
    · exact ty2
    · exact ty3
    · exact ty4
    · exact ty5
    · exact ty6
    · exact ty7
    · exact ty8
    · exact ty9
    · exact ty10
    · exact ty11
    · exact ty12
    · exact ty13
    · exact ty14
    · exact ty15
    · exact ty16
    · exact ty17
    · exact ty18
    · exact ty19
    · exact ty21
    · exact ty22
    · exact ty23
    · exact ty24
    · exact ty25
    · exact ty26
    · exact ty27
    · exact ty28
    · exact ty29
    · exact ty32
    · exact ty33
    · exact ty34
    · exact ty35
    · exact ty36
    · exact ty39
    · exact ty40
    · exact ty50
    · exact ty51
    · exact ty61
    · exact ty62
    · exact ty63
    · exact ty73
    · exact ty74
    · exact ty75
    · exact ty79
    · exact ty80
    · exact ty81
    · exact ty82
    · exact ty83
    · exact ty84
    · exact ty85
    · exact ty89
    · exact ty91
    · exact ty97
    · exact ty106
    · exact ty117
    · exact ty125
    · exact ty127
    · exact ty128
    · exact ty141
    · exact ty143
    · exact ty144
    · exact ty147
    · exact ty148
    · exact ty149
    · exact ty150
    · exact ty151
    · exact ty153
    · exact ty154
    · exact ty155
    · exact ty161
    · exact ty162
    · exact ty165
    · exact ty166
    · exact ty167
    · exact ty169
    · exact ty170
    · exact ty171
    · exact ty176
    · exact ty177
    · exact ty182
    · exact ty183
    · exact ty184
    · exact ty186
    · exact ty187
    · exact ty188
    · exact ty189
    · exact ty190
  · have : tenv t = Ti.no := by
      unfold tenv
      split
      all_goals first | rfl | (exfalso; apply h; decide)
    rw [this]; trivial
noncomputable def TE : Env := { P := Tryz.prog, ti := tenv, ok := tok }
@[go_sem] theorem TE_ti (t : TypeId) : TE.ti t = tenv t := rfl
@[go_sem] theorem TE_P : TE.P = Tryz.prog := rfl
end Go.Eng
