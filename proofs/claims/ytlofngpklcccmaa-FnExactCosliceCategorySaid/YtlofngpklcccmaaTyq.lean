/- MADE BY PROGRAM (gentypes.py): what is known of the types of the seat. -/
import Derived.Test.YtlofngpklcccmaaKcx
import Derived.Test.YtlofngpklcccmaaProg
namespace Go.Eng
open Go Go.Proofs

def tenv : TypeId → Ti
  | 2 => ⟨.ik .i64, 1, 8, [.int .i64 0], default⟩
  | 3 => ⟨.ik .i64, 1, 8, [.int .i64 0], default⟩
  | 4 => ⟨.bk, 1, 1, [.bool false], default⟩
  | 5 => ⟨.ik .u8, 1, 1, [.int .u8 0], default⟩
  | 6 => ⟨.ik .u8, 1, 1, [.int .u8 0], default⟩
  | 7 => ⟨.st [(0, 1), (1, 1), (2, 1), (3, 1)], 4, 24, [.int .i64 0, .int .i64 0, .bool false, .int .u8 0], default⟩
  | 8 => ⟨.st [(0, 1), (1, 1), (2, 1), (3, 1)], 4, 24, [.int .i64 0, .int .i64 0, .bool false, .int .u8 0], default⟩
  | 9 => ⟨.strk, 1, 16, [.string ⟨#[]⟩], default⟩
  | 10 => ⟨.strk, 1, 16, [.string ⟨#[]⟩], default⟩
  | 11 => ⟨.strk, 1, 16, [.string ⟨#[]⟩], default⟩
  | 12 => ⟨.ik .u64, 1, 8, [.int .u64 0], default⟩
  | 13 => ⟨.st [(0, 1), (1, 1)], 2, 24, [.string ⟨#[]⟩, .int .u64 0], default⟩
  | 14 => ⟨.st [(0, 1), (1, 1)], 2, 24, [.string ⟨#[]⟩, .int .u64 0], default⟩
  | 15 => ⟨.sc, 1, 8, [.pointer none], default⟩
  | 16 => ⟨.sc, 1, 8, [.pointer none], default⟩
  | 17 => ⟨.sc, 1, 8, [.pointer none], default⟩
  | 18 => ⟨.st [(0, 1)], 1, 8, [.pointer none], default⟩
  | 19 => ⟨.st [(0, 1)], 1, 8, [.pointer none], default⟩
  | 21 => ⟨.ik .i32, 1, 4, [.int .i32 0], default⟩
  | 22 => ⟨.sli 2 1 8 [.int .i64 0], 1, 24, [.slice none 0 0], .v (.int .i64 0)⟩
  | 23 => ⟨.sli 22 1 24 [.slice none 0 0], 1, 24, [.slice none 0 0], .sl 1 (.v (.int .i64 0)) []⟩
  | 24 => ⟨.st [(0, 1), (1, 1), (2, 1), (3, 1), (4, 1)], 5, 104, [.int .i64 0, .slice none 0 0, .slice none 0 0, .slice none 0 0, .slice none 0 0], default⟩
  | 25 => ⟨.st [(0, 1), (1, 1), (2, 1), (3, 1), (4, 1)], 5, 104, [.int .i64 0, .slice none 0 0, .slice none 0 0, .slice none 0 0, .slice none 0 0], default⟩
  | 26 => ⟨.st [(0, 5), (5, 5), (10, 1), (11, 1)], 12, 256, [.int .i64 0, .slice none 0 0, .slice none 0 0, .slice none 0 0, .slice none 0 0, .int .i64 0, .slice none 0 0, .slice none 0 0, .slice none 0 0, .slice none 0 0, .slice none 0 0, .slice none 0 0], default⟩
  | 27 => ⟨.st [(0, 5), (5, 5), (10, 1), (11, 1)], 12, 256, [.int .i64 0, .slice none 0 0, .slice none 0 0, .slice none 0 0, .slice none 0 0, .int .i64 0, .slice none 0 0, .slice none 0 0, .slice none 0 0, .slice none 0 0, .slice none 0 0, .slice none 0 0], default⟩
  | 29 => ⟨.st [(0, 1), (1, 1), (2, 1), (3, 1), (4, 1)], 5, 104, [.int .i64 0, .slice none 0 0, .slice none 0 0, .slice none 0 0, .slice none 0 0], default⟩
  | 32 => ⟨.st [(0, 5), (5, 5), (10, 1), (11, 1)], 12, 256, [.int .i64 0, .slice none 0 0, .slice none 0 0, .slice none 0 0, .slice none 0 0, .int .i64 0, .slice none 0 0, .slice none 0 0, .slice none 0 0, .slice none 0 0, .slice none 0 0, .slice none 0 0], default⟩
  | 33 => ⟨.st [(0, 5), (5, 5), (10, 1), (11, 1)], 12, 256, [.int .i64 0, .slice none 0 0, .slice none 0 0, .slice none 0 0, .slice none 0 0, .int .i64 0, .slice none 0 0, .slice none 0 0, .slice none 0 0, .slice none 0 0, .slice none 0 0, .slice none 0 0], default⟩
  | 40 => ⟨.st [(0, 5), (5, 1), (6, 1)], 7, 152, [.int .i64 0, .slice none 0 0, .slice none 0 0, .slice none 0 0, .slice none 0 0, .slice none 0 0, .slice none 0 0], default⟩
  | 41 => ⟨.st [(0, 5), (5, 1), (6, 1)], 7, 152, [.int .i64 0, .slice none 0 0, .slice none 0 0, .slice none 0 0, .slice none 0 0, .slice none 0 0, .slice none 0 0], default⟩
  | 45 => ⟨.st [(0, 5), (5, 1), (6, 1)], 7, 152, [.int .i64 0, .slice none 0 0, .slice none 0 0, .slice none 0 0, .slice none 0 0, .slice none 0 0, .slice none 0 0], default⟩
  | 46 => ⟨.st [(0, 5), (5, 1), (6, 1)], 7, 152, [.int .i64 0, .slice none 0 0, .slice none 0 0, .slice none 0 0, .slice none 0 0, .slice none 0 0, .slice none 0 0], default⟩
  | 53 => ⟨.sli 23 1 24 [.slice none 0 0], 1, 24, [.slice none 0 0], .sl 1 (.sl 1 (.v (.int .i64 0)) []) []⟩
  | 73 => ⟨.sc, 1, 8, [.pointer none], default⟩
  | 76 => ⟨.sc, 1, 8, [.pointer none], default⟩
  | 82 => ⟨.sc, 1, 8, [.pointer none], default⟩
  | 99 => ⟨.sc, 1, 8, [.pointer none], default⟩
  | 101 => ⟨.sli 33 12 256 [.int .i64 0, .slice none 0 0, .slice none 0 0, .slice none 0 0, .slice none 0 0, .int .i64 0, .slice none 0 0, .slice none 0 0, .slice none 0 0, .slice none 0 0, .slice none 0 0, .slice none 0 0], 1, 24, [.slice none 0 0], .v (.int .i64 0)⟩
  | 115 => ⟨.st [(0, 1), (1, 1), (2, 1), (3, 1)], 4, 64, [.pointer none, .pointer none, .slice none 0 0, .slice none 0 0], default⟩
  | 116 => ⟨.st [(0, 1), (1, 1), (2, 1), (3, 1)], 4, 64, [.pointer none, .pointer none, .slice none 0 0, .slice none 0 0], default⟩
  | 117 => ⟨.sc, 1, 8, [.map none], default⟩
  | 123 => ⟨.sc, 1, 8, [.pointer none], default⟩
  | 124 => ⟨.st [(0, 7), (7, 7), (14, 1), (15, 1), (16, 1)], 17, 344, [.int .i64 0, .slice none 0 0, .slice none 0 0, .slice none 0 0, .slice none 0 0, .slice none 0 0, .slice none 0 0, .int .i64 0, .slice none 0 0, .slice none 0 0, .slice none 0 0, .slice none 0 0, .slice none 0 0, .slice none 0 0, .bool false, .int .i64 0, .slice none 0 0], default⟩
  | 125 => ⟨.st [(0, 7), (7, 7), (14, 1), (15, 1), (16, 1)], 17, 344, [.int .i64 0, .slice none 0 0, .slice none 0 0, .slice none 0 0, .slice none 0 0, .slice none 0 0, .slice none 0 0, .int .i64 0, .slice none 0 0, .slice none 0 0, .slice none 0 0, .slice none 0 0, .slice none 0 0, .slice none 0 0, .bool false, .int .i64 0, .slice none 0 0], default⟩
  | 135 => ⟨.sli 139 4 64 [.int .i64 0, .int .i64 0, .slice none 0 0, .slice none 0 0], 1, 24, [.slice none 0 0], .v (.int .i64 0)⟩
  | 138 => ⟨.st [(0, 1), (1, 1), (2, 1), (3, 1)], 4, 64, [.int .i64 0, .int .i64 0, .slice none 0 0, .slice none 0 0], default⟩
  | 139 => ⟨.st [(0, 1), (1, 1), (2, 1), (3, 1)], 4, 64, [.int .i64 0, .int .i64 0, .slice none 0 0, .slice none 0 0], default⟩
  | 144 => ⟨.sli 2 1 8 [.int .i64 0], 1, 24, [.slice none 0 0], .v (.int .i64 0)⟩
  | 145 => ⟨.sli 194 3 40 [.int .i64 0, .int .i64 0, .slice none 0 0], 1, 24, [.slice none 0 0], .v (.int .i64 0)⟩
  | 154 => ⟨.sc, 1, 8, [.pointer none], default⟩
  | 155 => ⟨.st [(0, 5), (5, 5), (10, 1), (11, 1), (12, 1), (13, 1)], 14, 288, [.int .i64 0, .slice none 0 0, .slice none 0 0, .slice none 0 0, .slice none 0 0, .int .i64 0, .slice none 0 0, .slice none 0 0, .slice none 0 0, .slice none 0 0, .slice none 0 0, .slice none 0 0, .int .i64 0, .slice none 0 0], default⟩
  | 156 => ⟨.st [(0, 5), (5, 5), (10, 1), (11, 1), (12, 1), (13, 1)], 14, 288, [.int .i64 0, .slice none 0 0, .slice none 0 0, .slice none 0 0, .slice none 0 0, .int .i64 0, .slice none 0 0, .slice none 0 0, .slice none 0 0, .slice none 0 0, .slice none 0 0, .slice none 0 0, .int .i64 0, .slice none 0 0], default⟩
  | 160 => ⟨.sli 99 1 8 [.pointer none], 1, 24, [.slice none 0 0], .v (.pointer none)⟩
  | 166 => ⟨.sli 76 1 8 [.pointer none], 1, 24, [.slice none 0 0], .v (.pointer none)⟩
  | 171 => ⟨.sli 5 1 1 [.int .u8 0], 1, 24, [.slice none 0 0], .v (.int .u8 0)⟩
  | 176 => ⟨.sli 82 1 8 [.pointer none], 1, 24, [.slice none 0 0], .v (.pointer none)⟩
  | 178 => ⟨.sc, 1, 8, [.pointer none], default⟩
  | 179 => ⟨.st [(0, 1), (1, 1), (2, 1), (3, 1), (4, 1)], 5, 56, [.pointer none, .pointer none, .bool false, .slice none 0 0, .nilFunc], default⟩
  | 180 => ⟨.st [(0, 1), (1, 1), (2, 1), (3, 1), (4, 1)], 5, 56, [.pointer none, .pointer none, .bool false, .slice none 0 0, .nilFunc], default⟩
  | 188 => ⟨.sc, 1, 8, [.pointer none], default⟩
  | 189 => ⟨.st [(0, 1), (1, 1), (2, 1), (3, 1), (4, 1)], 5, 104, [.slice none 0 0, .slice none 0 0, .slice none 0 0, .int .i64 0, .slice none 0 0], default⟩
  | 190 => ⟨.st [(0, 1), (1, 1), (2, 1), (3, 1), (4, 1)], 5, 104, [.slice none 0 0, .slice none 0 0, .slice none 0 0, .int .i64 0, .slice none 0 0], default⟩
  | 193 => ⟨.st [(0, 1), (1, 1), (2, 1)], 3, 40, [.int .i64 0, .int .i64 0, .slice none 0 0], default⟩
  | 194 => ⟨.st [(0, 1), (1, 1), (2, 1)], 3, 40, [.int .i64 0, .int .i64 0, .slice none 0 0], default⟩
  | 195 => ⟨.sc, 1, 8, [.pointer none], default⟩
  | 196 => ⟨.sc, 1, 8, [.map none], default⟩
  | 197 => ⟨.st [(0, 1), (1, 1), (2, 1), (3, 1)], 4, 64, [.slice none 0 0, .map none, .slice none 0 0, .nilFunc], default⟩
  | 198 => ⟨.st [(0, 1), (1, 1), (2, 1), (3, 1)], 4, 64, [.slice none 0 0, .map none, .slice none 0 0, .nilFunc], default⟩
  | 205 => ⟨.sc, 1, 8, [.pointer none], default⟩
  | 209 => ⟨.sli 213 2 16 [.int .i64 0, .int .i64 0], 1, 24, [.slice none 0 0], .v (.int .i64 0)⟩
  | 211 => ⟨.sc, 1, 8, [.pointer none], default⟩
  | 212 => ⟨.st [(0, 1), (1, 1)], 2, 16, [.int .i64 0, .int .i64 0], default⟩
  | 213 => ⟨.st [(0, 1), (1, 1)], 2, 16, [.int .i64 0, .int .i64 0], default⟩
  | 218 => ⟨.sc, 1, 8, [.pointer none], default⟩
  | 224 => ⟨.st [(0, 1), (1, 1)], 2, 16, [.int .i64 0, .int .i64 0], default⟩
  | 225 => ⟨.st [(0, 1), (1, 1)], 2, 16, [.int .i64 0, .int .i64 0], default⟩
  | 227 => ⟨.st [(0, 1), (1, 1), (2, 1), (3, 1), (4, 1), (5, 1)], 6, 80, [.pointer none, .pointer none, .slice none 0 0, .slice none 0 0, .bool false, .nilFunc], default⟩
  | 228 => ⟨.st [(0, 1), (1, 1), (2, 1), (3, 1), (4, 1), (5, 1)], 6, 80, [.pointer none, .pointer none, .slice none 0 0, .slice none 0 0, .bool false, .nilFunc], default⟩
  | 232 => ⟨.sli 4 1 1 [.bool false], 1, 24, [.slice none 0 0], .v (.bool false)⟩
  | 234 => ⟨.st [(0, 1), (1, 1), (2, 1), (3, 1)], 4, 40, [.pointer none, .pointer none, .pointer none, .string ⟨#[]⟩], default⟩
  | 235 => ⟨.st [(0, 1), (1, 1), (2, 1), (3, 1)], 4, 40, [.pointer none, .pointer none, .pointer none, .string ⟨#[]⟩], default⟩
  | _ => Ti.no
@[go_sem] theorem tenv2 : tenv 2 = ⟨.ik .i64, 1, 8, [.int .i64 0], default⟩ := rfl
@[go_sem] theorem tenv3 : tenv 3 = ⟨.ik .i64, 1, 8, [.int .i64 0], default⟩ := rfl
@[go_sem] theorem tenv4 : tenv 4 = ⟨.bk, 1, 1, [.bool false], default⟩ := rfl
@[go_sem] theorem tenv5 : tenv 5 = ⟨.ik .u8, 1, 1, [.int .u8 0], default⟩ := rfl
@[go_sem] theorem tenv6 : tenv 6 = ⟨.ik .u8, 1, 1, [.int .u8 0], default⟩ := rfl
@[go_sem] theorem tenv7 : tenv 7 = ⟨.st [(0, 1), (1, 1), (2, 1), (3, 1)], 4, 24, [.int .i64 0, .int .i64 0, .bool false, .int .u8 0], default⟩ := rfl
@[go_sem] theorem tenv8 : tenv 8 = ⟨.st [(0, 1), (1, 1), (2, 1), (3, 1)], 4, 24, [.int .i64 0, .int .i64 0, .bool false, .int .u8 0], default⟩ := rfl
@[go_sem] theorem tenv9 : tenv 9 = ⟨.strk, 1, 16, [.string ⟨#[]⟩], default⟩ := rfl
@[go_sem] theorem tenv10 : tenv 10 = ⟨.strk, 1, 16, [.string ⟨#[]⟩], default⟩ := rfl
@[go_sem] theorem tenv11 : tenv 11 = ⟨.strk, 1, 16, [.string ⟨#[]⟩], default⟩ := rfl
@[go_sem] theorem tenv12 : tenv 12 = ⟨.ik .u64, 1, 8, [.int .u64 0], default⟩ := rfl
@[go_sem] theorem tenv13 : tenv 13 = ⟨.st [(0, 1), (1, 1)], 2, 24, [.string ⟨#[]⟩, .int .u64 0], default⟩ := rfl
@[go_sem] theorem tenv14 : tenv 14 = ⟨.st [(0, 1), (1, 1)], 2, 24, [.string ⟨#[]⟩, .int .u64 0], default⟩ := rfl
@[go_sem] theorem tenv15 : tenv 15 = ⟨.sc, 1, 8, [.pointer none], default⟩ := rfl
@[go_sem] theorem tenv16 : tenv 16 = ⟨.sc, 1, 8, [.pointer none], default⟩ := rfl
@[go_sem] theorem tenv17 : tenv 17 = ⟨.sc, 1, 8, [.pointer none], default⟩ := rfl
@[go_sem] theorem tenv18 : tenv 18 = ⟨.st [(0, 1)], 1, 8, [.pointer none], default⟩ := rfl
@[go_sem] theorem tenv19 : tenv 19 = ⟨.st [(0, 1)], 1, 8, [.pointer none], default⟩ := rfl
@[go_sem] theorem tenv21 : tenv 21 = ⟨.ik .i32, 1, 4, [.int .i32 0], default⟩ := rfl
@[go_sem] theorem tenv22 : tenv 22 = ⟨.sli 2 1 8 [.int .i64 0], 1, 24, [.slice none 0 0], .v (.int .i64 0)⟩ := rfl
@[go_sem] theorem tenv23 : tenv 23 = ⟨.sli 22 1 24 [.slice none 0 0], 1, 24, [.slice none 0 0], .sl 1 (.v (.int .i64 0)) []⟩ := rfl
@[go_sem] theorem tenv24 : tenv 24 = ⟨.st [(0, 1), (1, 1), (2, 1), (3, 1), (4, 1)], 5, 104, [.int .i64 0, .slice none 0 0, .slice none 0 0, .slice none 0 0, .slice none 0 0], default⟩ := rfl
@[go_sem] theorem tenv25 : tenv 25 = ⟨.st [(0, 1), (1, 1), (2, 1), (3, 1), (4, 1)], 5, 104, [.int .i64 0, .slice none 0 0, .slice none 0 0, .slice none 0 0, .slice none 0 0], default⟩ := rfl
@[go_sem] theorem tenv26 : tenv 26 = ⟨.st [(0, 5), (5, 5), (10, 1), (11, 1)], 12, 256, [.int .i64 0, .slice none 0 0, .slice none 0 0, .slice none 0 0, .slice none 0 0, .int .i64 0, .slice none 0 0, .slice none 0 0, .slice none 0 0, .slice none 0 0, .slice none 0 0, .slice none 0 0], default⟩ := rfl
@[go_sem] theorem tenv27 : tenv 27 = ⟨.st [(0, 5), (5, 5), (10, 1), (11, 1)], 12, 256, [.int .i64 0, .slice none 0 0, .slice none 0 0, .slice none 0 0, .slice none 0 0, .int .i64 0, .slice none 0 0, .slice none 0 0, .slice none 0 0, .slice none 0 0, .slice none 0 0, .slice none 0 0], default⟩ := rfl
@[go_sem] theorem tenv29 : tenv 29 = ⟨.st [(0, 1), (1, 1), (2, 1), (3, 1), (4, 1)], 5, 104, [.int .i64 0, .slice none 0 0, .slice none 0 0, .slice none 0 0, .slice none 0 0], default⟩ := rfl
@[go_sem] theorem tenv32 : tenv 32 = ⟨.st [(0, 5), (5, 5), (10, 1), (11, 1)], 12, 256, [.int .i64 0, .slice none 0 0, .slice none 0 0, .slice none 0 0, .slice none 0 0, .int .i64 0, .slice none 0 0, .slice none 0 0, .slice none 0 0, .slice none 0 0, .slice none 0 0, .slice none 0 0], default⟩ := rfl
@[go_sem] theorem tenv33 : tenv 33 = ⟨.st [(0, 5), (5, 5), (10, 1), (11, 1)], 12, 256, [.int .i64 0, .slice none 0 0, .slice none 0 0, .slice none 0 0, .slice none 0 0, .int .i64 0, .slice none 0 0, .slice none 0 0, .slice none 0 0, .slice none 0 0, .slice none 0 0, .slice none 0 0], default⟩ := rfl
@[go_sem] theorem tenv40 : tenv 40 = ⟨.st [(0, 5), (5, 1), (6, 1)], 7, 152, [.int .i64 0, .slice none 0 0, .slice none 0 0, .slice none 0 0, .slice none 0 0, .slice none 0 0, .slice none 0 0], default⟩ := rfl
@[go_sem] theorem tenv41 : tenv 41 = ⟨.st [(0, 5), (5, 1), (6, 1)], 7, 152, [.int .i64 0, .slice none 0 0, .slice none 0 0, .slice none 0 0, .slice none 0 0, .slice none 0 0, .slice none 0 0], default⟩ := rfl
@[go_sem] theorem tenv45 : tenv 45 = ⟨.st [(0, 5), (5, 1), (6, 1)], 7, 152, [.int .i64 0, .slice none 0 0, .slice none 0 0, .slice none 0 0, .slice none 0 0, .slice none 0 0, .slice none 0 0], default⟩ := rfl
@[go_sem] theorem tenv46 : tenv 46 = ⟨.st [(0, 5), (5, 1), (6, 1)], 7, 152, [.int .i64 0, .slice none 0 0, .slice none 0 0, .slice none 0 0, .slice none 0 0, .slice none 0 0, .slice none 0 0], default⟩ := rfl
@[go_sem] theorem tenv53 : tenv 53 = ⟨.sli 23 1 24 [.slice none 0 0], 1, 24, [.slice none 0 0], .sl 1 (.sl 1 (.v (.int .i64 0)) []) []⟩ := rfl
@[go_sem] theorem tenv73 : tenv 73 = ⟨.sc, 1, 8, [.pointer none], default⟩ := rfl
@[go_sem] theorem tenv76 : tenv 76 = ⟨.sc, 1, 8, [.pointer none], default⟩ := rfl
@[go_sem] theorem tenv82 : tenv 82 = ⟨.sc, 1, 8, [.pointer none], default⟩ := rfl
@[go_sem] theorem tenv99 : tenv 99 = ⟨.sc, 1, 8, [.pointer none], default⟩ := rfl
@[go_sem] theorem tenv101 : tenv 101 = ⟨.sli 33 12 256 [.int .i64 0, .slice none 0 0, .slice none 0 0, .slice none 0 0, .slice none 0 0, .int .i64 0, .slice none 0 0, .slice none 0 0, .slice none 0 0, .slice none 0 0, .slice none 0 0, .slice none 0 0], 1, 24, [.slice none 0 0], .v (.int .i64 0)⟩ := rfl
@[go_sem] theorem tenv115 : tenv 115 = ⟨.st [(0, 1), (1, 1), (2, 1), (3, 1)], 4, 64, [.pointer none, .pointer none, .slice none 0 0, .slice none 0 0], default⟩ := rfl
@[go_sem] theorem tenv116 : tenv 116 = ⟨.st [(0, 1), (1, 1), (2, 1), (3, 1)], 4, 64, [.pointer none, .pointer none, .slice none 0 0, .slice none 0 0], default⟩ := rfl
@[go_sem] theorem tenv117 : tenv 117 = ⟨.sc, 1, 8, [.map none], default⟩ := rfl
@[go_sem] theorem tenv123 : tenv 123 = ⟨.sc, 1, 8, [.pointer none], default⟩ := rfl
@[go_sem] theorem tenv124 : tenv 124 = ⟨.st [(0, 7), (7, 7), (14, 1), (15, 1), (16, 1)], 17, 344, [.int .i64 0, .slice none 0 0, .slice none 0 0, .slice none 0 0, .slice none 0 0, .slice none 0 0, .slice none 0 0, .int .i64 0, .slice none 0 0, .slice none 0 0, .slice none 0 0, .slice none 0 0, .slice none 0 0, .slice none 0 0, .bool false, .int .i64 0, .slice none 0 0], default⟩ := rfl
@[go_sem] theorem tenv125 : tenv 125 = ⟨.st [(0, 7), (7, 7), (14, 1), (15, 1), (16, 1)], 17, 344, [.int .i64 0, .slice none 0 0, .slice none 0 0, .slice none 0 0, .slice none 0 0, .slice none 0 0, .slice none 0 0, .int .i64 0, .slice none 0 0, .slice none 0 0, .slice none 0 0, .slice none 0 0, .slice none 0 0, .slice none 0 0, .bool false, .int .i64 0, .slice none 0 0], default⟩ := rfl
@[go_sem] theorem tenv135 : tenv 135 = ⟨.sli 139 4 64 [.int .i64 0, .int .i64 0, .slice none 0 0, .slice none 0 0], 1, 24, [.slice none 0 0], .v (.int .i64 0)⟩ := rfl
@[go_sem] theorem tenv138 : tenv 138 = ⟨.st [(0, 1), (1, 1), (2, 1), (3, 1)], 4, 64, [.int .i64 0, .int .i64 0, .slice none 0 0, .slice none 0 0], default⟩ := rfl
@[go_sem] theorem tenv139 : tenv 139 = ⟨.st [(0, 1), (1, 1), (2, 1), (3, 1)], 4, 64, [.int .i64 0, .int .i64 0, .slice none 0 0, .slice none 0 0], default⟩ := rfl
@[go_sem] theorem tenv144 : tenv 144 = ⟨.sli 2 1 8 [.int .i64 0], 1, 24, [.slice none 0 0], .v (.int .i64 0)⟩ := rfl
@[go_sem] theorem tenv145 : tenv 145 = ⟨.sli 194 3 40 [.int .i64 0, .int .i64 0, .slice none 0 0], 1, 24, [.slice none 0 0], .v (.int .i64 0)⟩ := rfl
@[go_sem] theorem tenv154 : tenv 154 = ⟨.sc, 1, 8, [.pointer none], default⟩ := rfl
@[go_sem] theorem tenv155 : tenv 155 = ⟨.st [(0, 5), (5, 5), (10, 1), (11, 1), (12, 1), (13, 1)], 14, 288, [.int .i64 0, .slice none 0 0, .slice none 0 0, .slice none 0 0, .slice none 0 0, .int .i64 0, .slice none 0 0, .slice none 0 0, .slice none 0 0, .slice none 0 0, .slice none 0 0, .slice none 0 0, .int .i64 0, .slice none 0 0], default⟩ := rfl
@[go_sem] theorem tenv156 : tenv 156 = ⟨.st [(0, 5), (5, 5), (10, 1), (11, 1), (12, 1), (13, 1)], 14, 288, [.int .i64 0, .slice none 0 0, .slice none 0 0, .slice none 0 0, .slice none 0 0, .int .i64 0, .slice none 0 0, .slice none 0 0, .slice none 0 0, .slice none 0 0, .slice none 0 0, .slice none 0 0, .int .i64 0, .slice none 0 0], default⟩ := rfl
@[go_sem] theorem tenv160 : tenv 160 = ⟨.sli 99 1 8 [.pointer none], 1, 24, [.slice none 0 0], .v (.pointer none)⟩ := rfl
@[go_sem] theorem tenv166 : tenv 166 = ⟨.sli 76 1 8 [.pointer none], 1, 24, [.slice none 0 0], .v (.pointer none)⟩ := rfl
@[go_sem] theorem tenv171 : tenv 171 = ⟨.sli 5 1 1 [.int .u8 0], 1, 24, [.slice none 0 0], .v (.int .u8 0)⟩ := rfl
@[go_sem] theorem tenv176 : tenv 176 = ⟨.sli 82 1 8 [.pointer none], 1, 24, [.slice none 0 0], .v (.pointer none)⟩ := rfl
@[go_sem] theorem tenv178 : tenv 178 = ⟨.sc, 1, 8, [.pointer none], default⟩ := rfl
@[go_sem] theorem tenv179 : tenv 179 = ⟨.st [(0, 1), (1, 1), (2, 1), (3, 1), (4, 1)], 5, 56, [.pointer none, .pointer none, .bool false, .slice none 0 0, .nilFunc], default⟩ := rfl
@[go_sem] theorem tenv180 : tenv 180 = ⟨.st [(0, 1), (1, 1), (2, 1), (3, 1), (4, 1)], 5, 56, [.pointer none, .pointer none, .bool false, .slice none 0 0, .nilFunc], default⟩ := rfl
@[go_sem] theorem tenv188 : tenv 188 = ⟨.sc, 1, 8, [.pointer none], default⟩ := rfl
@[go_sem] theorem tenv189 : tenv 189 = ⟨.st [(0, 1), (1, 1), (2, 1), (3, 1), (4, 1)], 5, 104, [.slice none 0 0, .slice none 0 0, .slice none 0 0, .int .i64 0, .slice none 0 0], default⟩ := rfl
@[go_sem] theorem tenv190 : tenv 190 = ⟨.st [(0, 1), (1, 1), (2, 1), (3, 1), (4, 1)], 5, 104, [.slice none 0 0, .slice none 0 0, .slice none 0 0, .int .i64 0, .slice none 0 0], default⟩ := rfl
@[go_sem] theorem tenv193 : tenv 193 = ⟨.st [(0, 1), (1, 1), (2, 1)], 3, 40, [.int .i64 0, .int .i64 0, .slice none 0 0], default⟩ := rfl
@[go_sem] theorem tenv194 : tenv 194 = ⟨.st [(0, 1), (1, 1), (2, 1)], 3, 40, [.int .i64 0, .int .i64 0, .slice none 0 0], default⟩ := rfl
@[go_sem] theorem tenv195 : tenv 195 = ⟨.sc, 1, 8, [.pointer none], default⟩ := rfl
@[go_sem] theorem tenv196 : tenv 196 = ⟨.sc, 1, 8, [.map none], default⟩ := rfl
@[go_sem] theorem tenv197 : tenv 197 = ⟨.st [(0, 1), (1, 1), (2, 1), (3, 1)], 4, 64, [.slice none 0 0, .map none, .slice none 0 0, .nilFunc], default⟩ := rfl
@[go_sem] theorem tenv198 : tenv 198 = ⟨.st [(0, 1), (1, 1), (2, 1), (3, 1)], 4, 64, [.slice none 0 0, .map none, .slice none 0 0, .nilFunc], default⟩ := rfl
@[go_sem] theorem tenv205 : tenv 205 = ⟨.sc, 1, 8, [.pointer none], default⟩ := rfl
@[go_sem] theorem tenv209 : tenv 209 = ⟨.sli 213 2 16 [.int .i64 0, .int .i64 0], 1, 24, [.slice none 0 0], .v (.int .i64 0)⟩ := rfl
@[go_sem] theorem tenv211 : tenv 211 = ⟨.sc, 1, 8, [.pointer none], default⟩ := rfl
@[go_sem] theorem tenv212 : tenv 212 = ⟨.st [(0, 1), (1, 1)], 2, 16, [.int .i64 0, .int .i64 0], default⟩ := rfl
@[go_sem] theorem tenv213 : tenv 213 = ⟨.st [(0, 1), (1, 1)], 2, 16, [.int .i64 0, .int .i64 0], default⟩ := rfl
@[go_sem] theorem tenv218 : tenv 218 = ⟨.sc, 1, 8, [.pointer none], default⟩ := rfl
@[go_sem] theorem tenv224 : tenv 224 = ⟨.st [(0, 1), (1, 1)], 2, 16, [.int .i64 0, .int .i64 0], default⟩ := rfl
@[go_sem] theorem tenv225 : tenv 225 = ⟨.st [(0, 1), (1, 1)], 2, 16, [.int .i64 0, .int .i64 0], default⟩ := rfl
@[go_sem] theorem tenv227 : tenv 227 = ⟨.st [(0, 1), (1, 1), (2, 1), (3, 1), (4, 1), (5, 1)], 6, 80, [.pointer none, .pointer none, .slice none 0 0, .slice none 0 0, .bool false, .nilFunc], default⟩ := rfl
@[go_sem] theorem tenv228 : tenv 228 = ⟨.st [(0, 1), (1, 1), (2, 1), (3, 1), (4, 1), (5, 1)], 6, 80, [.pointer none, .pointer none, .slice none 0 0, .slice none 0 0, .bool false, .nilFunc], default⟩ := rfl
@[go_sem] theorem tenv232 : tenv 232 = ⟨.sli 4 1 1 [.bool false], 1, 24, [.slice none 0 0], .v (.bool false)⟩ := rfl
@[go_sem] theorem tenv234 : tenv 234 = ⟨.st [(0, 1), (1, 1), (2, 1), (3, 1)], 4, 40, [.pointer none, .pointer none, .pointer none, .string ⟨#[]⟩], default⟩ := rfl
@[go_sem] theorem tenv235 : tenv 235 = ⟨.st [(0, 1), (1, 1), (2, 1), (3, 1)], 4, 40, [.pointer none, .pointer none, .pointer none, .string ⟨#[]⟩], default⟩ := rfl
set_option maxRecDepth 100000 in
theorem ty2 : TiOk Try.prog 2 (tenv 2) := ⟨⟨_, _, Try.type2, rfl, rfl, rfl, rfl⟩, Try.underlying2⟩
set_option maxRecDepth 100000 in
theorem ty3 : TiOk Try.prog 3 (tenv 3) := ⟨⟨_, _, Try.type3, rfl, rfl, rfl, rfl⟩, Try.underlying3⟩
set_option maxRecDepth 100000 in
theorem ty4 : TiOk Try.prog 4 (tenv 4) := ⟨⟨_, _, Try.type4, rfl, rfl, rfl, rfl⟩, Try.underlying4⟩
set_option maxRecDepth 100000 in
theorem ty5 : TiOk Try.prog 5 (tenv 5) := ⟨⟨_, _, Try.type5, rfl, rfl, rfl, rfl⟩, Try.underlying5⟩
set_option maxRecDepth 100000 in
theorem ty6 : TiOk Try.prog 6 (tenv 6) := ⟨⟨_, _, Try.type6, rfl, rfl, rfl, rfl⟩, Try.underlying6⟩
set_option maxRecDepth 100000 in
theorem ty7 : TiOk Try.prog 7 (tenv 7) := ⟨⟨_, _, Try.type7, rfl, rfl, rfl, rfl⟩, _, Try.underlying7, rfl, by kernel_rfl, rfl⟩
set_option maxRecDepth 100000 in
theorem ty8 : TiOk Try.prog 8 (tenv 8) := ⟨⟨_, _, Try.type8, rfl, rfl, rfl, rfl⟩, _, Try.underlying8, rfl, by kernel_rfl, rfl⟩
set_option maxRecDepth 100000 in
theorem ty9 : TiOk Try.prog 9 (tenv 9) := ⟨⟨_, _, Try.type9, rfl, rfl, rfl, rfl⟩, Try.underlying9⟩
set_option maxRecDepth 100000 in
theorem ty10 : TiOk Try.prog 10 (tenv 10) := ⟨⟨_, _, Try.type10, rfl, rfl, rfl, rfl⟩, Try.underlying10⟩
set_option maxRecDepth 100000 in
theorem ty11 : TiOk Try.prog 11 (tenv 11) := ⟨⟨_, _, Try.type11, rfl, rfl, rfl, rfl⟩, Try.underlying11⟩
set_option maxRecDepth 100000 in
theorem ty12 : TiOk Try.prog 12 (tenv 12) := ⟨⟨_, _, Try.type12, rfl, rfl, rfl, rfl⟩, Try.underlying12⟩
set_option maxRecDepth 100000 in
theorem ty13 : TiOk Try.prog 13 (tenv 13) := ⟨⟨_, _, Try.type13, rfl, rfl, rfl, rfl⟩, _, Try.underlying13, rfl, by kernel_rfl, rfl⟩
set_option maxRecDepth 100000 in
theorem ty14 : TiOk Try.prog 14 (tenv 14) := ⟨⟨_, _, Try.type14, rfl, rfl, rfl, rfl⟩, _, Try.underlying14, rfl, by kernel_rfl, rfl⟩
set_option maxRecDepth 100000 in
theorem ty15 : TiOk Try.prog 15 (tenv 15) := ⟨⟨_, _, Try.type15, rfl, rfl, rfl, rfl⟩, _, Try.underlying15, trivial⟩
set_option maxRecDepth 100000 in
theorem ty16 : TiOk Try.prog 16 (tenv 16) := ⟨⟨_, _, Try.type16, rfl, rfl, rfl, rfl⟩, _, Try.underlying16, trivial⟩
set_option maxRecDepth 100000 in
theorem ty17 : TiOk Try.prog 17 (tenv 17) := ⟨⟨_, _, Try.type17, rfl, rfl, rfl, rfl⟩, _, Try.underlying17, trivial⟩
set_option maxRecDepth 100000 in
theorem ty18 : TiOk Try.prog 18 (tenv 18) := ⟨⟨_, _, Try.type18, rfl, rfl, rfl, rfl⟩, _, Try.underlying18, rfl, by kernel_rfl, rfl⟩
set_option maxRecDepth 100000 in
theorem ty19 : TiOk Try.prog 19 (tenv 19) := ⟨⟨_, _, Try.type19, rfl, rfl, rfl, rfl⟩, _, Try.underlying19, rfl, by kernel_rfl, rfl⟩
set_option maxRecDepth 100000 in
theorem ty21 : TiOk Try.prog 21 (tenv 21) := ⟨⟨_, _, Try.type21, rfl, rfl, rfl, rfl⟩, Try.underlying21⟩
set_option maxRecDepth 100000 in
theorem ty22 : TiOk Try.prog 22 (tenv 22) := ⟨⟨_, _, Try.type22, rfl, rfl, rfl, rfl⟩, Try.underlying22, ⟨_, _, Try.type2, rfl, rfl, rfl, rfl⟩⟩
set_option maxRecDepth 100000 in
theorem ty23 : TiOk Try.prog 23 (tenv 23) := ⟨⟨_, _, Try.type23, rfl, rfl, rfl, rfl⟩, Try.underlying23, ⟨_, _, Try.type22, rfl, rfl, rfl, rfl⟩⟩
set_option maxRecDepth 100000 in
theorem ty24 : TiOk Try.prog 24 (tenv 24) := ⟨⟨_, _, Try.type24, rfl, rfl, rfl, rfl⟩, _, Try.underlying24, rfl, by kernel_rfl, rfl⟩
set_option maxRecDepth 100000 in
theorem ty25 : TiOk Try.prog 25 (tenv 25) := ⟨⟨_, _, Try.type25, rfl, rfl, rfl, rfl⟩, _, Try.underlying25, rfl, by kernel_rfl, rfl⟩
set_option maxRecDepth 100000 in
theorem ty26 : TiOk Try.prog 26 (tenv 26) := ⟨⟨_, _, Try.type26, rfl, rfl, rfl, rfl⟩, _, Try.underlying26, rfl, by kernel_rfl, rfl⟩
set_option maxRecDepth 100000 in
theorem ty27 : TiOk Try.prog 27 (tenv 27) := ⟨⟨_, _, Try.type27, rfl, rfl, rfl, rfl⟩, _, Try.underlying27, rfl, by kernel_rfl, rfl⟩
set_option maxRecDepth 100000 in
theorem ty29 : TiOk Try.prog 29 (tenv 29) := ⟨⟨_, _, Try.type29, rfl, rfl, rfl, rfl⟩, _, Try.underlying29, rfl, by kernel_rfl, rfl⟩
set_option maxRecDepth 100000 in
theorem ty32 : TiOk Try.prog 32 (tenv 32) := ⟨⟨_, _, Try.type32, rfl, rfl, rfl, rfl⟩, _, Try.underlying32, rfl, by kernel_rfl, rfl⟩
set_option maxRecDepth 100000 in
theorem ty33 : TiOk Try.prog 33 (tenv 33) := ⟨⟨_, _, Try.type33, rfl, rfl, rfl, rfl⟩, _, Try.underlying33, rfl, by kernel_rfl, rfl⟩
set_option maxRecDepth 100000 in
theorem ty40 : TiOk Try.prog 40 (tenv 40) := ⟨⟨_, _, Try.type40, rfl, rfl, rfl, rfl⟩, _, Try.underlying40, rfl, by kernel_rfl, rfl⟩
set_option maxRecDepth 100000 in
theorem ty41 : TiOk Try.prog 41 (tenv 41) := ⟨⟨_, _, Try.type41, rfl, rfl, rfl, rfl⟩, _, Try.underlying41, rfl, by kernel_rfl, rfl⟩
set_option maxRecDepth 100000 in
theorem ty45 : TiOk Try.prog 45 (tenv 45) := ⟨⟨_, _, Try.type45, rfl, rfl, rfl, rfl⟩, _, Try.underlying45, rfl, by kernel_rfl, rfl⟩
set_option maxRecDepth 100000 in
theorem ty46 : TiOk Try.prog 46 (tenv 46) := ⟨⟨_, _, Try.type46, rfl, rfl, rfl, rfl⟩, _, Try.underlying46, rfl, by kernel_rfl, rfl⟩
set_option maxRecDepth 100000 in
theorem ty53 : TiOk Try.prog 53 (tenv 53) := ⟨⟨_, _, Try.type53, rfl, rfl, rfl, rfl⟩, Try.underlying53, ⟨_, _, Try.type23, rfl, rfl, rfl, rfl⟩⟩
set_option maxRecDepth 100000 in
theorem ty73 : TiOk Try.prog 73 (tenv 73) := ⟨⟨_, _, Try.type73, rfl, rfl, rfl, rfl⟩, _, Try.underlying73, trivial⟩
set_option maxRecDepth 100000 in
theorem ty76 : TiOk Try.prog 76 (tenv 76) := ⟨⟨_, _, Try.type76, rfl, rfl, rfl, rfl⟩, _, Try.underlying76, trivial⟩
set_option maxRecDepth 100000 in
theorem ty82 : TiOk Try.prog 82 (tenv 82) := ⟨⟨_, _, Try.type82, rfl, rfl, rfl, rfl⟩, _, Try.underlying82, trivial⟩
set_option maxRecDepth 100000 in
theorem ty99 : TiOk Try.prog 99 (tenv 99) := ⟨⟨_, _, Try.type99, rfl, rfl, rfl, rfl⟩, _, Try.underlying99, trivial⟩
set_option maxRecDepth 100000 in
theorem ty101 : TiOk Try.prog 101 (tenv 101) := ⟨⟨_, _, Try.type101, rfl, rfl, rfl, rfl⟩, Try.underlying101, ⟨_, _, Try.type33, rfl, rfl, rfl, rfl⟩⟩
set_option maxRecDepth 100000 in
theorem ty115 : TiOk Try.prog 115 (tenv 115) := ⟨⟨_, _, Try.type115, rfl, rfl, rfl, rfl⟩, _, Try.underlying115, rfl, by kernel_rfl, rfl⟩
set_option maxRecDepth 100000 in
theorem ty116 : TiOk Try.prog 116 (tenv 116) := ⟨⟨_, _, Try.type116, rfl, rfl, rfl, rfl⟩, _, Try.underlying116, rfl, by kernel_rfl, rfl⟩
set_option maxRecDepth 100000 in
theorem ty117 : TiOk Try.prog 117 (tenv 117) := ⟨⟨_, _, Try.type117, rfl, rfl, rfl, rfl⟩, _, Try.underlying117, trivial⟩
set_option maxRecDepth 100000 in
theorem ty123 : TiOk Try.prog 123 (tenv 123) := ⟨⟨_, _, Try.type123, rfl, rfl, rfl, rfl⟩, _, Try.underlying123, trivial⟩
set_option maxRecDepth 100000 in
theorem ty124 : TiOk Try.prog 124 (tenv 124) := ⟨⟨_, _, Try.type124, rfl, rfl, rfl, rfl⟩, _, Try.underlying124, rfl, by kernel_rfl, rfl⟩
set_option maxRecDepth 100000 in
theorem ty125 : TiOk Try.prog 125 (tenv 125) := ⟨⟨_, _, Try.type125, rfl, rfl, rfl, rfl⟩, _, Try.underlying125, rfl, by kernel_rfl, rfl⟩
set_option maxRecDepth 100000 in
theorem ty135 : TiOk Try.prog 135 (tenv 135) := ⟨⟨_, _, Try.type135, rfl, rfl, rfl, rfl⟩, Try.underlying135, ⟨_, _, Try.type139, rfl, rfl, rfl, rfl⟩⟩
set_option maxRecDepth 100000 in
theorem ty138 : TiOk Try.prog 138 (tenv 138) := ⟨⟨_, _, Try.type138, rfl, rfl, rfl, rfl⟩, _, Try.underlying138, rfl, by kernel_rfl, rfl⟩
set_option maxRecDepth 100000 in
theorem ty139 : TiOk Try.prog 139 (tenv 139) := ⟨⟨_, _, Try.type139, rfl, rfl, rfl, rfl⟩, _, Try.underlying139, rfl, by kernel_rfl, rfl⟩
set_option maxRecDepth 100000 in
theorem ty144 : TiOk Try.prog 144 (tenv 144) := ⟨⟨_, _, Try.type144, rfl, rfl, rfl, rfl⟩, Try.underlying144, ⟨_, _, Try.type2, rfl, rfl, rfl, rfl⟩⟩
set_option maxRecDepth 100000 in
theorem ty145 : TiOk Try.prog 145 (tenv 145) := ⟨⟨_, _, Try.type145, rfl, rfl, rfl, rfl⟩, Try.underlying145, ⟨_, _, Try.type194, rfl, rfl, rfl, rfl⟩⟩
set_option maxRecDepth 100000 in
theorem ty154 : TiOk Try.prog 154 (tenv 154) := ⟨⟨_, _, Try.type154, rfl, rfl, rfl, rfl⟩, _, Try.underlying154, trivial⟩
set_option maxRecDepth 100000 in
theorem ty155 : TiOk Try.prog 155 (tenv 155) := ⟨⟨_, _, Try.type155, rfl, rfl, rfl, rfl⟩, _, Try.underlying155, rfl, by kernel_rfl, rfl⟩
set_option maxRecDepth 100000 in
theorem ty156 : TiOk Try.prog 156 (tenv 156) := ⟨⟨_, _, Try.type156, rfl, rfl, rfl, rfl⟩, _, Try.underlying156, rfl, by kernel_rfl, rfl⟩
set_option maxRecDepth 100000 in
theorem ty160 : TiOk Try.prog 160 (tenv 160) := ⟨⟨_, _, Try.type160, rfl, rfl, rfl, rfl⟩, Try.underlying160, ⟨_, _, Try.type99, rfl, rfl, rfl, rfl⟩⟩
set_option maxRecDepth 100000 in
theorem ty166 : TiOk Try.prog 166 (tenv 166) := ⟨⟨_, _, Try.type166, rfl, rfl, rfl, rfl⟩, Try.underlying166, ⟨_, _, Try.type76, rfl, rfl, rfl, rfl⟩⟩
set_option maxRecDepth 100000 in
theorem ty171 : TiOk Try.prog 171 (tenv 171) := ⟨⟨_, _, Try.type171, rfl, rfl, rfl, rfl⟩, Try.underlying171, ⟨_, _, Try.type5, rfl, rfl, rfl, rfl⟩⟩
set_option maxRecDepth 100000 in
theorem ty176 : TiOk Try.prog 176 (tenv 176) := ⟨⟨_, _, Try.type176, rfl, rfl, rfl, rfl⟩, Try.underlying176, ⟨_, _, Try.type82, rfl, rfl, rfl, rfl⟩⟩
set_option maxRecDepth 100000 in
theorem ty178 : TiOk Try.prog 178 (tenv 178) := ⟨⟨_, _, Try.type178, rfl, rfl, rfl, rfl⟩, _, Try.underlying178, trivial⟩
set_option maxRecDepth 100000 in
theorem ty179 : TiOk Try.prog 179 (tenv 179) := ⟨⟨_, _, Try.type179, rfl, rfl, rfl, rfl⟩, _, Try.underlying179, rfl, by kernel_rfl, rfl⟩
set_option maxRecDepth 100000 in
theorem ty180 : TiOk Try.prog 180 (tenv 180) := ⟨⟨_, _, Try.type180, rfl, rfl, rfl, rfl⟩, _, Try.underlying180, rfl, by kernel_rfl, rfl⟩
set_option maxRecDepth 100000 in
theorem ty188 : TiOk Try.prog 188 (tenv 188) := ⟨⟨_, _, Try.type188, rfl, rfl, rfl, rfl⟩, _, Try.underlying188, trivial⟩
set_option maxRecDepth 100000 in
theorem ty189 : TiOk Try.prog 189 (tenv 189) := ⟨⟨_, _, Try.type189, rfl, rfl, rfl, rfl⟩, _, Try.underlying189, rfl, by kernel_rfl, rfl⟩
set_option maxRecDepth 100000 in
theorem ty190 : TiOk Try.prog 190 (tenv 190) := ⟨⟨_, _, Try.type190, rfl, rfl, rfl, rfl⟩, _, Try.underlying190, rfl, by kernel_rfl, rfl⟩
set_option maxRecDepth 100000 in
theorem ty193 : TiOk Try.prog 193 (tenv 193) := ⟨⟨_, _, Try.type193, rfl, rfl, rfl, rfl⟩, _, Try.underlying193, rfl, by kernel_rfl, rfl⟩
set_option maxRecDepth 100000 in
theorem ty194 : TiOk Try.prog 194 (tenv 194) := ⟨⟨_, _, Try.type194, rfl, rfl, rfl, rfl⟩, _, Try.underlying194, rfl, by kernel_rfl, rfl⟩
set_option maxRecDepth 100000 in
theorem ty195 : TiOk Try.prog 195 (tenv 195) := ⟨⟨_, _, Try.type195, rfl, rfl, rfl, rfl⟩, _, Try.underlying195, trivial⟩
set_option maxRecDepth 100000 in
theorem ty196 : TiOk Try.prog 196 (tenv 196) := ⟨⟨_, _, Try.type196, rfl, rfl, rfl, rfl⟩, _, Try.underlying196, trivial⟩
set_option maxRecDepth 100000 in
theorem ty197 : TiOk Try.prog 197 (tenv 197) := ⟨⟨_, _, Try.type197, rfl, rfl, rfl, rfl⟩, _, Try.underlying197, rfl, by kernel_rfl, rfl⟩
set_option maxRecDepth 100000 in
theorem ty198 : TiOk Try.prog 198 (tenv 198) := ⟨⟨_, _, Try.type198, rfl, rfl, rfl, rfl⟩, _, Try.underlying198, rfl, by kernel_rfl, rfl⟩
set_option maxRecDepth 100000 in
theorem ty205 : TiOk Try.prog 205 (tenv 205) := ⟨⟨_, _, Try.type205, rfl, rfl, rfl, rfl⟩, _, Try.underlying205, trivial⟩
set_option maxRecDepth 100000 in
theorem ty209 : TiOk Try.prog 209 (tenv 209) := ⟨⟨_, _, Try.type209, rfl, rfl, rfl, rfl⟩, Try.underlying209, ⟨_, _, Try.type213, rfl, rfl, rfl, rfl⟩⟩
set_option maxRecDepth 100000 in
theorem ty211 : TiOk Try.prog 211 (tenv 211) := ⟨⟨_, _, Try.type211, rfl, rfl, rfl, rfl⟩, _, Try.underlying211, trivial⟩
set_option maxRecDepth 100000 in
theorem ty212 : TiOk Try.prog 212 (tenv 212) := ⟨⟨_, _, Try.type212, rfl, rfl, rfl, rfl⟩, _, Try.underlying212, rfl, by kernel_rfl, rfl⟩
set_option maxRecDepth 100000 in
theorem ty213 : TiOk Try.prog 213 (tenv 213) := ⟨⟨_, _, Try.type213, rfl, rfl, rfl, rfl⟩, _, Try.underlying213, rfl, by kernel_rfl, rfl⟩
set_option maxRecDepth 100000 in
theorem ty218 : TiOk Try.prog 218 (tenv 218) := ⟨⟨_, _, Try.type218, rfl, rfl, rfl, rfl⟩, _, Try.underlying218, trivial⟩
set_option maxRecDepth 100000 in
theorem ty224 : TiOk Try.prog 224 (tenv 224) := ⟨⟨_, _, Try.type224, rfl, rfl, rfl, rfl⟩, _, Try.underlying224, rfl, by kernel_rfl, rfl⟩
set_option maxRecDepth 100000 in
theorem ty225 : TiOk Try.prog 225 (tenv 225) := ⟨⟨_, _, Try.type225, rfl, rfl, rfl, rfl⟩, _, Try.underlying225, rfl, by kernel_rfl, rfl⟩
set_option maxRecDepth 100000 in
theorem ty227 : TiOk Try.prog 227 (tenv 227) := ⟨⟨_, _, Try.type227, rfl, rfl, rfl, rfl⟩, _, Try.underlying227, rfl, by kernel_rfl, rfl⟩
set_option maxRecDepth 100000 in
theorem ty228 : TiOk Try.prog 228 (tenv 228) := ⟨⟨_, _, Try.type228, rfl, rfl, rfl, rfl⟩, _, Try.underlying228, rfl, by kernel_rfl, rfl⟩
set_option maxRecDepth 100000 in
theorem ty232 : TiOk Try.prog 232 (tenv 232) := ⟨⟨_, _, Try.type232, rfl, rfl, rfl, rfl⟩, Try.underlying232, ⟨_, _, Try.type4, rfl, rfl, rfl, rfl⟩⟩
set_option maxRecDepth 100000 in
theorem ty234 : TiOk Try.prog 234 (tenv 234) := ⟨⟨_, _, Try.type234, rfl, rfl, rfl, rfl⟩, _, Try.underlying234, rfl, by kernel_rfl, rfl⟩
set_option maxRecDepth 100000 in
theorem ty235 : TiOk Try.prog 235 (tenv 235) := ⟨⟨_, _, Try.type235, rfl, rfl, rfl, rfl⟩, _, Try.underlying235, rfl, by kernel_rfl, rfl⟩
theorem tok : ∀ t, TiOk Try.prog t (tenv t) := by
  intro t
  by_cases h : t ∈ [2, 3, 4, 5, 6, 7, 8, 9, 10, 11, 12, 13, 14, 15, 16, 17, 18, 19, 21, 22, 23, 24, 25, 26, 27, 29, 32, 33, 40, 41, 45, 46, 53, 73, 76, 82, 99, 101, 115, 116, 117, 123, 124, 125, 135, 138, 139, 144, 145, 154, 155, 156, 160, 166, 171, 176, 178, 179, 180, 188, 189, 190, 193, 194, 195, 196, 197, 198, 205, 209, 211, 212, 213, 218, 224, 225, 227, 228, 232, 234, 235]
  · simp only [List.mem_cons, List.not_mem_nil, or_false] at h
    rcases h with rfl | rfl | rfl | rfl | rfl | rfl | rfl | rfl | rfl | rfl | rfl | rfl | rfl | rfl | rfl | rfl | rfl | rfl | rfl | rfl | rfl | rfl | rfl | rfl | rfl | rfl | rfl | rfl | rfl | rfl | rfl | rfl | rfl | rfl | rfl | rfl | rfl | rfl | rfl | rfl | rfl | rfl | rfl | rfl | rfl | rfl | rfl | rfl | rfl | rfl | rfl | rfl | rfl | rfl | rfl | rfl | rfl | rfl | rfl | rfl | rfl | rfl | rfl | rfl | rfl | rfl | rfl | rfl | rfl | rfl | rfl | rfl | rfl | rfl | rfl | rfl | rfl | rfl | rfl | rfl | rfl
    · exact ty2
    · exact ty3
    · exact ty4
    · exact ty5
    · exact ty6
    · exact ty7
    · exact ty8
    · exact ty9
    · exact ty10
    · exact ty11
    · exact ty12
    · exact ty13
    · exact ty14
    · exact ty15
    · exact ty16
    · exact ty17
    · exact ty18
    · exact ty19
    · exact ty21
    · exact ty22
    · exact ty23
    · exact ty24
    · exact ty25
    · exact ty26
    · exact ty27
    · exact ty29
    · exact ty32
    · exact ty33
    · exact ty40
    · exact ty41
    · exact ty45
    · exact ty46
    · exact ty53
    · exact ty73
    · exact ty76
    · exact ty82
    · exact ty99
    · exact ty101
    · exact ty115
    · exact ty116
    · exact ty117
    · exact ty123
    · exact ty124
    · exact ty125
    · exact ty135
    · exact ty138
    · exact ty139
    · exact ty144
    · exact ty145
    · exact ty154
    · exact ty155
    · exact ty156
    · exact ty160
    · exact ty166
    · exact ty171
    · exact ty176
    · exact ty178
    · exact ty179
    · exact ty180
    · exact ty188
    · exact ty189
    · exact ty190
    · exact ty193
    · exact ty194
    · exact ty195
    · exact ty196
    · exact ty197
    · exact ty198
    · exact ty205
    · exact ty209
    · exact ty211
    · exact ty212
    · exact ty213
    · exact ty218
    · exact ty224
    · exact ty225
    · exact ty227
    · exact ty228
    · exact ty232
    · exact ty234
    · exact ty235
  · have : tenv t = Ti.no := by
      unfold tenv
      split
      all_goals first | rfl | (exfalso; apply h; decide)
    rw [this]; trivial
noncomputable def TE : Env := { P := Try.prog, ti := tenv, ok := tok }
@[go_sem] theorem TE_ti (t : TypeId) : TE.ti t = tenv t := rfl
@[go_sem] theorem TE_P : TE.P = Try.prog := rfl
end Go.Eng
