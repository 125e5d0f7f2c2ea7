/- MADE BY PROGRAM (gentypes.py): what is known of the types of the seat. -/
import Derived.Test.YtgmbhfggdcipoaaKcx
import Derived.Test.YtgmbhfggdcipoaaProg
namespace Go.Eng
open Go Go.Proofs

def tenv : TypeId → Ti
  | 2 => ⟨.ik .i64, 1, 8, [.int .i64 0], default⟩
  | 3 => ⟨.ik .i64, 1, 8, [.int .i64 0], default⟩
  | 4 => ⟨.bk, 1, 1, [.bool false], default⟩
  | 5 => ⟨.ik .u8, 1, 1, [.int .u8 0], default⟩
  | 6 => ⟨.ik .u8, 1, 1, [.int .u8 0], default⟩
  | 7 => ⟨.st [(0, 1), (1, 1), (2, 1), (3, 1)], 4, 24, [.int .i64 0, .int .i64 0, .bool false, .int .u8 0], default⟩
  | 8 => ⟨.st [(0, 1), (1, 1), (2, 1), (3, 1)], 4, 24, [.int .i64 0, .int .i64 0, .bool false, .int .u8 0], default⟩
  | 9 => ⟨.strk, 1, 16, [.string ⟨#[]⟩], default⟩
  | 10 => ⟨.strk, 1, 16, [.string ⟨#[]⟩], default⟩
  | 11 => ⟨.strk, 1, 16, [.string ⟨#[]⟩], default⟩
  | 12 => ⟨.ik .u64, 1, 8, [.int .u64 0], default⟩
  | 13 => ⟨.st [(0, 1), (1, 1)], 2, 24, [.string ⟨#[]⟩, .int .u64 0], default⟩
  | 14 => ⟨.st [(0, 1), (1, 1)], 2, 24, [.string ⟨#[]⟩, .int .u64 0], default⟩
  | 15 => ⟨.sc, 1, 8, [.pointer none], default⟩
  | 16 => ⟨.sc, 1, 8, [.pointer none], default⟩
  | 17 => ⟨.sc, 1, 8, [.pointer none], default⟩
  | 18 => ⟨.st [(0, 1)], 1, 8, [.pointer none], default⟩
  | 19 => ⟨.st [(0, 1)], 1, 8, [.pointer none], default⟩
  | 21 => ⟨.ik .i32, 1, 4, [.int .i32 0], default⟩
  | 22 => ⟨.sli 2 1 8 [.int .i64 0], 1, 24, [.slice none 0 0], .v (.int .i64 0)⟩
  | 23 => ⟨.sli 22 1 24 [.slice none 0 0], 1, 24, [.slice none 0 0], .sl 1 (.v (.int .i64 0)) []⟩
  | 24 => ⟨.st [(0, 1), (1, 1), (2, 1), (3, 1), (4, 1)], 5, 104, [.int .i64 0, .slice none 0 0, .slice none 0 0, .slice none 0 0, .slice none 0 0], default⟩
  | 25 => ⟨.st [(0, 1), (1, 1), (2, 1), (3, 1), (4, 1)], 5, 104, [.int .i64 0, .slice none 0 0, .slice none 0 0, .slice none 0 0, .slice none 0 0], default⟩
  | 26 => ⟨.st [(0, 5), (5, 1), (6, 1)], 7, 152, [.int .i64 0, .slice none 0 0, .slice none 0 0, .slice none 0 0, .slice none 0 0, .slice none 0 0, .slice none 0 0], default⟩
  | 27 => ⟨.st [(0, 5), (5, 1), (6, 1)], 7, 152, [.int .i64 0, .slice none 0 0, .slice none 0 0, .slice none 0 0, .slice none 0 0, .slice none 0 0, .slice none 0 0], default⟩
  | 31 => ⟨.st [(0, 1), (1, 1), (2, 1), (3, 1), (4, 1)], 5, 104, [.int .i64 0, .slice none 0 0, .slice none 0 0, .slice none 0 0, .slice none 0 0], default⟩
  | 32 => ⟨.st [(0, 5), (5, 1), (6, 1)], 7, 152, [.int .i64 0, .slice none 0 0, .slice none 0 0, .slice none 0 0, .slice none 0 0, .slice none 0 0, .slice none 0 0], default⟩
  | 33 => ⟨.st [(0, 5), (5, 1), (6, 1)], 7, 152, [.int .i64 0, .slice none 0 0, .slice none 0 0, .slice none 0 0, .slice none 0 0, .slice none 0 0, .slice none 0 0], default⟩
  | 36 => ⟨.sc, 1, 8, [.nilFunc], default⟩
  | 38 => ⟨.sc, 1, 8, [.nilFunc], default⟩
  | 48 => ⟨.st [(0, 5), (5, 5), (10, 1), (11, 1)], 12, 256, [.int .i64 0, .slice none 0 0, .slice none 0 0, .slice none 0 0, .slice none 0 0, .int .i64 0, .slice none 0 0, .slice none 0 0, .slice none 0 0, .slice none 0 0, .slice none 0 0, .slice none 0 0], default⟩
  | 49 => ⟨.st [(0, 5), (5, 5), (10, 1), (11, 1)], 12, 256, [.int .i64 0, .slice none 0 0, .slice none 0 0, .slice none 0 0, .slice none 0 0, .int .i64 0, .slice none 0 0, .slice none 0 0, .slice none 0 0, .slice none 0 0, .slice none 0 0, .slice none 0 0], default⟩
  | 52 => ⟨.st [(0, 5), (5, 5), (10, 1), (11, 1)], 12, 256, [.int .i64 0, .slice none 0 0, .slice none 0 0, .slice none 0 0, .slice none 0 0, .int .i64 0, .slice none 0 0, .slice none 0 0, .slice none 0 0, .slice none 0 0, .slice none 0 0, .slice none 0 0], default⟩
  | 53 => ⟨.st [(0, 5), (5, 5), (10, 1), (11, 1)], 12, 256, [.int .i64 0, .slice none 0 0, .slice none 0 0, .slice none 0 0, .slice none 0 0, .int .i64 0, .slice none 0 0, .slice none 0 0, .slice none 0 0, .slice none 0 0, .slice none 0 0, .slice none 0 0], default⟩
  | 78 => ⟨.sc, 1, 8, [.pointer none], default⟩
  | 81 => ⟨.sc, 1, 8, [.pointer none], default⟩
  | 84 => ⟨.sc, 1, 8, [.map none], default⟩
  | 85 => ⟨.st [(0, 1), (1, 1), (2, 1), (3, 1)], 4, 64, [.slice none 0 0, .map none, .slice none 0 0, .map none], default⟩
  | 86 => ⟨.st [(0, 1), (1, 1), (2, 1), (3, 1)], 4, 64, [.slice none 0 0, .map none, .slice none 0 0, .map none], default⟩
  | 88 => ⟨.sli 23 1 24 [.slice none 0 0], 1, 24, [.slice none 0 0], .sl 1 (.sl 1 (.v (.int .i64 0)) []) []⟩
  | 89 => ⟨.st [(0, 7), (7, 1), (8, 1)], 9, 200, [.int .i64 0, .slice none 0 0, .slice none 0 0, .slice none 0 0, .slice none 0 0, .slice none 0 0, .slice none 0 0, .slice none 0 0, .slice none 0 0], default⟩
  | 90 => ⟨.st [(0, 7), (7, 1), (8, 1)], 9, 200, [.int .i64 0, .slice none 0 0, .slice none 0 0, .slice none 0 0, .slice none 0 0, .slice none 0 0, .slice none 0 0, .slice none 0 0, .slice none 0 0], default⟩
  | 95 => ⟨.sc, 1, 8, [.pointer none], default⟩
  | 98 => ⟨.sli 81 1 8 [.pointer none], 1, 24, [.slice none 0 0], .v (.pointer none)⟩
  | 99 => ⟨.st [(0, 1), (1, 1), (2, 7), (9, 1)], 10, 192, [.pointer none, .pointer none, .int .i64 0, .slice none 0 0, .slice none 0 0, .slice none 0 0, .slice none 0 0, .slice none 0 0, .slice none 0 0, .slice none 0 0], default⟩
  | 100 => ⟨.st [(0, 1), (1, 1), (2, 7), (9, 1)], 10, 192, [.pointer none, .pointer none, .int .i64 0, .slice none 0 0, .slice none 0 0, .slice none 0 0, .slice none 0 0, .slice none 0 0, .slice none 0 0, .slice none 0 0], default⟩
  | 106 => ⟨.sc, 1, 8, [.pointer none], default⟩
  | 107 => ⟨.sc, 1, 8, [.pointer none], default⟩
  | 110 => ⟨.st [(0, 1), (1, 1), (2, 1), (3, 1)], 4, 64, [.slice none 0 0, .map none, .slice none 0 0, .map none], default⟩
  | 111 => ⟨.st [(0, 1), (1, 1), (2, 1), (3, 1)], 4, 64, [.slice none 0 0, .map none, .slice none 0 0, .map none], default⟩
  | 112 => ⟨.st [(0, 7), (7, 1), (8, 1), (9, 1)], 10, 208, [.int .i64 0, .slice none 0 0, .slice none 0 0, .slice none 0 0, .slice none 0 0, .slice none 0 0, .slice none 0 0, .slice none 0 0, .slice none 0 0, .bool false], default⟩
  | 113 => ⟨.st [(0, 7), (7, 1), (8, 1), (9, 1)], 10, 208, [.int .i64 0, .slice none 0 0, .slice none 0 0, .slice none 0 0, .slice none 0 0, .slice none 0 0, .slice none 0 0, .slice none 0 0, .slice none 0 0, .bool false], default⟩
  | 117 => ⟨.sc, 1, 8, [.pointer none], default⟩
  | 120 => ⟨.sli 107 1 8 [.pointer none], 1, 24, [.slice none 0 0], .v (.pointer none)⟩
  | 121 => ⟨.st [(0, 1), (1, 7), (8, 1)], 9, 184, [.pointer none, .int .i64 0, .slice none 0 0, .slice none 0 0, .slice none 0 0, .slice none 0 0, .slice none 0 0, .slice none 0 0, .slice none 0 0], default⟩
  | 122 => ⟨.st [(0, 1), (1, 7), (8, 1)], 9, 184, [.pointer none, .int .i64 0, .slice none 0 0, .slice none 0 0, .slice none 0 0, .slice none 0 0, .slice none 0 0, .slice none 0 0, .slice none 0 0], default⟩
  | 124 => ⟨.sli 128 4 64 [.int .i64 0, .int .i64 0, .slice none 0 0, .slice none 0 0], 1, 24, [.slice none 0 0], .v (.int .i64 0)⟩
  | 127 => ⟨.st [(0, 1), (1, 1), (2, 1), (3, 1)], 4, 64, [.int .i64 0, .int .i64 0, .slice none 0 0, .slice none 0 0], default⟩
  | 128 => ⟨.st [(0, 1), (1, 1), (2, 1), (3, 1)], 4, 64, [.int .i64 0, .int .i64 0, .slice none 0 0, .slice none 0 0], default⟩
  | 132 => ⟨.sli 2 1 8 [.int .i64 0], 1, 24, [.slice none 0 0], .v (.int .i64 0)⟩
  | 133 => ⟨.sli 149 3 40 [.int .i64 0, .int .i64 0, .slice none 0 0], 1, 24, [.slice none 0 0], .v (.int .i64 0)⟩
  | 143 => ⟨.sli 78 1 8 [.pointer none], 1, 24, [.slice none 0 0], .v (.pointer none)⟩
  | 145 => ⟨.sc, 1, 8, [.pointer none], default⟩
  | 148 => ⟨.st [(0, 1), (1, 1), (2, 1)], 3, 40, [.int .i64 0, .int .i64 0, .slice none 0 0], default⟩
  | 149 => ⟨.st [(0, 1), (1, 1), (2, 1)], 3, 40, [.int .i64 0, .int .i64 0, .slice none 0 0], default⟩
  | 163 => ⟨.sc, 1, 8, [.nilFunc], default⟩
  | 164 => ⟨.sc, 1, 8, [.nilFunc], default⟩
  | 169 => ⟨.sc, 1, 8, [.pointer none], default⟩
  | 170 => ⟨.st [(0, 1), (1, 1), (2, 1), (3, 1), (4, 1)], 5, 104, [.slice none 0 0, .slice none 0 0, .slice none 0 0, .int .i64 0, .slice none 0 0], default⟩
  | 171 => ⟨.st [(0, 1), (1, 1), (2, 1), (3, 1), (4, 1)], 5, 104, [.slice none 0 0, .slice none 0 0, .slice none 0 0, .int .i64 0, .slice none 0 0], default⟩
  | 176 => ⟨.sc, 1, 8, [.pointer none], default⟩
  | 177 => ⟨.sc, 1, 8, [.map none], default⟩
  | 178 => ⟨.st [(0, 1), (1, 1), (2, 1), (3, 1)], 4, 64, [.slice none 0 0, .map none, .slice none 0 0, .nilFunc], default⟩
  | 179 => ⟨.st [(0, 1), (1, 1), (2, 1), (3, 1)], 4, 64, [.slice none 0 0, .map none, .slice none 0 0, .nilFunc], default⟩
  | 186 => ⟨.sli 5 1 1 [.int .u8 0], 1, 24, [.slice none 0 0], .v (.int .u8 0)⟩
  | 188 => ⟨.sc, 1, 8, [.nilFunc], default⟩
  | 191 => ⟨.sc, 1, 8, [.pointer none], default⟩
  | 194 => ⟨.sli 145 1 8 [.pointer none], 1, 24, [.slice none 0 0], .v (.pointer none)⟩
  | 195 => ⟨.sc, 1, 8, [.nilFunc], default⟩
  | 196 => ⟨.st [(0, 1), (1, 1)], 2, 16, [.int .i64 0, .int .i64 0], default⟩
  | 197 => ⟨.st [(0, 1), (1, 1)], 2, 16, [.int .i64 0, .int .i64 0], default⟩
  | 200 => ⟨.st [(0, 1), (1, 1), (2, 1), (3, 1)], 4, 40, [.pointer none, .pointer none, .pointer none, .string ⟨#[]⟩], default⟩
  | 201 => ⟨.st [(0, 1), (1, 1), (2, 1), (3, 1)], 4, 40, [.pointer none, .pointer none, .pointer none, .string ⟨#[]⟩], default⟩
  | 206 => ⟨.ik .u32, 1, 4, [.int .u32 0], default⟩
  | 207 => ⟨.ik .u8, 1, 1, [.int .u8 0], default⟩
  | 208 => ⟨.ik .u8, 1, 1, [.int .u8 0], default⟩
  | 210 => ⟨.sc, 1, 8, [.pointer none], default⟩
  | 211 => ⟨.ik .i32, 1, 4, [.int .i32 0], default⟩
  | 212 => ⟨.ik .i32, 1, 4, [.int .i32 0], default⟩
  | 213 => ⟨.st [(0, 1), (1, 1), (2, 1), (3, 1), (4, 1), (5, 1), (6, 1), (7, 1), (8, 1), (9, 1), (10, 1)], 11, 48, [.int .u64 0, .int .u64 0, .int .u32 0, .int .u8 0, .int .u8 0, .int .u8 0, .int .u8 0, .nilFunc, .pointer none, .int .i32 0, .int .i32 0], default⟩
  | 214 => ⟨.st [(0, 1), (1, 1), (2, 1), (3, 1), (4, 1), (5, 1), (6, 1), (7, 1), (8, 1), (9, 1), (10, 1)], 11, 48, [.int .u64 0, .int .u64 0, .int .u32 0, .int .u8 0, .int .u8 0, .int .u8 0, .int .u8 0, .nilFunc, .pointer none, .int .i32 0, .int .i32 0], default⟩
  | _ => Ti.no
@[go_sem] theorem tenv2 : tenv 2 = ⟨.ik .i64, 1, 8, [.int .i64 0], default⟩ := rfl
@[go_sem] theorem tenv3 : tenv 3 = ⟨.ik .i64, 1, 8, [.int .i64 0], default⟩ := rfl
@[go_sem] theorem tenv4 : tenv 4 = ⟨.bk, 1, 1, [.bool false], default⟩ := rfl
@[go_sem] theorem tenv5 : tenv 5 = ⟨.ik .u8, 1, 1, [.int .u8 0], default⟩ := rfl
@[go_sem] theorem tenv6 : tenv 6 = ⟨.ik .u8, 1, 1, [.int .u8 0], default⟩ := rfl
@[go_sem] theorem tenv7 : tenv 7 = ⟨.st [(0, 1), (1, 1), (2, 1), (3, 1)], 4, 24, [.int .i64 0, .int .i64 0, .bool false, .int .u8 0], default⟩ := rfl
@[go_sem] theorem tenv8 : tenv 8 = ⟨.st [(0, 1), (1, 1), (2, 1), (3, 1)], 4, 24, [.int .i64 0, .int .i64 0, .bool false, .int .u8 0], default⟩ := rfl
@[go_sem] theorem tenv9 : tenv 9 = ⟨.strk, 1, 16, [.string ⟨#[]⟩], default⟩ := rfl
@[go_sem] theorem tenv10 : tenv 10 = ⟨.strk, 1, 16, [.string ⟨#[]⟩], default⟩ := rfl
@[go_sem] theorem tenv11 : tenv 11 = ⟨.strk, 1, 16, [.string ⟨#[]⟩], default⟩ := rfl
@[go_sem] theorem tenv12 : tenv 12 = ⟨.ik .u64, 1, 8, [.int .u64 0], default⟩ := rfl
@[go_sem] theorem tenv13 : tenv 13 = ⟨.st [(0, 1), (1, 1)], 2, 24, [.string ⟨#[]⟩, .int .u64 0], default⟩ := rfl
@[go_sem] theorem tenv14 : tenv 14 = ⟨.st [(0, 1), (1, 1)], 2, 24, [.string ⟨#[]⟩, .int .u64 0], default⟩ := rfl
@[go_sem] theorem tenv15 : tenv 15 = ⟨.sc, 1, 8, [.pointer none], default⟩ := rfl
@[go_sem] theorem tenv16 : tenv 16 = ⟨.sc, 1, 8, [.pointer none], default⟩ := rfl
@[go_sem] theorem tenv17 : tenv 17 = ⟨.sc, 1, 8, [.pointer none], default⟩ := rfl
@[go_sem] theorem tenv18 : tenv 18 = ⟨.st [(0, 1)], 1, 8, [.pointer none], default⟩ := rfl
@[go_sem] theorem tenv19 : tenv 19 = ⟨.st [(0, 1)], 1, 8, [.pointer none], default⟩ := rfl
@[go_sem] theorem tenv21 : tenv 21 = ⟨.ik .i32, 1, 4, [.int .i32 0], default⟩ := rfl
@[go_sem] theorem tenv22 : tenv 22 = ⟨.sli 2 1 8 [.int .i64 0], 1, 24, [.slice none 0 0], .v (.int .i64 0)⟩ := rfl
@[go_sem] theorem tenv23 : tenv 23 = ⟨.sli 22 1 24 [.slice none 0 0], 1, 24, [.slice none 0 0], .sl 1 (.v (.int .i64 0)) []⟩ := rfl
@[go_sem] theorem tenv24 : tenv 24 = ⟨.st [(0, 1), (1, 1), (2, 1), (3, 1), (4, 1)], 5, 104, [.int .i64 0, .slice none 0 0, .slice none 0 0, .slice none 0 0, .slice none 0 0], default⟩ := rfl
@[go_sem] theorem tenv25 : tenv 25 = ⟨.st [(0, 1), (1, 1), (2, 1), (3, 1), (4, 1)], 5, 104, [.int .i64 0, .slice none 0 0, .slice none 0 0, .slice none 0 0, .slice none 0 0], default⟩ := rfl
@[go_sem] theorem tenv26 : tenv 26 = ⟨.st [(0, 5), (5, 1), (6, 1)], 7, 152, [.int .i64 0, .slice none 0 0, .slice none 0 0, .slice none 0 0, .slice none 0 0, .slice none 0 0, .slice none 0 0], default⟩ := rfl
@[go_sem] theorem tenv27 : tenv 27 = ⟨.st [(0, 5), (5, 1), (6, 1)], 7, 152, [.int .i64 0, .slice none 0 0, .slice none 0 0, .slice none 0 0, .slice none 0 0, .slice none 0 0, .slice none 0 0], default⟩ := rfl
@[go_sem] theorem tenv31 : tenv 31 = ⟨.st [(0, 1), (1, 1), (2, 1), (3, 1), (4, 1)], 5, 104, [.int .i64 0, .slice none 0 0, .slice none 0 0, .slice none 0 0, .slice none 0 0], default⟩ := rfl
@[go_sem] theorem tenv32 : tenv 32 = ⟨.st [(0, 5), (5, 1), (6, 1)], 7, 152, [.int .i64 0, .slice none 0 0, .slice none 0 0, .slice none 0 0, .slice none 0 0, .slice none 0 0, .slice none 0 0], default⟩ := rfl
@[go_sem] theorem tenv33 : tenv 33 = ⟨.st [(0, 5), (5, 1), (6, 1)], 7, 152, [.int .i64 0, .slice none 0 0, .slice none 0 0, .slice none 0 0, .slice none 0 0, .slice none 0 0, .slice none 0 0], default⟩ := rfl
@[go_sem] theorem tenv36 : tenv 36 = ⟨.sc, 1, 8, [.nilFunc], default⟩ := rfl
@[go_sem] theorem tenv38 : tenv 38 = ⟨.sc, 1, 8, [.nilFunc], default⟩ := rfl
@[go_sem] theorem tenv48 : tenv 48 = ⟨.st [(0, 5), (5, 5), (10, 1), (11, 1)], 12, 256, [.int .i64 0, .slice none 0 0, .slice none 0 0, .slice none 0 0, .slice none 0 0, .int .i64 0, .slice none 0 0, .slice none 0 0, .slice none 0 0, .slice none 0 0, .slice none 0 0, .slice none 0 0], default⟩ := rfl
@[go_sem] theorem tenv49 : tenv 49 = ⟨.st [(0, 5), (5, 5), (10, 1), (11, 1)], 12, 256, [.int .i64 0, .slice none 0 0, .slice none 0 0, .slice none 0 0, .slice none 0 0, .int .i64 0, .slice none 0 0, .slice none 0 0, .slice none 0 0, .slice none 0 0, .slice none 0 0, .slice none 0 0], default⟩ := rfl
@[go_sem] theorem tenv52 : tenv 52 = ⟨.st [(0, 5), (5, 5), (10, 1), (11, 1)], 12, 256, [.int .i64 0, .slice none 0 0, .slice none 0 0, .slice none 0 0, .slice none 0 0, .int .i64 0, .slice none 0 0, .slice none 0 0, .slice none 0 0, .slice none 0 0, .slice none 0 0, .slice none 0 0], default⟩ := rfl
@[go_sem] theorem tenv53 : tenv 53 = ⟨.st [(0, 5), (5, 5), (10, 1), (11, 1)], 12, 256, [.int .i64 0, .slice none 0 0, .slice none 0 0, .slice none 0 0, .slice none 0 0, .int .i64 0, .slice none 0 0, .slice none 0 0, .slice none 0 0, .slice none 0 0, .slice none 0 0, .slice none 0 0], default⟩ := rfl
@[go_sem] theorem tenv78 : tenv 78 = ⟨.sc, 1, 8, [.pointer none], default⟩ := rfl
@[go_sem] theorem tenv81 : tenv 81 = ⟨.sc, 1, 8, [.pointer none], default⟩ := rfl
@[go_sem] theorem tenv84 : tenv 84 = ⟨.sc, 1, 8, [.map none], default⟩ := rfl
@[go_sem] theorem tenv85 : tenv 85 = ⟨.st [(0, 1), (1, 1), (2, 1), (3, 1)], 4, 64, [.slice none 0 0, .map none, .slice none 0 0, .map none], default⟩ := rfl
@[go_sem] theorem tenv86 : tenv 86 = ⟨.st [(0, 1), (1, 1), (2, 1), (3, 1)], 4, 64, [.slice none 0 0, .map none, .slice none 0 0, .map none], default⟩ := rfl
@[go_sem] theorem tenv88 : tenv 88 = ⟨.sli 23 1 24 [.slice none 0 0], 1, 24, [.slice none 0 0], .sl 1 (.sl 1 (.v (.int .i64 0)) []) []⟩ := rfl
@[go_sem] theorem tenv89 : tenv 89 = ⟨.st [(0, 7), (7, 1), (8, 1)], 9, 200, [.int .i64 0, .slice none 0 0, .slice none 0 0, .slice none 0 0, .slice none 0 0, .slice none 0 0, .slice none 0 0, .slice none 0 0, .slice none 0 0], default⟩ := rfl
@[go_sem] theorem tenv90 : tenv 90 = ⟨.st [(0, 7), (7, 1), (8, 1)], 9, 200, [.int .i64 0, .slice none 0 0, .slice none 0 0, .slice none 0 0, .slice none 0 0, .slice none 0 0, .slice none 0 0, .slice none 0 0, .slice none 0 0], default⟩ := rfl
@[go_sem] theorem tenv95 : tenv 95 = ⟨.sc, 1, 8, [.pointer none], default⟩ := rfl
@[go_sem] theorem tenv98 : tenv 98 = ⟨.sli 81 1 8 [.pointer none], 1, 24, [.slice none 0 0], .v (.pointer none)⟩ := rfl
@[go_sem] theorem tenv99 : tenv 99 = ⟨.st [(0, 1), (1, 1), (2, 7), (9, 1)], 10, 192, [.pointer none, .pointer none, .int .i64 0, .slice none 0 0, .slice none 0 0, .slice none 0 0, .slice none 0 0, .slice none 0 0, .slice none 0 0, .slice none 0 0], default⟩ := rfl
@[go_sem] theorem tenv100 : tenv 100 = ⟨.st [(0, 1), (1, 1), (2, 7), (9, 1)], 10, 192, [.pointer none, .pointer none, .int .i64 0, .slice none 0 0, .slice none 0 0, .slice none 0 0, .slice none 0 0, .slice none 0 0, .slice none 0 0, .slice none 0 0], default⟩ := rfl
@[go_sem] theorem tenv106 : tenv 106 = ⟨.sc, 1, 8, [.pointer none], default⟩ := rfl
@[go_sem] theorem tenv107 : tenv 107 = ⟨.sc, 1, 8, [.pointer none], default⟩ := rfl
@[go_sem] theorem tenv110 : tenv 110 = ⟨.st [(0, 1), (1, 1), (2, 1), (3, 1)], 4, 64, [.slice none 0 0, .map none, .slice none 0 0, .map none], default⟩ := rfl
@[go_sem] theorem tenv111 : tenv 111 = ⟨.st [(0, 1), (1, 1), (2, 1), (3, 1)], 4, 64, [.slice none 0 0, .map none, .slice none 0 0, .map none], default⟩ := rfl
@[go_sem] theorem tenv112 : tenv 112 = ⟨.st [(0, 7), (7, 1), (8, 1), (9, 1)], 10, 208, [.int .i64 0, .slice none 0 0, .slice none 0 0, .slice none 0 0, .slice none 0 0, .slice none 0 0, .slice none 0 0, .slice none 0 0, .slice none 0 0, .bool false], default⟩ := rfl
@[go_sem] theorem tenv113 : tenv 113 = ⟨.st [(0, 7), (7, 1), (8, 1), (9, 1)], 10, 208, [.int .i64 0, .slice none 0 0, .slice none 0 0, .slice none 0 0, .slice none 0 0, .slice none 0 0, .slice none 0 0, .slice none 0 0, .slice none 0 0, .bool false], default⟩ := rfl
@[go_sem] theorem tenv117 : tenv 117 = ⟨.sc, 1, 8, [.pointer none], default⟩ := rfl
@[go_sem] theorem tenv120 : tenv 120 = ⟨.sli 107 1 8 [.pointer none], 1, 24, [.slice none 0 0], .v (.pointer none)⟩ := rfl
@[go_sem] theorem tenv121 : tenv 121 = ⟨.st [(0, 1), (1, 7), (8, 1)], 9, 184, [.pointer none, .int .i64 0, .slice none 0 0, .slice none 0 0, .slice none 0 0, .slice none 0 0, .slice none 0 0, .slice none 0 0, .slice none 0 0], default⟩ := rfl
@[go_sem] theorem tenv122 : tenv 122 = ⟨.st [(0, 1), (1, 7), (8, 1)], 9, 184, [.pointer none, .int .i64 0, .slice none 0 0, .slice none 0 0, .slice none 0 0, .slice none 0 0, .slice none 0 0, .slice none 0 0, .slice none 0 0], default⟩ := rfl
@[go_sem] theorem tenv124 : tenv 124 = ⟨.sli 128 4 64 [.int .i64 0, .int .i64 0, .slice none 0 0, .slice none 0 0], 1, 24, [.slice none 0 0], .v (.int .i64 0)⟩ := rfl
@[go_sem] theorem tenv127 : tenv 127 = ⟨.st [(0, 1), (1, 1), (2, 1), (3, 1)], 4, 64, [.int .i64 0, .int .i64 0, .slice none 0 0, .slice none 0 0], default⟩ := rfl
@[go_sem] theorem tenv128 : tenv 128 = ⟨.st [(0, 1), (1, 1), (2, 1), (3, 1)], 4, 64, [.int .i64 0, .int .i64 0, .slice none 0 0, .slice none 0 0], default⟩ := rfl
@[go_sem] theorem tenv132 : tenv 132 = ⟨.sli 2 1 8 [.int .i64 0], 1, 24, [.slice none 0 0], .v (.int .i64 0)⟩ := rfl
@[go_sem] theorem tenv133 : tenv 133 = ⟨.sli 149 3 40 [.int .i64 0, .int .i64 0, .slice none 0 0], 1, 24, [.slice none 0 0], .v (.int .i64 0)⟩ := rfl
@[go_sem] theorem tenv143 : tenv 143 = ⟨.sli 78 1 8 [.pointer none], 1, 24, [.slice none 0 0], .v (.pointer none)⟩ := rfl
@[go_sem] theorem tenv145 : tenv 145 = ⟨.sc, 1, 8, [.pointer none], default⟩ := rfl
@[go_sem] theorem tenv148 : tenv 148 = ⟨.st [(0, 1), (1, 1), (2, 1)], 3, 40, [.int .i64 0, .int .i64 0, .slice none 0 0], default⟩ := rfl
@[go_sem] theorem tenv149 : tenv 149 = ⟨.st [(0, 1), (1, 1), (2, 1)], 3, 40, [.int .i64 0, .int .i64 0, .slice none 0 0], default⟩ := rfl
@[go_sem] theorem tenv163 : tenv 163 = ⟨.sc, 1, 8, [.nilFunc], default⟩ := rfl
@[go_sem] theorem tenv164 : tenv 164 = ⟨.sc, 1, 8, [.nilFunc], default⟩ := rfl
@[go_sem] theorem tenv169 : tenv 169 = ⟨.sc, 1, 8, [.pointer none], default⟩ := rfl
@[go_sem] theorem tenv170 : tenv 170 = ⟨.st [(0, 1), (1, 1), (2, 1), (3, 1), (4, 1)], 5, 104, [.slice none 0 0, .slice none 0 0, .slice none 0 0, .int .i64 0, .slice none 0 0], default⟩ := rfl
@[go_sem] theorem tenv171 : tenv 171 = ⟨.st [(0, 1), (1, 1), (2, 1), (3, 1), (4, 1)], 5, 104, [.slice none 0 0, .slice none 0 0, .slice none 0 0, .int .i64 0, .slice none 0 0], default⟩ := rfl
@[go_sem] theorem tenv176 : tenv 176 = ⟨.sc, 1, 8, [.pointer none], default⟩ := rfl
@[go_sem] theorem tenv177 : tenv 177 = ⟨.sc, 1, 8, [.map none], default⟩ := rfl
@[go_sem] theorem tenv178 : tenv 178 = ⟨.st [(0, 1), (1, 1), (2, 1), (3, 1)], 4, 64, [.slice none 0 0, .map none, .slice none 0 0, .nilFunc], default⟩ := rfl
@[go_sem] theorem tenv179 : tenv 179 = ⟨.st [(0, 1), (1, 1), (2, 1), (3, 1)], 4, 64, [.slice none 0 0, .map none, .slice none 0 0, .nilFunc], default⟩ := rfl
@[go_sem] theorem tenv186 : tenv 186 = ⟨.sli 5 1 1 [.int .u8 0], 1, 24, [.slice none 0 0], .v (.int .u8 0)⟩ := rfl
@[go_sem] theorem tenv188 : tenv 188 = ⟨.sc, 1, 8, [.nilFunc], default⟩ := rfl
@[go_sem] theorem tenv191 : tenv 191 = ⟨.sc, 1, 8, [.pointer none], default⟩ := rfl
@[go_sem] theorem tenv194 : tenv 194 = ⟨.sli 145 1 8 [.pointer none], 1, 24, [.slice none 0 0], .v (.pointer none)⟩ := rfl
@[go_sem] theorem tenv195 : tenv 195 = ⟨.sc, 1, 8, [.nilFunc], default⟩ := rfl
@[go_sem] theorem tenv196 : tenv 196 = ⟨.st [(0, 1), (1, 1)], 2, 16, [.int .i64 0, .int .i64 0], default⟩ := rfl
@[go_sem] theorem tenv197 : tenv 197 = ⟨.st [(0, 1), (1, 1)], 2, 16, [.int .i64 0, .int .i64 0], default⟩ := rfl
@[go_sem] theorem tenv200 : tenv 200 = ⟨.st [(0, 1), (1, 1), (2, 1), (3, 1)], 4, 40, [.pointer none, .pointer none, .pointer none, .string ⟨#[]⟩], default⟩ := rfl
@[go_sem] theorem tenv201 : tenv 201 = ⟨.st [(0, 1), (1, 1), (2, 1), (3, 1)], 4, 40, [.pointer none, .pointer none, .pointer none, .string ⟨#[]⟩], default⟩ := rfl
@[go_sem] theorem tenv206 : tenv 206 = ⟨.ik .u32, 1, 4, [.int .u32 0], default⟩ := rfl
@[go_sem] theorem tenv207 : tenv 207 = ⟨.ik .u8, 1, 1, [.int .u8 0], default⟩ := rfl
@[go_sem] theorem tenv208 : tenv 208 = ⟨.ik .u8, 1, 1, [.int .u8 0], default⟩ := rfl
@[go_sem] theorem tenv210 : tenv 210 = ⟨.sc, 1, 8, [.pointer none], default⟩ := rfl
@[go_sem] theorem tenv211 : tenv 211 = ⟨.ik .i32, 1, 4, [.int .i32 0], default⟩ := rfl
@[go_sem] theorem tenv212 : tenv 212 = ⟨.ik .i32, 1, 4, [.int .i32 0], default⟩ := rfl
@[go_sem] theorem tenv213 : tenv 213 = ⟨.st [(0, 1), (1, 1), (2, 1), (3, 1), (4, 1), (5, 1), (6, 1), (7, 1), (8, 1), (9, 1), (10, 1)], 11, 48, [.int .u64 0, .int .u64 0, .int .u32 0, .int .u8 0, .int .u8 0, .int .u8 0, .int .u8 0, .nilFunc, .pointer none, .int .i32 0, .int .i32 0], default⟩ := rfl
@[go_sem] theorem tenv214 : tenv 214 = ⟨.st [(0, 1), (1, 1), (2, 1), (3, 1), (4, 1), (5, 1), (6, 1), (7, 1), (8, 1), (9, 1), (10, 1)], 11, 48, [.int .u64 0, .int .u64 0, .int .u32 0, .int .u8 0, .int .u8 0, .int .u8 0, .int .u8 0, .nilFunc, .pointer none, .int .i32 0, .int .i32 0], default⟩ := rfl
set_option maxRecDepth 100000 in
theorem ty2 : TiOk Try.prog 2 (tenv 2) := ⟨⟨_, _, Try.type2, rfl, rfl, rfl, rfl⟩, Try.underlying2⟩
set_option maxRecDepth 100000 in
theorem ty3 : TiOk Try.prog 3 (tenv 3) := ⟨⟨_, _, Try.type3, rfl, rfl, rfl, rfl⟩, Try.underlying3⟩
set_option maxRecDepth 100000 in
theorem ty4 : TiOk Try.prog 4 (tenv 4) := ⟨⟨_, _, Try.type4, rfl, rfl, rfl, rfl⟩, Try.underlying4⟩
set_option maxRecDepth 100000 in
theorem ty5 : TiOk Try.prog 5 (tenv 5) := ⟨⟨_, _, Try.type5, rfl, rfl, rfl, rfl⟩, Try.underlying5⟩
set_option maxRecDepth 100000 in
theorem ty6 : TiOk Try.prog 6 (tenv 6) := ⟨⟨_, _, Try.type6, rfl, rfl, rfl, rfl⟩, Try.underlying6⟩
set_option maxRecDepth 100000 in
theorem ty7 : TiOk Try.prog 7 (tenv 7) := ⟨⟨_, _, Try.type7, rfl, rfl, rfl, rfl⟩, _, Try.underlying7, rfl, by kernel_rfl, rfl⟩
set_option maxRecDepth 100000 in
theorem ty8 : TiOk Try.prog 8 (tenv 8) := ⟨⟨_, _, Try.type8, rfl, rfl, rfl, rfl⟩, _, Try.underlying8, rfl, by kernel_rfl, rfl⟩
set_option maxRecDepth 100000 in
theorem ty9 : TiOk Try.prog 9 (tenv 9) := ⟨⟨_, _, Try.type9, rfl, rfl, rfl, rfl⟩, Try.underlying9⟩
set_option maxRecDepth 100000 in
theorem ty10 : TiOk Try.prog 10 (tenv 10) := ⟨⟨_, _, Try.type10, rfl, rfl, rfl, rfl⟩, Try.underlying10⟩
set_option maxRecDepth 100000 in
theorem ty11 : TiOk Try.prog 11 (tenv 11) := ⟨⟨_, _, Try.type11, rfl, rfl, rfl, rfl⟩, Try.underlying11⟩
set_option maxRecDepth 100000 in
theorem ty12 : TiOk Try.prog 12 (tenv 12) := ⟨⟨_, _, Try.type12, rfl, rfl, rfl, rfl⟩, Try.underlying12⟩
set_option maxRecDepth 100000 in
theorem ty13 : TiOk Try.prog 13 (tenv 13) := ⟨⟨_, _, Try.type13, rfl, rfl, rfl, rfl⟩, _, Try.underlying13, rfl, by kernel_rfl, rfl⟩
set_option maxRecDepth 100000 in
theorem ty14 : TiOk Try.prog 14 (tenv 14) := ⟨⟨_, _, Try.type14, rfl, rfl, rfl, rfl⟩, _, Try.underlying14, rfl, by kernel_rfl, rfl⟩
set_option maxRecDepth 100000 in
theorem ty15 : TiOk Try.prog 15 (tenv 15) := ⟨⟨_, _, Try.type15, rfl, rfl, rfl, rfl⟩, _, Try.underlying15, trivial⟩
set_option maxRecDepth 100000 in
theorem ty16 : TiOk Try.prog 16 (tenv 16) := ⟨⟨_, _, Try.type16, rfl, rfl, rfl, rfl⟩, _, Try.underlying16, trivial⟩
set_option maxRecDepth 100000 in
theorem ty17 : TiOk Try.prog 17 (tenv 17) := ⟨⟨_, _, Try.type17, rfl, rfl, rfl, rfl⟩, _, Try.underlying17, trivial⟩
set_option maxRecDepth 100000 in
theorem ty18 : TiOk Try.prog 18 (tenv 18) := ⟨⟨_, _, Try.type18, rfl, rfl, rfl, rfl⟩, _, Try.underlying18, rfl, by kernel_rfl, rfl⟩
set_option maxRecDepth 100000 in
theorem ty19 : TiOk Try.prog 19 (tenv 19) := ⟨⟨_, _, Try.type19, rfl, rfl, rfl, rfl⟩, _, Try.underlying19, rfl, by kernel_rfl, rfl⟩
set_option maxRecDepth 100000 in
theorem ty21 : TiOk Try.prog 21 (tenv 21) := ⟨⟨_, _, Try.type21, rfl, rfl, rfl, rfl⟩, Try.underlying21⟩
set_option maxRecDepth 100000 in
theorem ty22 : TiOk Try.prog 22 (tenv 22) := ⟨⟨_, _, Try.type22, rfl, rfl, rfl, rfl⟩, Try.underlying22, ⟨_, _, Try.type2, rfl, rfl, rfl, rfl⟩⟩
set_option maxRecDepth 100000 in
theorem ty23 : TiOk Try.prog 23 (tenv 23) := ⟨⟨_, _, Try.type23, rfl, rfl, rfl, rfl⟩, Try.underlying23, ⟨_, _, Try.type22, rfl, rfl, rfl, rfl⟩⟩
set_option maxRecDepth 100000 in
theorem ty24 : TiOk Try.prog 24 (tenv 24) := ⟨⟨_, _, Try.type24, rfl, rfl, rfl, rfl⟩, _, Try.underlying24, rfl, by kernel_rfl, rfl⟩
set_option maxRecDepth 100000 in
theorem ty25 : TiOk Try.prog 25 (tenv 25) := ⟨⟨_, _, Try.type25, rfl, rfl, rfl, rfl⟩, _, Try.underlying25, rfl, by kernel_rfl, rfl⟩
set_option maxRecDepth 100000 in
theorem ty26 : TiOk Try.prog 26 (tenv 26) := ⟨⟨_, _, Try.type26, rfl, rfl, rfl, rfl⟩, _, Try.underlying26, rfl, by kernel_rfl, rfl⟩
set_option maxRecDepth 100000 in
theorem ty27 : TiOk Try.prog 27 (tenv 27) := ⟨⟨_, _, Try.type27, rfl, rfl, rfl, rfl⟩, _, Try.underlying27, rfl, by kernel_rfl, rfl⟩
set_option maxRecDepth 100000 in
theorem ty31 : TiOk Try.prog 31 (tenv 31) := ⟨⟨_, _, Try.type31, rfl, rfl, rfl, rfl⟩, _, Try.underlying31, rfl, by kernel_rfl, rfl⟩
set_option maxRecDepth 100000 in
theorem ty32 : TiOk Try.prog 32 (tenv 32) := ⟨⟨_, _, Try.type32, rfl, rfl, rfl, rfl⟩, _, Try.underlying32, rfl, by kernel_rfl, rfl⟩
set_option maxRecDepth 100000 in
theorem ty33 : TiOk Try.prog 33 (tenv 33) := ⟨⟨_, _, Try.type33, rfl, rfl, rfl, rfl⟩, _, Try.underlying33, rfl, by kernel_rfl, rfl⟩
set_option maxRecDepth 100000 in
theorem ty36 : TiOk Try.prog 36 (tenv 36) := ⟨⟨_, _, Try.type36, rfl, rfl, rfl, rfl⟩, _, Try.underlying36, trivial⟩
set_option maxRecDepth 100000 in
theorem ty38 : TiOk Try.prog 38 (tenv 38) := ⟨⟨_, _, Try.type38, rfl, rfl, rfl, rfl⟩, _, Try.underlying38, trivial⟩
set_option maxRecDepth 100000 in
theorem ty48 : TiOk Try.prog 48 (tenv 48) := ⟨⟨_, _, Try.type48, rfl, rfl, rfl, rfl⟩, _, Try.underlying48, rfl, by kernel_rfl, rfl⟩
set_option maxRecDepth 100000 in
theorem ty49 : TiOk Try.prog 49 (tenv 49) := ⟨⟨_, _, Try.type49, rfl, rfl, rfl, rfl⟩, _, Try.underlying49, rfl, by kernel_rfl, rfl⟩
set_option maxRecDepth 100000 in
theorem ty52 : TiOk Try.prog 52 (tenv 52) := ⟨⟨_, _, Try.type52, rfl, rfl, rfl, rfl⟩, _, Try.underlying52, rfl, by kernel_rfl, rfl⟩
set_option maxRecDepth 100000 in
theorem ty53 : TiOk Try.prog 53 (tenv 53) := ⟨⟨_, _, Try.type53, rfl, rfl, rfl, rfl⟩, _, Try.underlying53, rfl, by kernel_rfl, rfl⟩
set_option maxRecDepth 100000 in
theorem ty78 : TiOk Try.prog 78 (tenv 78) := ⟨⟨_, _, Try.type78, rfl, rfl, rfl, rfl⟩, _, Try.underlying78, trivial⟩
set_option maxRecDepth 100000 in
theorem ty81 : TiOk Try.prog 81 (tenv 81) := ⟨⟨_, _, Try.type81, rfl, rfl, rfl, rfl⟩, _, Try.underlying81, trivial⟩
set_option maxRecDepth 100000 in
theorem ty84 : TiOk Try.prog 84 (tenv 84) := ⟨⟨_, _, Try.type84, rfl, rfl, rfl, rfl⟩, _, Try.underlying84, trivial⟩
set_option maxRecDepth 100000 in
theorem ty85 : TiOk Try.prog 85 (tenv 85) := ⟨⟨_, _, Try.type85, rfl, rfl, rfl, rfl⟩, _, Try.underlying85, rfl, by kernel_rfl, rfl⟩
set_option maxRecDepth 100000 in
theorem ty86 : TiOk Try.prog 86 (tenv 86) := ⟨⟨_, _, Try.type86, rfl, rfl, rfl, rfl⟩, _, Try.underlying86, rfl, by kernel_rfl, rfl⟩
set_option maxRecDepth 100000 in
theorem ty88 : TiOk Try.prog 88 (tenv 88) := ⟨⟨_, _, Try.type88, rfl, rfl, rfl, rfl⟩, Try.underlying88, ⟨_, _, Try.type23, rfl, rfl, rfl, rfl⟩⟩
set_option maxRecDepth 100000 in
theorem ty89 : TiOk Try.prog 89 (tenv 89) := ⟨⟨_, _, Try.type89, rfl, rfl, rfl, rfl⟩, _, Try.underlying89, rfl, by kernel_rfl, rfl⟩
set_option maxRecDepth 100000 in
theorem ty90 : TiOk Try.prog 90 (tenv 90) := ⟨⟨_, _, Try.type90, rfl, rfl, rfl, rfl⟩, _, Try.underlying90, rfl, by kernel_rfl, rfl⟩
set_option maxRecDepth 100000 in
theorem ty95 : TiOk Try.prog 95 (tenv 95) := ⟨⟨_, _, Try.type95, rfl, rfl, rfl, rfl⟩, _, Try.underlying95, trivial⟩
set_option maxRecDepth 100000 in
theorem ty98 : TiOk Try.prog 98 (tenv 98) := ⟨⟨_, _, Try.type98, rfl, rfl, rfl, rfl⟩, Try.underlying98, ⟨_, _, Try.type81, rfl, rfl, rfl, rfl⟩⟩
set_option maxRecDepth 100000 in
theorem ty99 : TiOk Try.prog 99 (tenv 99) := ⟨⟨_, _, Try.type99, rfl, rfl, rfl, rfl⟩, _, Try.underlying99, rfl, by kernel_rfl, rfl⟩
set_option maxRecDepth 100000 in
theorem ty100 : TiOk Try.prog 100 (tenv 100) := ⟨⟨_, _, Try.type100, rfl, rfl, rfl, rfl⟩, _, Try.underlying100, rfl, by kernel_rfl, rfl⟩
set_option maxRecDepth 100000 in
theorem ty106 : TiOk Try.prog 106 (tenv 106) := ⟨⟨_, _, Try.type106, rfl, rfl, rfl, rfl⟩, _, Try.underlying106, trivial⟩
set_option maxRecDepth 100000 in
theorem ty107 : TiOk Try.prog 107 (tenv 107) := ⟨⟨_, _, Try.type107, rfl, rfl, rfl, rfl⟩, _, Try.underlying107, trivial⟩
set_option maxRecDepth 100000 in
theorem ty110 : TiOk Try.prog 110 (tenv 110) := ⟨⟨_, _, Try.type110, rfl, rfl, rfl, rfl⟩, _, Try.underlying110, rfl, by kernel_rfl, rfl⟩
set_option maxRecDepth 100000 in
theorem ty111 : TiOk Try.prog 111 (tenv 111) := ⟨⟨_, _, Try.type111, rfl, rfl, rfl, rfl⟩, _, Try.underlying111, rfl, by kernel_rfl, rfl⟩
set_option maxRecDepth 100000 in
theorem ty112 : TiOk Try.prog 112 (tenv 112) := ⟨⟨_, _, Try.type112, rfl, rfl, rfl, rfl⟩, _, Try.underlying112, rfl, by kernel_rfl, rfl⟩
set_option maxRecDepth 100000 in
theorem ty113 : TiOk Try.prog 113 (tenv 113) := ⟨⟨_, _, Try.type113, rfl, rfl, rfl, rfl⟩, _, Try.underlying113, rfl, by kernel_rfl, rfl⟩
set_option maxRecDepth 100000 in
theorem ty117 : TiOk Try.prog 117 (tenv 117) := ⟨⟨_, _, Try.type117, rfl, rfl, rfl, rfl⟩, _, Try.underlying117, trivial⟩
set_option maxRecDepth 100000 in
theorem ty120 : TiOk Try.prog 120 (tenv 120) := ⟨⟨_, _, Try.type120, rfl, rfl, rfl, rfl⟩, Try.underlying120, ⟨_, _, Try.type107, rfl, rfl, rfl, rfl⟩⟩
set_option maxRecDepth 100000 in
theorem ty121 : TiOk Try.prog 121 (tenv 121) := ⟨⟨_, _, Try.type121, rfl, rfl, rfl, rfl⟩, _, Try.underlying121, rfl, by kernel_rfl, rfl⟩
set_option maxRecDepth 100000 in
theorem ty122 : TiOk Try.prog 122 (tenv 122) := ⟨⟨_, _, Try.type122, rfl, rfl, rfl, rfl⟩, _, Try.underlying122, rfl, by kernel_rfl, rfl⟩
set_option maxRecDepth 100000 in
theorem ty124 : TiOk Try.prog 124 (tenv 124) := ⟨⟨_, _, Try.type124, rfl, rfl, rfl, rfl⟩, Try.underlying124, ⟨_, _, Try.type128, rfl, rfl, rfl, rfl⟩⟩
set_option maxRecDepth 100000 in
theorem ty127 : TiOk Try.prog 127 (tenv 127) := ⟨⟨_, _, Try.type127, rfl, rfl, rfl, rfl⟩, _, Try.underlying127, rfl, by kernel_rfl, rfl⟩
set_option maxRecDepth 100000 in
theorem ty128 : TiOk Try.prog 128 (tenv 128) := ⟨⟨_, _, Try.type128, rfl, rfl, rfl, rfl⟩, _, Try.underlying128, rfl, by kernel_rfl, rfl⟩
set_option maxRecDepth 100000 in
theorem ty132 : TiOk Try.prog 132 (tenv 132) := ⟨⟨_, _, Try.type132, rfl, rfl, rfl, rfl⟩, Try.underlying132, ⟨_, _, Try.type2, rfl, rfl, rfl, rfl⟩⟩
set_option maxRecDepth 100000 in
theorem ty133 : TiOk Try.prog 133 (tenv 133) := ⟨⟨_, _, Try.type133, rfl, rfl, rfl, rfl⟩, Try.underlying133, ⟨_, _, Try.type149, rfl, rfl, rfl, rfl⟩⟩
set_option maxRecDepth 100000 in
theorem ty143 : TiOk Try.prog 143 (tenv 143) := ⟨⟨_, _, Try.type143, rfl, rfl, rfl, rfl⟩, Try.underlying143, ⟨_, _, Try.type78, rfl, rfl, rfl, rfl⟩⟩
set_option maxRecDepth 100000 in
theorem ty145 : TiOk Try.prog 145 (tenv 145) := ⟨⟨_, _, Try.type145, rfl, rfl, rfl, rfl⟩, _, Try.underlying145, trivial⟩
set_option maxRecDepth 100000 in
theorem ty148 : TiOk Try.prog 148 (tenv 148) := ⟨⟨_, _, Try.type148, rfl, rfl, rfl, rfl⟩, _, Try.underlying148, rfl, by kernel_rfl, rfl⟩
set_option maxRecDepth 100000 in
theorem ty149 : TiOk Try.prog 149 (tenv 149) := ⟨⟨_, _, Try.type149, rfl, rfl, rfl, rfl⟩, _, Try.underlying149, rfl, by kernel_rfl, rfl⟩
set_option maxRecDepth 100000 in
theorem ty163 : TiOk Try.prog 163 (tenv 163) := ⟨⟨_, _, Try.type163, rfl, rfl, rfl, rfl⟩, _, Try.underlying163, trivial⟩
set_option maxRecDepth 100000 in
theorem ty164 : TiOk Try.prog 164 (tenv 164) := ⟨⟨_, _, Try.type164, rfl, rfl, rfl, rfl⟩, _, Try.underlying164, trivial⟩
set_option maxRecDepth 100000 in
theorem ty169 : TiOk Try.prog 169 (tenv 169) := ⟨⟨_, _, Try.type169, rfl, rfl, rfl, rfl⟩, _, Try.underlying169, trivial⟩
set_option maxRecDepth 100000 in
theorem ty170 : TiOk Try.prog 170 (tenv 170) := ⟨⟨_, _, Try.type170, rfl, rfl, rfl, rfl⟩, _, Try.underlying170, rfl, by kernel_rfl, rfl⟩
set_option maxRecDepth 100000 in
theorem ty171 : TiOk Try.prog 171 (tenv 171) := ⟨⟨_, _, Try.type171, rfl, rfl, rfl, rfl⟩, _, Try.underlying171, rfl, by kernel_rfl, rfl⟩
set_option maxRecDepth 100000 in
theorem ty176 : TiOk Try.prog 176 (tenv 176) := ⟨⟨_, _, Try.type176, rfl, rfl, rfl, rfl⟩, _, Try.underlying176, trivial⟩
set_option maxRecDepth 100000 in
theorem ty177 : TiOk Try.prog 177 (tenv 177) := ⟨⟨_, _, Try.type177, rfl, rfl, rfl, rfl⟩, _, Try.underlying177, trivial⟩
set_option maxRecDepth 100000 in
theorem ty178 : TiOk Try.prog 178 (tenv 178) := ⟨⟨_, _, Try.type178, rfl, rfl, rfl, rfl⟩, _, Try.underlying178, rfl, by kernel_rfl, rfl⟩
set_option maxRecDepth 100000 in
theorem ty179 : TiOk Try.prog 179 (tenv 179) := ⟨⟨_, _, Try.type179, rfl, rfl, rfl, rfl⟩, _, Try.underlying179, rfl, by kernel_rfl, rfl⟩
set_option maxRecDepth 100000 in
theorem ty186 : TiOk Try.prog 186 (tenv 186) := ⟨⟨_, _, Try.type186, rfl, rfl, rfl, rfl⟩, Try.underlying186, ⟨_, _, Try.type5, rfl, rfl, rfl, rfl⟩⟩
set_option maxRecDepth 100000 in
theorem ty188 : TiOk Try.prog 188 (tenv 188) := ⟨⟨_, _, Try.type188, rfl, rfl, rfl, rfl⟩, _, Try.underlying188, trivial⟩
set_option maxRecDepth 100000 in
theorem ty191 : TiOk Try.prog 191 (tenv 191) := ⟨⟨_, _, Try.type191, rfl, rfl, rfl, rfl⟩, _, Try.underlying191, trivial⟩
set_option maxRecDepth 100000 in
theorem ty194 : TiOk Try.prog 194 (tenv 194) := ⟨⟨_, _, Try.type194, rfl, rfl, rfl, rfl⟩, Try.underlying194, ⟨_, _, Try.type145, rfl, rfl, rfl, rfl⟩⟩
set_option maxRecDepth 100000 in
theorem ty195 : TiOk Try.prog 195 (tenv 195) := ⟨⟨_, _, Try.type195, rfl, rfl, rfl, rfl⟩, _, Try.underlying195, trivial⟩
set_option maxRecDepth 100000 in
theorem ty196 : TiOk Try.prog 196 (tenv 196) := ⟨⟨_, _, Try.type196, rfl, rfl, rfl, rfl⟩, _, Try.underlying196, rfl, by kernel_rfl, rfl⟩
set_option maxRecDepth 100000 in
theorem ty197 : TiOk Try.prog 197 (tenv 197) := ⟨⟨_, _, Try.type197, rfl, rfl, rfl, rfl⟩, _, Try.underlying197, rfl, by kernel_rfl, rfl⟩
set_option maxRecDepth 100000 in
theorem ty200 : TiOk Try.prog 200 (tenv 200) := ⟨⟨_, _, Try.type200, rfl, rfl, rfl, rfl⟩, _, Try.underlying200, rfl, by kernel_rfl, rfl⟩
set_option maxRecDepth 100000 in
theorem ty201 : TiOk Try.prog 201 (tenv 201) := ⟨⟨_, _, Try.type201, rfl, rfl, rfl, rfl⟩, _, Try.underlying201, rfl, by kernel_rfl, rfl⟩
set_option maxRecDepth 100000 in
theorem ty206 : TiOk Try.prog 206 (tenv 206) := ⟨⟨_, _, Try.type206, rfl, rfl, rfl, rfl⟩, Try.underlying206⟩
set_option maxRecDepth 100000 in
theorem ty207 : TiOk Try.prog 207 (tenv 207) := ⟨⟨_, _, Try.type207, rfl, rfl, rfl, rfl⟩, Try.underlying207⟩
set_option maxRecDepth 100000 in
theorem ty208 : TiOk Try.prog 208 (tenv 208) := ⟨⟨_, _, Try.type208, rfl, rfl, rfl, rfl⟩, Try.underlying208⟩
set_option maxRecDepth 100000 in
theorem ty210 : TiOk Try.prog 210 (tenv 210) := ⟨⟨_, _, Try.type210, rfl, rfl, rfl, rfl⟩, _, Try.underlying210, trivial⟩
set_option maxRecDepth 100000 in
theorem ty211 : TiOk Try.prog 211 (tenv 211) := ⟨⟨_, _, Try.type211, rfl, rfl, rfl, rfl⟩, Try.underlying211⟩
set_option maxRecDepth 100000 in
theorem ty212 : TiOk Try.prog 212 (tenv 212) := ⟨⟨_, _, Try.type212, rfl, rfl, rfl, rfl⟩, Try.underlying212⟩
set_option maxRecDepth 100000 in
theorem ty213 : TiOk Try.prog 213 (tenv 213) := ⟨⟨_, _, Try.type213, rfl, rfl, rfl, rfl⟩, _, Try.underlying213, rfl, by kernel_rfl, rfl⟩
set_option maxRecDepth 100000 in
theorem ty214 : TiOk Try.prog 214 (tenv 214) := ⟨⟨_, _, Try.type214, rfl, rfl, rfl, rfl⟩, _, Try.underlying214, rfl, by kernel_rfl, rfl⟩
theorem tok : ∀ t, TiOk Try.prog t (tenv t) := by
  intro t
  by_cases h : t ∈ [2, 3, 4, 5, 6, 7, 8, 9, 10, 11, 12, 13, 14, 15, 16, 17, 18, 19, 21, 22, 23, 24, 25, 26, 27, 31, 32, 33, 36, 38, 48, 49, 52, 53, 78, 81, 84, 85, 86, 88, 89, 90, 95, 98, 99, 100, 106, 107, 110, 111, 112, 113, 117, 120, 121, 122, 124, 127, 128, 132, 133, 143, 145, 148, 149, 163, 164, 169, 170, 171, 176, 177, 178, 179, 186, 188, 191, 194, 195, 196, 197, 200, 201, 206, 207, 208, 210, 211, 212, 213, 214]
  · simp only [List.mem_cons, List.not_mem_nil, or_false] at h
    rcases h with rfl | rfl | rfl | rfl | rfl | rfl | rfl | rfl | rfl | rfl | rfl | rfl | rfl | rfl | rfl | rfl | rfl | rfl | rfl | rfl | rfl | rfl | rfl | rfl | rfl | rfl | rfl | rfl | rfl | rfl | rfl | rfl | rfl | rfl | rfl | rfl | rfl | rfl | rfl | rfl | rfl | rfl | rfl | rfl | rfl | rfl | rfl | rfl | rfl | rfl | rfl | rfl | rfl | rfl | rfl | rfl | rfl | rfl | rfl | rfl | rfl | rfl | rfl | rfl | rfl | rfl | rfl | rfl | rfl | rfl | rfl | rfl | rfl | rfl | rfl | rfl | rfl | rfl | rfl | rfl | rfl | rfl | rfl | rfl | rfl | rfl | rfl | rfl | rfl | rfl | rfl
    · exact ty2
    · exact ty3
    · exact ty4
    · exact ty5
    · exact ty6
    · exact ty7
    · exact ty8
    · exact ty9
    · exact ty10
    · exact ty11
    · exact ty12
    · exact ty13
    · exact ty14
    · exact ty15
    · exact ty16
    · exact ty17
    · exact ty18
    · exact ty19
    · exact ty21
    · exact ty22
    · exact ty23
    · exact ty24
    · exact ty25
    · exact ty26
    · exact ty27
    · exact ty31
    · exact ty32
    · exact ty33
    · exact ty36
    · exact ty38
    · exact ty48
    · exact ty49
    · exact ty52
    · exact ty53
    · exact ty78
    · exact ty81
    · exact ty84
    · exact ty85
    · exact ty86
    · exact ty88
    · exact ty89
    · exact ty90
    · exact ty95
    · exact ty98
    · exact ty99
    · exact ty100
    · exact ty106
    · exact ty107
    · exact ty110
    · exact ty111
    · exact ty112
    · exact ty113
    · exact ty117
    · exact ty120
    · exact ty121
    · exact ty122
    · exact ty124
    · exact ty127
    · exact ty128
    · exact ty132
    · exact ty133
    · exact ty143
    · exact ty145
    · exact ty148
    · exact ty149
    · exact ty163
    · exact ty164
    · exact ty169
    · exact ty170
    · exact ty171
    · exact ty176
    · exact ty177
    · exact ty178
    · exact ty179
    · exact ty186
    · exact ty188
    · exact ty191
    · exact ty194
    · exact ty195
    · exact ty196
    · exact ty197
    · exact ty200
    · exact ty201
    · exact ty206
    · exact ty207
    · exact ty208
    · exact ty210
    · exact ty211
    · exact ty212
    · exact ty213
    · exact ty214
  · have : tenv t = Ti.no := by
      unfold tenv
      split
      all_goals first | rfl | (exfalso; apply h; decide)
    rw [this]; trivial
noncomputable def TE : Env := { P := Try.prog, ti := tenv, ok := tok }
@[go_sem] theorem TE_ti (t : TypeId) : TE.ti t = tenv t := rfl
@[go_sem] theorem TE_P : TE.P = Try.prog := rfl
end Go.Eng
