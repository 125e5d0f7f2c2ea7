/- MADE BY PROGRAM (gentypes.py): what is known of the types of the seat. -/
import Derived.Test.YtjcilokfgngpmaaKcx
import Derived.Test.YtjcilokfgngpmaaProg
namespace Go.Eng
open Go Go.Proofs

def tenv : TypeId → Ti
  | 2 => ⟨.ik .i64, 1, 8, [.int .i64 0], default⟩
  | 3 => ⟨.ik .i64, 1, 8, [.int .i64 0], default⟩
  | 4 => ⟨.bk, 1, 1, [.bool false], default⟩
  | 5 => ⟨.ik .u8, 1, 1, [.int .u8 0], default⟩
  | 6 => ⟨.ik .u8, 1, 1, [.int .u8 0], default⟩
  | 7 => ⟨.st [(0, 1), (1, 1), (2, 1), (3, 1)], 4, 24, [.int .i64 0, .int .i64 0, .bool false, .int .u8 0], default⟩
  | 8 => ⟨.st [(0, 1), (1, 1), (2, 1), (3, 1)], 4, 24, [.int .i64 0, .int .i64 0, .bool false, .int .u8 0], default⟩
  | 9 => ⟨.strk, 1, 16, [.string ⟨#[]⟩], default⟩
  | 10 => ⟨.strk, 1, 16, [.string ⟨#[]⟩], default⟩
  | 11 => ⟨.strk, 1, 16, [.string ⟨#[]⟩], default⟩
  | 12 => ⟨.ik .u64, 1, 8, [.int .u64 0], default⟩
  | 13 => ⟨.st [(0, 1), (1, 1)], 2, 24, [.string ⟨#[]⟩, .int .u64 0], default⟩
  | 14 => ⟨.st [(0, 1), (1, 1)], 2, 24, [.string ⟨#[]⟩, .int .u64 0], default⟩
  | 15 => ⟨.sc, 1, 8, [.pointer none], default⟩
  | 16 => ⟨.sc, 1, 8, [.pointer none], default⟩
  | 17 => ⟨.sc, 1, 8, [.pointer none], default⟩
  | 18 => ⟨.st [(0, 1)], 1, 8, [.pointer none], default⟩
  | 19 => ⟨.st [(0, 1)], 1, 8, [.pointer none], default⟩
  | 21 => ⟨.ik .i32, 1, 4, [.int .i32 0], default⟩
  | 22 => ⟨.sli 2 1 8 [.int .i64 0], 1, 24, [.slice none 0 0], .v (.int .i64 0)⟩
  | 23 => ⟨.sli 22 1 24 [.slice none 0 0], 1, 24, [.slice none 0 0], .sl 1 (.v (.int .i64 0)) []⟩
  | 24 => ⟨.st [(0, 1), (1, 1), (2, 1), (3, 1), (4, 1)], 5, 104, [.int .i64 0, .slice none 0 0, .slice none 0 0, .slice none 0 0, .slice none 0 0], default⟩
  | 25 => ⟨.st [(0, 1), (1, 1), (2, 1), (3, 1), (4, 1)], 5, 104, [.int .i64 0, .slice none 0 0, .slice none 0 0, .slice none 0 0, .slice none 0 0], default⟩
  | 26 => ⟨.st [(0, 5), (5, 1), (6, 1)], 7, 152, [.int .i64 0, .slice none 0 0, .slice none 0 0, .slice none 0 0, .slice none 0 0, .slice none 0 0, .slice none 0 0], default⟩
  | 27 => ⟨.st [(0, 5), (5, 1), (6, 1)], 7, 152, [.int .i64 0, .slice none 0 0, .slice none 0 0, .slice none 0 0, .slice none 0 0, .slice none 0 0, .slice none 0 0], default⟩
  | 31 => ⟨.st [(0, 1), (1, 1), (2, 1), (3, 1), (4, 1)], 5, 104, [.int .i64 0, .slice none 0 0, .slice none 0 0, .slice none 0 0, .slice none 0 0], default⟩
  | 32 => ⟨.st [(0, 5), (5, 1), (6, 1)], 7, 152, [.int .i64 0, .slice none 0 0, .slice none 0 0, .slice none 0 0, .slice none 0 0, .slice none 0 0, .slice none 0 0], default⟩
  | 33 => ⟨.st [(0, 5), (5, 1), (6, 1)], 7, 152, [.int .i64 0, .slice none 0 0, .slice none 0 0, .slice none 0 0, .slice none 0 0, .slice none 0 0, .slice none 0 0], default⟩
  | 35 => ⟨.sc, 1, 8, [.nilFunc], default⟩
  | 40 => ⟨.sli 23 1 24 [.slice none 0 0], 1, 24, [.slice none 0 0], .sl 1 (.sl 1 (.v (.int .i64 0)) []) []⟩
  | 43 => ⟨.sc, 1, 8, [.nilFunc], default⟩
  | 47 => ⟨.sc, 1, 8, [.nilFunc], default⟩
  | 51 => ⟨.st [(0, 5), (5, 5), (10, 1), (11, 1)], 12, 256, [.int .i64 0, .slice none 0 0, .slice none 0 0, .slice none 0 0, .slice none 0 0, .int .i64 0, .slice none 0 0, .slice none 0 0, .slice none 0 0, .slice none 0 0, .slice none 0 0, .slice none 0 0], default⟩
  | 52 => ⟨.st [(0, 5), (5, 5), (10, 1), (11, 1)], 12, 256, [.int .i64 0, .slice none 0 0, .slice none 0 0, .slice none 0 0, .slice none 0 0, .int .i64 0, .slice none 0 0, .slice none 0 0, .slice none 0 0, .slice none 0 0, .slice none 0 0, .slice none 0 0], default⟩
  | 64 => ⟨.sli 52 12 256 [.int .i64 0, .slice none 0 0, .slice none 0 0, .slice none 0 0, .slice none 0 0, .int .i64 0, .slice none 0 0, .slice none 0 0, .slice none 0 0, .slice none 0 0, .slice none 0 0, .slice none 0 0], 1, 24, [.slice none 0 0], .v (.int .i64 0)⟩
  | 75 => ⟨.sc, 1, 8, [.pointer none], default⟩
  | 88 => ⟨.sc, 1, 8, [.pointer none], default⟩
  | 94 => ⟨.sli 2 1 8 [.int .i64 0], 1, 24, [.slice none 0 0], .v (.int .i64 0)⟩
  | 97 => ⟨.sli 2 1 8 [.int .i64 0], 1, 24, [.slice none 0 0], .v (.int .i64 0)⟩
  | 103 => ⟨.sc, 1, 8, [.pointer none], default⟩
  | 109 => ⟨.sc, 1, 8, [.pointer none], default⟩
  | 110 => ⟨.st [(0, 7), (7, 7), (14, 1), (15, 1), (16, 1)], 17, 344, [.int .i64 0, .slice none 0 0, .slice none 0 0, .slice none 0 0, .slice none 0 0, .slice none 0 0, .slice none 0 0, .int .i64 0, .slice none 0 0, .slice none 0 0, .slice none 0 0, .slice none 0 0, .slice none 0 0, .slice none 0 0, .bool false, .int .i64 0, .slice none 0 0], default⟩
  | 111 => ⟨.st [(0, 7), (7, 7), (14, 1), (15, 1), (16, 1)], 17, 344, [.int .i64 0, .slice none 0 0, .slice none 0 0, .slice none 0 0, .slice none 0 0, .slice none 0 0, .slice none 0 0, .int .i64 0, .slice none 0 0, .slice none 0 0, .slice none 0 0, .slice none 0 0, .slice none 0 0, .slice none 0 0, .bool false, .int .i64 0, .slice none 0 0], default⟩
  | 116 => ⟨.sc, 1, 8, [.nilFunc], default⟩
  | 119 => ⟨.sli 123 4 64 [.int .i64 0, .int .i64 0, .slice none 0 0, .slice none 0 0], 1, 24, [.slice none 0 0], .v (.int .i64 0)⟩
  | 122 => ⟨.st [(0, 1), (1, 1), (2, 1), (3, 1)], 4, 64, [.int .i64 0, .int .i64 0, .slice none 0 0, .slice none 0 0], default⟩
  | 123 => ⟨.st [(0, 1), (1, 1), (2, 1), (3, 1)], 4, 64, [.int .i64 0, .int .i64 0, .slice none 0 0, .slice none 0 0], default⟩
  | 128 => ⟨.sli 2 1 8 [.int .i64 0], 1, 24, [.slice none 0 0], .v (.int .i64 0)⟩
  | 129 => ⟨.sli 182 3 40 [.int .i64 0, .int .i64 0, .slice none 0 0], 1, 24, [.slice none 0 0], .v (.int .i64 0)⟩
  | 134 => ⟨.sc, 1, 8, [.pointer none], default⟩
  | 135 => ⟨.st [(0, 5), (5, 5), (10, 1), (11, 1), (12, 1), (13, 1)], 14, 288, [.int .i64 0, .slice none 0 0, .slice none 0 0, .slice none 0 0, .slice none 0 0, .int .i64 0, .slice none 0 0, .slice none 0 0, .slice none 0 0, .slice none 0 0, .slice none 0 0, .slice none 0 0, .int .i64 0, .slice none 0 0], default⟩
  | 136 => ⟨.st [(0, 5), (5, 5), (10, 1), (11, 1), (12, 1), (13, 1)], 14, 288, [.int .i64 0, .slice none 0 0, .slice none 0 0, .slice none 0 0, .slice none 0 0, .int .i64 0, .slice none 0 0, .slice none 0 0, .slice none 0 0, .slice none 0 0, .slice none 0 0, .slice none 0 0, .int .i64 0, .slice none 0 0], default⟩
  | 140 => ⟨.sli 88 1 8 [.pointer none], 1, 24, [.slice none 0 0], .v (.pointer none)⟩
  | 156 => ⟨.sc, 1, 8, [.pointer none], default⟩
  | 158 => ⟨.st [(0, 1), (1, 1), (2, 1), (3, 1)], 4, 64, [.pointer none, .pointer none, .slice none 0 0, .slice none 0 0], default⟩
  | 159 => ⟨.st [(0, 1), (1, 1), (2, 1), (3, 1)], 4, 64, [.pointer none, .pointer none, .slice none 0 0, .slice none 0 0], default⟩
  | 164 => ⟨.sli 75 1 8 [.pointer none], 1, 24, [.slice none 0 0], .v (.pointer none)⟩
  | 166 => ⟨.sc, 1, 8, [.pointer none], default⟩
  | 167 => ⟨.st [(0, 1), (1, 1), (2, 1), (3, 1), (4, 1)], 5, 56, [.pointer none, .pointer none, .bool false, .slice none 0 0, .nilFunc], default⟩
  | 168 => ⟨.st [(0, 1), (1, 1), (2, 1), (3, 1), (4, 1)], 5, 56, [.pointer none, .pointer none, .bool false, .slice none 0 0, .nilFunc], default⟩
  | 170 => ⟨.sc, 1, 8, [.nilFunc], default⟩
  | 171 => ⟨.sc, 1, 8, [.nilFunc], default⟩
  | 175 => ⟨.sc, 1, 8, [.pointer none], default⟩
  | 176 => ⟨.st [(0, 1), (1, 1), (2, 1), (3, 1), (4, 1)], 5, 104, [.slice none 0 0, .slice none 0 0, .slice none 0 0, .int .i64 0, .slice none 0 0], default⟩
  | 177 => ⟨.st [(0, 1), (1, 1), (2, 1), (3, 1), (4, 1)], 5, 104, [.slice none 0 0, .slice none 0 0, .slice none 0 0, .int .i64 0, .slice none 0 0], default⟩
  | 181 => ⟨.st [(0, 1), (1, 1), (2, 1)], 3, 40, [.int .i64 0, .int .i64 0, .slice none 0 0], default⟩
  | 182 => ⟨.st [(0, 1), (1, 1), (2, 1)], 3, 40, [.int .i64 0, .int .i64 0, .slice none 0 0], default⟩
  | 183 => ⟨.sc, 1, 8, [.pointer none], default⟩
  | 184 => ⟨.sc, 1, 8, [.map none], default⟩
  | 185 => ⟨.st [(0, 1), (1, 1), (2, 1), (3, 1)], 4, 64, [.slice none 0 0, .map none, .slice none 0 0, .nilFunc], default⟩
  | 186 => ⟨.st [(0, 1), (1, 1), (2, 1), (3, 1)], 4, 64, [.slice none 0 0, .map none, .slice none 0 0, .nilFunc], default⟩
  | 192 => ⟨.sc, 1, 8, [.pointer none], default⟩
  | 195 => ⟨.sc, 1, 8, [.map none], default⟩
  | 208 => ⟨.sc, 1, 8, [.map none], default⟩
  | 211 => ⟨.sli 215 2 16 [.int .i64 0, .int .i64 0], 1, 24, [.slice none 0 0], .v (.int .i64 0)⟩
  | 213 => ⟨.sc, 1, 8, [.pointer none], default⟩
  | 214 => ⟨.st [(0, 1), (1, 1)], 2, 16, [.int .i64 0, .int .i64 0], default⟩
  | 215 => ⟨.st [(0, 1), (1, 1)], 2, 16, [.int .i64 0, .int .i64 0], default⟩
  | 217 => ⟨.sc, 1, 8, [.nilFunc], default⟩
  | 220 => ⟨.sc, 1, 8, [.pointer none], default⟩
  | 221 => ⟨.sc, 1, 8, [.nilFunc], default⟩
  | 225 => ⟨.st [(0, 1), (1, 1)], 2, 16, [.int .i64 0, .int .i64 0], default⟩
  | 226 => ⟨.st [(0, 1), (1, 1)], 2, 16, [.int .i64 0, .int .i64 0], default⟩
  | 228 => ⟨.st [(0, 1), (1, 1), (2, 1), (3, 1), (4, 1), (5, 1)], 6, 80, [.pointer none, .pointer none, .slice none 0 0, .slice none 0 0, .bool false, .nilFunc], default⟩
  | 229 => ⟨.st [(0, 1), (1, 1), (2, 1), (3, 1), (4, 1), (5, 1)], 6, 80, [.pointer none, .pointer none, .slice none 0 0, .slice none 0 0, .bool false, .nilFunc], default⟩
  | 235 => ⟨.sli 5 1 1 [.int .u8 0], 1, 24, [.slice none 0 0], .v (.int .u8 0)⟩
  | 238 => ⟨.sli 4 1 1 [.bool false], 1, 24, [.slice none 0 0], .v (.bool false)⟩
  | _ => Ti.no
@[go_sem] theorem tenv2 : tenv 2 = ⟨.ik .i64, 1, 8, [.int .i64 0], default⟩ := rfl
@[go_sem] theorem tenv3 : tenv 3 = ⟨.ik .i64, 1, 8, [.int .i64 0], default⟩ := rfl
@[go_sem] theorem tenv4 : tenv 4 = ⟨.bk, 1, 1, [.bool false], default⟩ := rfl
@[go_sem] theorem tenv5 : tenv 5 = ⟨.ik .u8, 1, 1, [.int .u8 0], default⟩ := rfl
@[go_sem] theorem tenv6 : tenv 6 = ⟨.ik .u8, 1, 1, [.int .u8 0], default⟩ := rfl
@[go_sem] theorem tenv7 : tenv 7 = ⟨.st [(0, 1), (1, 1), (2, 1), (3, 1)], 4, 24, [.int .i64 0, .int .i64 0, .bool false, .int .u8 0], default⟩ := rfl
@[go_sem] theorem tenv8 : tenv 8 = ⟨.st [(0, 1), (1, 1), (2, 1), (3, 1)], 4, 24, [.int .i64 0, .int .i64 0, .bool false, .int .u8 0], default⟩ := rfl
@[go_sem] theorem tenv9 : tenv 9 = ⟨.strk, 1, 16, [.string ⟨#[]⟩], default⟩ := rfl
@[go_sem] theorem tenv10 : tenv 10 = ⟨.strk, 1, 16, [.string ⟨#[]⟩], default⟩ := rfl
@[go_sem] theorem tenv11 : tenv 11 = ⟨.strk, 1, 16, [.string ⟨#[]⟩], default⟩ := rfl
@[go_sem] theorem tenv12 : tenv 12 = ⟨.ik .u64, 1, 8, [.int .u64 0], default⟩ := rfl
@[go_sem] theorem tenv13 : tenv 13 = ⟨.st [(0, 1), (1, 1)], 2, 24, [.string ⟨#[]⟩, .int .u64 0], default⟩ := rfl
@[go_sem] theorem tenv14 : tenv 14 = ⟨.st [(0, 1), (1, 1)], 2, 24, [.string ⟨#[]⟩, .int .u64 0], default⟩ := rfl
@[go_sem] theorem tenv15 : tenv 15 = ⟨.sc, 1, 8, [.pointer none], default⟩ := rfl
@[go_sem] theorem tenv16 : tenv 16 = ⟨.sc, 1, 8, [.pointer none], default⟩ := rfl
@[go_sem] theorem tenv17 : tenv 17 = ⟨.sc, 1, 8, [.pointer none], default⟩ := rfl
@[go_sem] theorem tenv18 : tenv 18 = ⟨.st [(0, 1)], 1, 8, [.pointer none], default⟩ := rfl
@[go_sem] theorem tenv19 : tenv 19 = ⟨.st [(0, 1)], 1, 8, [.pointer none], default⟩ := rfl
@[go_sem] theorem tenv21 : tenv 21 = ⟨.ik .i32, 1, 4, [.int .i32 0], default⟩ := rfl
@[go_sem] theorem tenv22 : tenv 22 = ⟨.sli 2 1 8 [.int .i64 0], 1, 24, [.slice none 0 0], .v (.int .i64 0)⟩ := rfl
@[go_sem] theorem tenv23 : tenv 23 = ⟨.sli 22 1 24 [.slice none 0 0], 1, 24, [.slice none 0 0], .sl 1 (.v (.int .i64 0)) []⟩ := rfl
@[go_sem] theorem tenv24 : tenv 24 = ⟨.st [(0, 1), (1, 1), (2, 1), (3, 1), (4, 1)], 5, 104, [.int .i64 0, .slice none 0 0, .slice none 0 0, .slice none 0 0, .slice none 0 0], default⟩ := rfl
@[go_sem] theorem tenv25 : tenv 25 = ⟨.st [(0, 1), (1, 1), (2, 1), (3, 1), (4, 1)], 5, 104, [.int .i64 0, .slice none 0 0, .slice none 0 0, .slice none 0 0, .slice none 0 0], default⟩ := rfl
@[go_sem] theorem tenv26 : tenv 26 = ⟨.st [(0, 5), (5, 1), (6, 1)], 7, 152, [.int .i64 0, .slice none 0 0, .slice none 0 0, .slice none 0 0, .slice none 0 0, .slice none 0 0, .slice none 0 0], default⟩ := rfl
@[go_sem] theorem tenv27 : tenv 27 = ⟨.st [(0, 5), (5, 1), (6, 1)], 7, 152, [.int .i64 0, .slice none 0 0, .slice none 0 0, .slice none 0 0, .slice none 0 0, .slice none 0 0, .slice none 0 0], default⟩ := rfl
@[go_sem] theorem tenv31 : tenv 31 = ⟨.st [(0, 1), (1, 1), (2, 1), (3, 1), (4, 1)], 5, 104, [.int .i64 0, .slice none 0 0, .slice none 0 0, .slice none 0 0, .slice none 0 0], default⟩ := rfl
@[go_sem] theorem tenv32 : tenv 32 = ⟨.st [(0, 5), (5, 1), (6, 1)], 7, 152, [.int .i64 0, .slice none 0 0, .slice none 0 0, .slice none 0 0, .slice none 0 0, .slice none 0 0, .slice none 0 0], default⟩ := rfl
@[go_sem] theorem tenv33 : tenv 33 = ⟨.st [(0, 5), (5, 1), (6, 1)], 7, 152, [.int .i64 0, .slice none 0 0, .slice none 0 0, .slice none 0 0, .slice none 0 0, .slice none 0 0, .slice none 0 0], default⟩ := rfl
@[go_sem] theorem tenv35 : tenv 35 = ⟨.sc, 1, 8, [.nilFunc], default⟩ := rfl
@[go_sem] theorem tenv40 : tenv 40 = ⟨.sli 23 1 24 [.slice none 0 0], 1, 24, [.slice none 0 0], .sl 1 (.sl 1 (.v (.int .i64 0)) []) []⟩ := rfl
@[go_sem] theorem tenv43 : tenv 43 = ⟨.sc, 1, 8, [.nilFunc], default⟩ := rfl
@[go_sem] theorem tenv47 : tenv 47 = ⟨.sc, 1, 8, [.nilFunc], default⟩ := rfl
@[go_sem] theorem tenv51 : tenv 51 = ⟨.st [(0, 5), (5, 5), (10, 1), (11, 1)], 12, 256, [.int .i64 0, .slice none 0 0, .slice none 0 0, .slice none 0 0, .slice none 0 0, .int .i64 0, .slice none 0 0, .slice none 0 0, .slice none 0 0, .slice none 0 0, .slice none 0 0, .slice none 0 0], default⟩ := rfl
@[go_sem] theorem tenv52 : tenv 52 = ⟨.st [(0, 5), (5, 5), (10, 1), (11, 1)], 12, 256, [.int .i64 0, .slice none 0 0, .slice none 0 0, .slice none 0 0, .slice none 0 0, .int .i64 0, .slice none 0 0, .slice none 0 0, .slice none 0 0, .slice none 0 0, .slice none 0 0, .slice none 0 0], default⟩ := rfl
@[go_sem] theorem tenv64 : tenv 64 = ⟨.sli 52 12 256 [.int .i64 0, .slice none 0 0, .slice none 0 0, .slice none 0 0, .slice none 0 0, .int .i64 0, .slice none 0 0, .slice none 0 0, .slice none 0 0, .slice none 0 0, .slice none 0 0, .slice none 0 0], 1, 24, [.slice none 0 0], .v (.int .i64 0)⟩ := rfl
@[go_sem] theorem tenv75 : tenv 75 = ⟨.sc, 1, 8, [.pointer none], default⟩ := rfl
@[go_sem] theorem tenv88 : tenv 88 = ⟨.sc, 1, 8, [.pointer none], default⟩ := rfl
@[go_sem] theorem tenv94 : tenv 94 = ⟨.sli 2 1 8 [.int .i64 0], 1, 24, [.slice none 0 0], .v (.int .i64 0)⟩ := rfl
@[go_sem] theorem tenv97 : tenv 97 = ⟨.sli 2 1 8 [.int .i64 0], 1, 24, [.slice none 0 0], .v (.int .i64 0)⟩ := rfl
@[go_sem] theorem tenv103 : tenv 103 = ⟨.sc, 1, 8, [.pointer none], default⟩ := rfl
@[go_sem] theorem tenv109 : tenv 109 = ⟨.sc, 1, 8, [.pointer none], default⟩ := rfl
@[go_sem] theorem tenv110 : tenv 110 = ⟨.st [(0, 7), (7, 7), (14, 1), (15, 1), (16, 1)], 17, 344, [.int .i64 0, .slice none 0 0, .slice none 0 0, .slice none 0 0, .slice none 0 0, .slice none 0 0, .slice none 0 0, .int .i64 0, .slice none 0 0, .slice none 0 0, .slice none 0 0, .slice none 0 0, .slice none 0 0, .slice none 0 0, .bool false, .int .i64 0, .slice none 0 0], default⟩ := rfl
@[go_sem] theorem tenv111 : tenv 111 = ⟨.st [(0, 7), (7, 7), (14, 1), (15, 1), (16, 1)], 17, 344, [.int .i64 0, .slice none 0 0, .slice none 0 0, .slice none 0 0, .slice none 0 0, .slice none 0 0, .slice none 0 0, .int .i64 0, .slice none 0 0, .slice none 0 0, .slice none 0 0, .slice none 0 0, .slice none 0 0, .slice none 0 0, .bool false, .int .i64 0, .slice none 0 0], default⟩ := rfl
@[go_sem] theorem tenv116 : tenv 116 = ⟨.sc, 1, 8, [.nilFunc], default⟩ := rfl
@[go_sem] theorem tenv119 : tenv 119 = ⟨.sli 123 4 64 [.int .i64 0, .int .i64 0, .slice none 0 0, .slice none 0 0], 1, 24, [.slice none 0 0], .v (.int .i64 0)⟩ := rfl
@[go_sem] theorem tenv122 : tenv 122 = ⟨.st [(0, 1), (1, 1), (2, 1), (3, 1)], 4, 64, [.int .i64 0, .int .i64 0, .slice none 0 0, .slice none 0 0], default⟩ := rfl
@[go_sem] theorem tenv123 : tenv 123 = ⟨.st [(0, 1), (1, 1), (2, 1), (3, 1)], 4, 64, [.int .i64 0, .int .i64 0, .slice none 0 0, .slice none 0 0], default⟩ := rfl
@[go_sem] theorem tenv128 : tenv 128 = ⟨.sli 2 1 8 [.int .i64 0], 1, 24, [.slice none 0 0], .v (.int .i64 0)⟩ := rfl
@[go_sem] theorem tenv129 : tenv 129 = ⟨.sli 182 3 40 [.int .i64 0, .int .i64 0, .slice none 0 0], 1, 24, [.slice none 0 0], .v (.int .i64 0)⟩ := rfl
@[go_sem] theorem tenv134 : tenv 134 = ⟨.sc, 1, 8, [.pointer none], default⟩ := rfl
@[go_sem] theorem tenv135 : tenv 135 = ⟨.st [(0, 5), (5, 5), (10, 1), (11, 1), (12, 1), (13, 1)], 14, 288, [.int .i64 0, .slice none 0 0, .slice none 0 0, .slice none 0 0, .slice none 0 0, .int .i64 0, .slice none 0 0, .slice none 0 0, .slice none 0 0, .slice none 0 0, .slice none 0 0, .slice none 0 0, .int .i64 0, .slice none 0 0], default⟩ := rfl
@[go_sem] theorem tenv136 : tenv 136 = ⟨.st [(0, 5), (5, 5), (10, 1), (11, 1), (12, 1), (13, 1)], 14, 288, [.int .i64 0, .slice none 0 0, .slice none 0 0, .slice none 0 0, .slice none 0 0, .int .i64 0, .slice none 0 0, .slice none 0 0, .slice none 0 0, .slice none 0 0, .slice none 0 0, .slice none 0 0, .int .i64 0, .slice none 0 0], default⟩ := rfl
@[go_sem] theorem tenv140 : tenv 140 = ⟨.sli 88 1 8 [.pointer none], 1, 24, [.slice none 0 0], .v (.pointer none)⟩ := rfl
@[go_sem] theorem tenv156 : tenv 156 = ⟨.sc, 1, 8, [.pointer none], default⟩ := rfl
@[go_sem] theorem tenv158 : tenv 158 = ⟨.st [(0, 1), (1, 1), (2, 1), (3, 1)], 4, 64, [.pointer none, .pointer none, .slice none 0 0, .slice none 0 0], default⟩ := rfl
@[go_sem] theorem tenv159 : tenv 159 = ⟨.st [(0, 1), (1, 1), (2, 1), (3, 1)], 4, 64, [.pointer none, .pointer none, .slice none 0 0, .slice none 0 0], default⟩ := rfl
@[go_sem] theorem tenv164 : tenv 164 = ⟨.sli 75 1 8 [.pointer none], 1, 24, [.slice none 0 0], .v (.pointer none)⟩ := rfl
@[go_sem] theorem tenv166 : tenv 166 = ⟨.sc, 1, 8, [.pointer none], default⟩ := rfl
@[go_sem] theorem tenv167 : tenv 167 = ⟨.st [(0, 1), (1, 1), (2, 1), (3, 1), (4, 1)], 5, 56, [.pointer none, .pointer none, .bool false, .slice none 0 0, .nilFunc], default⟩ := rfl
@[go_sem] theorem tenv168 : tenv 168 = ⟨.st [(0, 1), (1, 1), (2, 1), (3, 1), (4, 1)], 5, 56, [.pointer none, .pointer none, .bool false, .slice none 0 0, .nilFunc], default⟩ := rfl
@[go_sem] theorem tenv170 : tenv 170 = ⟨.sc, 1, 8, [.nilFunc], default⟩ := rfl
@[go_sem] theorem tenv171 : tenv 171 = ⟨.sc, 1, 8, [.nilFunc], default⟩ := rfl
@[go_sem] theorem tenv175 : tenv 175 = ⟨.sc, 1, 8, [.pointer none], default⟩ := rfl
@[go_sem] theorem tenv176 : tenv 176 = ⟨.st [(0, 1), (1, 1), (2, 1), (3, 1), (4, 1)], 5, 104, [.slice none 0 0, .slice none 0 0, .slice none 0 0, .int .i64 0, .slice none 0 0], default⟩ := rfl
@[go_sem] theorem tenv177 : tenv 177 = ⟨.st [(0, 1), (1, 1), (2, 1), (3, 1), (4, 1)], 5, 104, [.slice none 0 0, .slice none 0 0, .slice none 0 0, .int .i64 0, .slice none 0 0], default⟩ := rfl
@[go_sem] theorem tenv181 : tenv 181 = ⟨.st [(0, 1), (1, 1), (2, 1)], 3, 40, [.int .i64 0, .int .i64 0, .slice none 0 0], default⟩ := rfl
@[go_sem] theorem tenv182 : tenv 182 = ⟨.st [(0, 1), (1, 1), (2, 1)], 3, 40, [.int .i64 0, .int .i64 0, .slice none 0 0], default⟩ := rfl
@[go_sem] theorem tenv183 : tenv 183 = ⟨.sc, 1, 8, [.pointer none], default⟩ := rfl
@[go_sem] theorem tenv184 : tenv 184 = ⟨.sc, 1, 8, [.map none], default⟩ := rfl
@[go_sem] theorem tenv185 : tenv 185 = ⟨.st [(0, 1), (1, 1), (2, 1), (3, 1)], 4, 64, [.slice none 0 0, .map none, .slice none 0 0, .nilFunc], default⟩ := rfl
@[go_sem] theorem tenv186 : tenv 186 = ⟨.st [(0, 1), (1, 1), (2, 1), (3, 1)], 4, 64, [.slice none 0 0, .map none, .slice none 0 0, .nilFunc], default⟩ := rfl
@[go_sem] theorem tenv192 : tenv 192 = ⟨.sc, 1, 8, [.pointer none], default⟩ := rfl
@[go_sem] theorem tenv195 : tenv 195 = ⟨.sc, 1, 8, [.map none], default⟩ := rfl
@[go_sem] theorem tenv208 : tenv 208 = ⟨.sc, 1, 8, [.map none], default⟩ := rfl
@[go_sem] theorem tenv211 : tenv 211 = ⟨.sli 215 2 16 [.int .i64 0, .int .i64 0], 1, 24, [.slice none 0 0], .v (.int .i64 0)⟩ := rfl
@[go_sem] theorem tenv213 : tenv 213 = ⟨.sc, 1, 8, [.pointer none], default⟩ := rfl
@[go_sem] theorem tenv214 : tenv 214 = ⟨.st [(0, 1), (1, 1)], 2, 16, [.int .i64 0, .int .i64 0], default⟩ := rfl
@[go_sem] theorem tenv215 : tenv 215 = ⟨.st [(0, 1), (1, 1)], 2, 16, [.int .i64 0, .int .i64 0], default⟩ := rfl
@[go_sem] theorem tenv217 : tenv 217 = ⟨.sc, 1, 8, [.nilFunc], default⟩ := rfl
@[go_sem] theorem tenv220 : tenv 220 = ⟨.sc, 1, 8, [.pointer none], default⟩ := rfl
@[go_sem] theorem tenv221 : tenv 221 = ⟨.sc, 1, 8, [.nilFunc], default⟩ := rfl
@[go_sem] theorem tenv225 : tenv 225 = ⟨.st [(0, 1), (1, 1)], 2, 16, [.int .i64 0, .int .i64 0], default⟩ := rfl
@[go_sem] theorem tenv226 : tenv 226 = ⟨.st [(0, 1), (1, 1)], 2, 16, [.int .i64 0, .int .i64 0], default⟩ := rfl
@[go_sem] theorem tenv228 : tenv 228 = ⟨.st [(0, 1), (1, 1), (2, 1), (3, 1), (4, 1), (5, 1)], 6, 80, [.pointer none, .pointer none, .slice none 0 0, .slice none 0 0, .bool false, .nilFunc], default⟩ := rfl
@[go_sem] theorem tenv229 : tenv 229 = ⟨.st [(0, 1), (1, 1), (2, 1), (3, 1), (4, 1), (5, 1)], 6, 80, [.pointer none, .pointer none, .slice none 0 0, .slice none 0 0, .bool false, .nilFunc], default⟩ := rfl
@[go_sem] theorem tenv235 : tenv 235 = ⟨.sli 5 1 1 [.int .u8 0], 1, 24, [.slice none 0 0], .v (.int .u8 0)⟩ := rfl
@[go_sem] theorem tenv238 : tenv 238 = ⟨.sli 4 1 1 [.bool false], 1, 24, [.slice none 0 0], .v (.bool false)⟩ := rfl
set_option maxRecDepth 100000 in
theorem ty2 : TiOk Try.prog 2 (tenv 2) := ⟨⟨_, _, Try.type2, rfl, rfl, rfl, rfl⟩, Try.underlying2⟩
set_option maxRecDepth 100000 in
theorem ty3 : TiOk Try.prog 3 (tenv 3) := ⟨⟨_, _, Try.type3, rfl, rfl, rfl, rfl⟩, Try.underlying3⟩
set_option maxRecDepth 100000 in
theorem ty4 : TiOk Try.prog 4 (tenv 4) := ⟨⟨_, _, Try.type4, rfl, rfl, rfl, rfl⟩, Try.underlying4⟩
set_option maxRecDepth 100000 in
theorem ty5 : TiOk Try.prog 5 (tenv 5) := ⟨⟨_, _, Try.type5, rfl, rfl, rfl, rfl⟩, Try.underlying5⟩
set_option maxRecDepth 100000 in
theorem ty6 : TiOk Try.prog 6 (tenv 6) := ⟨⟨_, _, Try.type6, rfl, rfl, rfl, rfl⟩, Try.underlying6⟩
set_option maxRecDepth 100000 in
theorem ty7 : TiOk Try.prog 7 (tenv 7) := ⟨⟨_, _, Try.type7, rfl, rfl, rfl, rfl⟩, _, Try.underlying7, rfl, by kernel_rfl, rfl⟩
set_option maxRecDepth 100000 in
theorem ty8 : TiOk Try.prog 8 (tenv 8) := ⟨⟨_, _, Try.type8, rfl, rfl, rfl, rfl⟩, _, Try.underlying8, rfl, by kernel_rfl, rfl⟩
set_option maxRecDepth 100000 in
theorem ty9 : TiOk Try.prog 9 (tenv 9) := ⟨⟨_, _, Try.type9, rfl, rfl, rfl, rfl⟩, Try.underlying9⟩
set_option maxRecDepth 100000 in
theorem ty10 : TiOk Try.prog 10 (tenv 10) := ⟨⟨_, _, Try.type10, rfl, rfl, rfl, rfl⟩, Try.underlying10⟩
set_option maxRecDepth 100000 in
theorem ty11 : TiOk Try.prog 11 (tenv 11) := ⟨⟨_, _, Try.type11, rfl, rfl, rfl, rfl⟩, Try.underlying11⟩
set_option maxRecDepth 100000 in
theorem ty12 : TiOk Try.prog 12 (tenv 12) := ⟨⟨_, _, Try.type12, rfl, rfl, rfl, rfl⟩, Try.underlying12⟩
set_option maxRecDepth 100000 in
theorem ty13 : TiOk Try.prog 13 (tenv 13) := ⟨⟨_, _, Try.type13, rfl, rfl, rfl, rfl⟩, _, Try.underlying13, rfl, by kernel_rfl, rfl⟩
set_option maxRecDepth 100000 in
theorem ty14 : TiOk Try.prog 14 (tenv 14) := ⟨⟨_, _, Try.type14, rfl, rfl, rfl, rfl⟩, _, Try.underlying14, rfl, by kernel_rfl, rfl⟩
set_option maxRecDepth 100000 in
theorem ty15 : TiOk Try.prog 15 (tenv 15) := ⟨⟨_, _, Try.type15, rfl, rfl, rfl, rfl⟩, _, Try.underlying15, trivial⟩
set_option maxRecDepth 100000 in
theorem ty16 : TiOk Try.prog 16 (tenv 16) := ⟨⟨_, _, Try.type16, rfl, rfl, rfl, rfl⟩, _, Try.underlying16, trivial⟩
set_option maxRecDepth 100000 in
theorem ty17 : TiOk Try.prog 17 (tenv 17) := ⟨⟨_, _, Try.type17, rfl, rfl, rfl, rfl⟩, _, Try.underlying17, trivial⟩
set_option maxRecDepth 100000 in
theorem ty18 : TiOk Try.prog 18 (tenv 18) := ⟨⟨_, _, Try.type18, rfl, rfl, rfl, rfl⟩, _, Try.underlying18, rfl, by kernel_rfl, rfl⟩
set_option maxRecDepth 100000 in
theorem ty19 : TiOk Try.prog 19 (tenv 19) := ⟨⟨_, _, Try.type19, rfl, rfl, rfl, rfl⟩, _, Try.underlying19, rfl, by kernel_rfl, rfl⟩
set_option maxRecDepth 100000 in
theorem ty21 : TiOk Try.prog 21 (tenv 21) := ⟨⟨_, _, Try.type21, rfl, rfl, rfl, rfl⟩, Try.underlying21⟩
set_option maxRecDepth 100000 in
theorem ty22 : TiOk Try.prog 22 (tenv 22) := ⟨⟨_, _, Try.type22, rfl, rfl, rfl, rfl⟩, Try.underlying22, ⟨_, _, Try.type2, rfl, rfl, rfl, rfl⟩⟩
set_option maxRecDepth 100000 in
theorem ty23 : TiOk Try.prog 23 (tenv 23) := ⟨⟨_, _, Try.type23, rfl, rfl, rfl, rfl⟩, Try.underlying23, ⟨_, _, Try.type22, rfl, rfl, rfl, rfl⟩⟩
set_option maxRecDepth 100000 in
theorem ty24 : TiOk Try.prog 24 (tenv 24) := ⟨⟨_, _, Try.type24, rfl, rfl, rfl, rfl⟩, _, Try.underlying24, rfl, by kernel_rfl, rfl⟩
set_option maxRecDepth 100000 in
theorem ty25 : TiOk Try.prog 25 (tenv 25) := ⟨⟨_, _, Try.type25, rfl, rfl, rfl, rfl⟩, _, Try.underlying25, rfl, by kernel_rfl, rfl⟩
set_option maxRecDepth 100000 in
theorem ty26 : TiOk Try.prog 26 (tenv 26) := ⟨⟨_, _, Try.type26, rfl, rfl, rfl, rfl⟩, _, Try.underlying26, rfl, by kernel_rfl, rfl⟩
set_option maxRecDepth 100000 in
theorem ty27 : TiOk Try.prog 27 (tenv 27) := ⟨⟨_, _, Try.type27, rfl, rfl, rfl, rfl⟩, _, Try.underlying27, rfl, by kernel_rfl, rfl⟩
set_option maxRecDepth 100000 in
theorem ty31 : TiOk Try.prog 31 (tenv 31) := ⟨⟨_, _, Try.type31, rfl, rfl, rfl, rfl⟩, _, Try.underlying31, rfl, by kernel_rfl, rfl⟩
set_option maxRecDepth 100000 in
theorem ty32 : TiOk Try.prog 32 (tenv 32) := ⟨⟨_, _, Try.type32, rfl, rfl, rfl, rfl⟩, _, Try.underlying32, rfl, by kernel_rfl, rfl⟩
set_option maxRecDepth 100000 in
theorem ty33 : TiOk Try.prog 33 (tenv 33) := ⟨⟨_, _, Try.type33, rfl, rfl, rfl, rfl⟩, _, Try.underlying33, rfl, by kernel_rfl, rfl⟩
set_option maxRecDepth 100000 in
theorem ty35 : TiOk Try.prog 35 (tenv 35) := ⟨⟨_, _, Try.type35, rfl, rfl, rfl, rfl⟩, _, Try.underlying35, trivial⟩
set_option maxRecDepth 100000 in
theorem ty40 : TiOk Try.prog 40 (tenv 40) := ⟨⟨_, _, Try.type40, rfl, rfl, rfl, rfl⟩, Try.underlying40, ⟨_, _, Try.type23, rfl, rfl, rfl, rfl⟩⟩
set_option maxRecDepth 100000 in
theorem ty43 : TiOk Try.prog 43 (tenv 43) := ⟨⟨_, _, Try.type43, rfl, rfl, rfl, rfl⟩, _, Try.underlying43, trivial⟩
set_option maxRecDepth 100000 in
theorem ty47 : TiOk Try.prog 47 (tenv 47) := ⟨⟨_, _, Try.type47, rfl, rfl, rfl, rfl⟩, _, Try.underlying47, trivial⟩
set_option maxRecDepth 100000 in
theorem ty51 : TiOk Try.prog 51 (tenv 51) := ⟨⟨_, _, Try.type51, rfl, rfl, rfl, rfl⟩, _, Try.underlying51, rfl, by kernel_rfl, rfl⟩
set_option maxRecDepth 100000 in
theorem ty52 : TiOk Try.prog 52 (tenv 52) := ⟨⟨_, _, Try.type52, rfl, rfl, rfl, rfl⟩, _, Try.underlying52, rfl, by kernel_rfl, rfl⟩
set_option maxRecDepth 100000 in
theorem ty64 : TiOk Try.prog 64 (tenv 64) := ⟨⟨_, _, Try.type64, rfl, rfl, rfl, rfl⟩, Try.underlying64, ⟨_, _, Try.type52, rfl, rfl, rfl, rfl⟩⟩
set_option maxRecDepth 100000 in
theorem ty75 : TiOk Try.prog 75 (tenv 75) := ⟨⟨_, _, Try.type75, rfl, rfl, rfl, rfl⟩, _, Try.underlying75, trivial⟩
set_option maxRecDepth 100000 in
theorem ty88 : TiOk Try.prog 88 (tenv 88) := ⟨⟨_, _, Try.type88, rfl, rfl, rfl, rfl⟩, _, Try.underlying88, trivial⟩
set_option maxRecDepth 100000 in
theorem ty94 : TiOk Try.prog 94 (tenv 94) := ⟨⟨_, _, Try.type94, rfl, rfl, rfl, rfl⟩, Try.underlying94, ⟨_, _, Try.type2, rfl, rfl, rfl, rfl⟩⟩
set_option maxRecDepth 100000 in
theorem ty97 : TiOk Try.prog 97 (tenv 97) := ⟨⟨_, _, Try.type97, rfl, rfl, rfl, rfl⟩, Try.underlying97, ⟨_, _, Try.type2, rfl, rfl, rfl, rfl⟩⟩
set_option maxRecDepth 100000 in
theorem ty103 : TiOk Try.prog 103 (tenv 103) := ⟨⟨_, _, Try.type103, rfl, rfl, rfl, rfl⟩, _, Try.underlying103, trivial⟩
set_option maxRecDepth 100000 in
theorem ty109 : TiOk Try.prog 109 (tenv 109) := ⟨⟨_, _, Try.type109, rfl, rfl, rfl, rfl⟩, _, Try.underlying109, trivial⟩
set_option maxRecDepth 100000 in
theorem ty110 : TiOk Try.prog 110 (tenv 110) := ⟨⟨_, _, Try.type110, rfl, rfl, rfl, rfl⟩, _, Try.underlying110, rfl, by kernel_rfl, rfl⟩
set_option maxRecDepth 100000 in
theorem ty111 : TiOk Try.prog 111 (tenv 111) := ⟨⟨_, _, Try.type111, rfl, rfl, rfl, rfl⟩, _, Try.underlying111, rfl, by kernel_rfl, rfl⟩
set_option maxRecDepth 100000 in
theorem ty116 : TiOk Try.prog 116 (tenv 116) := ⟨⟨_, _, Try.type116, rfl, rfl, rfl, rfl⟩, _, Try.underlying116, trivial⟩
set_option maxRecDepth 100000 in
theorem ty119 : TiOk Try.prog 119 (tenv 119) := ⟨⟨_, _, Try.type119, rfl, rfl, rfl, rfl⟩, Try.underlying119, ⟨_, _, Try.type123, rfl, rfl, rfl, rfl⟩⟩
set_option maxRecDepth 100000 in
theorem ty122 : TiOk Try.prog 122 (tenv 122) := ⟨⟨_, _, Try.type122, rfl, rfl, rfl, rfl⟩, _, Try.underlying122, rfl, by kernel_rfl, rfl⟩
set_option maxRecDepth 100000 in
theorem ty123 : TiOk Try.prog 123 (tenv 123) := ⟨⟨_, _, Try.type123, rfl, rfl, rfl, rfl⟩, _, Try.underlying123, rfl, by kernel_rfl, rfl⟩
set_option maxRecDepth 100000 in
theorem ty128 : TiOk Try.prog 128 (tenv 128) := ⟨⟨_, _, Try.type128, rfl, rfl, rfl, rfl⟩, Try.underlying128, ⟨_, _, Try.type2, rfl, rfl, rfl, rfl⟩⟩
set_option maxRecDepth 100000 in
theorem ty129 : TiOk Try.prog 129 (tenv 129) := ⟨⟨_, _, Try.type129, rfl, rfl, rfl, rfl⟩, Try.underlying129, ⟨_, _, Try.type182, rfl, rfl, rfl, rfl⟩⟩
set_option maxRecDepth 100000 in
theorem ty134 : TiOk Try.prog 134 (tenv 134) := ⟨⟨_, _, Try.type134, rfl, rfl, rfl, rfl⟩, _, Try.underlying134, trivial⟩
set_option maxRecDepth 100000 in
theorem ty135 : TiOk Try.prog 135 (tenv 135) := ⟨⟨_, _, Try.type135, rfl, rfl, rfl, rfl⟩, _, Try.underlying135, rfl, by kernel_rfl, rfl⟩
set_option maxRecDepth 100000 in
theorem ty136 : TiOk Try.prog 136 (tenv 136) := ⟨⟨_, _, Try.type136, rfl, rfl, rfl, rfl⟩, _, Try.underlying136, rfl, by kernel_rfl, rfl⟩
set_option maxRecDepth 100000 in
theorem ty140 : TiOk Try.prog 140 (tenv 140) := ⟨⟨_, _, Try.type140, rfl, rfl, rfl, rfl⟩, Try.underlying140, ⟨_, _, Try.type88, rfl, rfl, rfl, rfl⟩⟩
set_option maxRecDepth 100000 in
theorem ty156 : TiOk Try.prog 156 (tenv 156) := ⟨⟨_, _, Try.type156, rfl, rfl, rfl, rfl⟩, _, Try.underlying156, trivial⟩
set_option maxRecDepth 100000 in
theorem ty158 : TiOk Try.prog 158 (tenv 158) := ⟨⟨_, _, Try.type158, rfl, rfl, rfl, rfl⟩, _, Try.underlying158, rfl, by kernel_rfl, rfl⟩
set_option maxRecDepth 100000 in
theorem ty159 : TiOk Try.prog 159 (tenv 159) := ⟨⟨_, _, Try.type159, rfl, rfl, rfl, rfl⟩, _, Try.underlying159, rfl, by kernel_rfl, rfl⟩
set_option maxRecDepth 100000 in
theorem ty164 : TiOk Try.prog 164 (tenv 164) := ⟨⟨_, _, Try.type164, rfl, rfl, rfl, rfl⟩, Try.underlying164, ⟨_, _, Try.type75, rfl, rfl, rfl, rfl⟩⟩
set_option maxRecDepth 100000 in
theorem ty166 : TiOk Try.prog 166 (tenv 166) := ⟨⟨_, _, Try.type166, rfl, rfl, rfl, rfl⟩, _, Try.underlying166, trivial⟩
set_option maxRecDepth 100000 in
theorem ty167 : TiOk Try.prog 167 (tenv 167) := ⟨⟨_, _, Try.type167, rfl, rfl, rfl, rfl⟩, _, Try.underlying167, rfl, by kernel_rfl, rfl⟩
set_option maxRecDepth 100000 in
theorem ty168 : TiOk Try.prog 168 (tenv 168) := ⟨⟨_, _, Try.type168, rfl, rfl, rfl, rfl⟩, _, Try.underlying168, rfl, by kernel_rfl, rfl⟩
set_option maxRecDepth 100000 in
theorem ty170 : TiOk Try.prog 170 (tenv 170) := ⟨⟨_, _, Try.type170, rfl, rfl, rfl, rfl⟩, _, Try.underlying170, trivial⟩
set_option maxRecDepth 100000 in
theorem ty171 : TiOk Try.prog 171 (tenv 171) := ⟨⟨_, _, Try.type171, rfl, rfl, rfl, rfl⟩, _, Try.underlying171, trivial⟩
set_option maxRecDepth 100000 in
theorem ty175 : TiOk Try.prog 175 (tenv 175) := ⟨⟨_, _, Try.type175, rfl, rfl, rfl, rfl⟩, _, Try.underlying175, trivial⟩
set_option maxRecDepth 100000 in
theorem ty176 : TiOk Try.prog 176 (tenv 176) := ⟨⟨_, _, Try.type176, rfl, rfl, rfl, rfl⟩, _, Try.underlying176, rfl, by kernel_rfl, rfl⟩
set_option maxRecDepth 100000 in
theorem ty177 : TiOk Try.prog 177 (tenv 177) := ⟨⟨_, _, Try.type177, rfl, rfl, rfl, rfl⟩, _, Try.underlying177, rfl, by kernel_rfl, rfl⟩
set_option maxRecDepth 100000 in
theorem ty181 : TiOk Try.prog 181 (tenv 181) := ⟨⟨_, _, Try.type181, rfl, rfl, rfl, rfl⟩, _, Try.underlying181, rfl, by kernel_rfl, rfl⟩
set_option maxRecDepth 100000 in
theorem ty182 : TiOk Try.prog 182 (tenv 182) := ⟨⟨_, _, Try.type182, rfl, rfl, rfl, rfl⟩, _, Try.underlying182, rfl, by kernel_rfl, rfl⟩
set_option maxRecDepth 100000 in
theorem ty183 : TiOk Try.prog 183 (tenv 183) := ⟨⟨_, _, Try.type183, rfl, rfl, rfl, rfl⟩, _, Try.underlying183, trivial⟩
set_option maxRecDepth 100000 in
theorem ty184 : TiOk Try.prog 184 (tenv 184) := ⟨⟨_, _, Try.type184, rfl, rfl, rfl, rfl⟩, _, Try.underlying184, trivial⟩
set_option maxRecDepth 100000 in
theorem ty185 : TiOk Try.prog 185 (tenv 185) := ⟨⟨_, _, Try.type185, rfl, rfl, rfl, rfl⟩, _, Try.underlying185, rfl, by kernel_rfl, rfl⟩
set_option maxRecDepth 100000 in
theorem ty186 : TiOk Try.prog 186 (tenv 186) := ⟨⟨_, _, Try.type186, rfl, rfl, rfl, rfl⟩, _, Try.underlying186, rfl, by kernel_rfl, rfl⟩
set_option maxRecDepth 100000 in
theorem ty192 : TiOk Try.prog 192 (tenv 192) := ⟨⟨_, _, Try.type192, rfl, rfl, rfl, rfl⟩, _, Try.underlying192, trivial⟩
set_option maxRecDepth 100000 in
theorem ty195 : TiOk Try.prog 195 (tenv 195) := ⟨⟨_, _, Try.type195, rfl, rfl, rfl, rfl⟩, _, Try.underlying195, trivial⟩
set_option maxRecDepth 100000 in
theorem ty208 : TiOk Try.prog 208 (tenv 208) := ⟨⟨_, _, Try.type208, rfl, rfl, rfl, rfl⟩, _, Try.underlying208, trivial⟩
set_option maxRecDepth 100000 in
theorem ty211 : TiOk Try.prog 211 (tenv 211) := ⟨⟨_, _, Try.type211, rfl, rfl, rfl, rfl⟩, Try.underlying211, ⟨_, _, Try.type215, rfl, rfl, rfl, rfl⟩⟩
set_option maxRecDepth 100000 in
theorem ty213 : TiOk Try.prog 213 (tenv 213) := ⟨⟨_, _, Try.type213, rfl, rfl, rfl, rfl⟩, _, Try.underlying213, trivial⟩
set_option maxRecDepth 100000 in
theorem ty214 : TiOk Try.prog 214 (tenv 214) := ⟨⟨_, _, Try.type214, rfl, rfl, rfl, rfl⟩, _, Try.underlying214, rfl, by kernel_rfl, rfl⟩
set_option maxRecDepth 100000 in
theorem ty215 : TiOk Try.prog 215 (tenv 215) := ⟨⟨_, _, Try.type215, rfl, rfl, rfl, rfl⟩, _, Try.underlying215, rfl, by kernel_rfl, rfl⟩
set_option maxRecDepth 100000 in
theorem ty217 : TiOk Try.prog 217 (tenv 217) := ⟨⟨_, _, Try.type217, rfl, rfl, rfl, rfl⟩, _, Try.underlying217, trivial⟩
set_option maxRecDepth 100000 in
theorem ty220 : TiOk Try.prog 220 (tenv 220) := ⟨⟨_, _, Try.type220, rfl, rfl, rfl, rfl⟩, _, Try.underlying220, trivial⟩
set_option maxRecDepth 100000 in
theorem ty221 : TiOk Try.prog 221 (tenv 221) := ⟨⟨_, _, Try.type221, rfl, rfl, rfl, rfl⟩, _, Try.underlying221, trivial⟩
set_option maxRecDepth 100000 in
theorem ty225 : TiOk Try.prog 225 (tenv 225) := ⟨⟨_, _, Try.type225, rfl, rfl, rfl, rfl⟩, _, Try.underlying225, rfl, by kernel_rfl, rfl⟩
set_option maxRecDepth 100000 in
theorem ty226 : TiOk Try.prog 226 (tenv 226) := ⟨⟨_, _, Try.type226, rfl, rfl, rfl, rfl⟩, _, Try.underlying226, rfl, by kernel_rfl, rfl⟩
set_option maxRecDepth 100000 in
theorem ty228 : TiOk Try.prog 228 (tenv 228) := ⟨⟨_, _, Try.type228, rfl, rfl, rfl, rfl⟩, _, Try.underlying228, rfl, by kernel_rfl, rfl⟩
set_option maxRecDepth 100000 in
theorem ty229 : TiOk Try.prog 229 (tenv 229) := ⟨⟨_, _, Try.type229, rfl, rfl, rfl, rfl⟩, _, Try.underlying229, rfl, by kernel_rfl, rfl⟩
set_option maxRecDepth 100000 in
theorem ty235 : TiOk Try.prog 235 (tenv 235) := ⟨⟨_, _, Try.type235, rfl, rfl, rfl, rfl⟩, Try.underlying235, ⟨_, _, Try.type5, rfl, rfl, rfl, rfl⟩⟩
set_option maxRecDepth 100000 in
theorem ty238 : TiOk Try.prog 238 (tenv 238) := ⟨⟨_, _, Try.type238, rfl, rfl, rfl, rfl⟩, Try.underlying238, ⟨_, _, Try.type4, rfl, rfl, rfl, rfl⟩⟩
theorem tok : ∀ t, TiOk Try.prog t (tenv t) := by
  intro t
  by_cases h : t ∈ [2, 3, 4, 5, 6, 7, 8, 9, 10, 11, 12, 13, 14, 15, 16, 17, 18, 19, 21, 22, 23, 24, 25, 26, 27, 31, 32, 33, 35, 40, 43, 47, 51, 52, 64, 75, 88, 94, 97, 103, 109, 110, 111, 116, 119, 122, 123, 128, 129, 134, 135, 136, 140, 156, 158, 159, 164, 166, 167, 168, 170, 171, 175, 176, 177, 181, 182, 183, 184, 185, 186, 192, 195, 208, 211, 213, 214, 215, 217, 220, 221, 225, 226, 228, 229, 235, 238]
  · simp only [List.mem_cons, List.not_mem_nil, or_false] at h
    rcases h with rfl | rfl | rfl | rfl | rfl | rfl | rfl | rfl | rfl | rfl | rfl | rfl | rfl | rfl | rfl | rfl | rfl | rfl | rfl | rfl | rfl | rfl | rfl | rfl | rfl | rfl | rfl | rfl | rfl | rfl | rfl | rfl | rfl | rfl | rfl | rfl | rfl | rfl | rfl | rfl | rfl | rfl | rfl | rfl | rfl | rfl | rfl | rfl | rfl | rfl | rfl | rfl | rfl | rfl | rfl | rfl | rfl | rfl | rfl | rfl | rfl | rfl | rfl | rfl | rfl | rfl | rfl | rfl | rfl | rfl | rfl | rfl | rfl | rfl | rfl | rfl | rfl | rfl | rfl | rfl | rfl | rfl | rfl | rfl | rfl | rfl | rfl
    · exact ty2
    · exact ty3
    · exact ty4
    · exact ty5
    · exact ty6
    · exact ty7
    · exact ty8
    · exact ty9
    · exact ty10
    · exact ty11
    · exact ty12
    · exact ty13
    · exact ty14
    · exact ty15
    · exact ty16
    · exact ty17
    · exact ty18
    · exact ty19
    · exact ty21
    · exact ty22
    · exact ty23
    · exact ty24
    · exact ty25
    · exact ty26
    · exact ty27
    · exact ty31
    · exact ty32
    · exact ty33
    · exact ty35
    · exact ty40
    · exact ty43
    · exact ty47
    · exact ty51
    · exact ty52
    · exact ty64
    · exact ty75
    · exact ty88
    · exact ty94
    · exact ty97
    · exact ty103
    · exact ty109
    · exact ty110
    · exact ty111
    · exact ty116
    · exact ty119
    · exact ty122
    · exact ty123
    · exact ty128
    · exact ty129
    · exact ty134
    · exact ty135
    · exact ty136
    · exact ty140
    · exact ty156
    · exact ty158
    · exact ty159
    · exact ty164
    · exact ty166
    · exact ty167
    · exact ty168
    · exact ty170
    · exact ty171
    · exact ty175
    · exact ty176
    · exact ty177
    · exact ty181
    · exact ty182
    · exact ty183
    · exact ty184
    · exact ty185
    · exact ty186
    · exact ty192
    · exact ty195
    · exact ty208
    · exact ty211
    · exact ty213
    · exact ty214
    · exact ty215
    · exact ty217
    · exact ty220
    · exact ty221
    · exact ty225
    · exact ty226
    · exact ty228
    · exact ty229
    · exact ty235
    · exact ty238
  · have : tenv t = Ti.no := by
      unfold tenv
      split
      all_goals first | rfl | (exfalso; apply h; decide)
    rw [this]; trivial
noncomputable def TE : Env := { P := Try.prog, ti := tenv, ok := tok }
@[go_sem] theorem TE_ti (t : TypeId) : TE.ti t = tenv t := rfl
@[go_sem] theorem TE_P : TE.P = Try.prog := rfl
end Go.Eng
