/- MADE BY PROGRAM (gentypes.py): what is known of the types of the seat. -/
import Derived.Test.YtdphbdoabhidgaaKcx
import Derived.Test.YtdphbdoabhidgaaProg
namespace Go.Eng
open Go Go.Proofs
def tenv : TypeId → Ti
  | 2 => ⟨.ik .i64, 1, 8, [.int .i64 0], default⟩
  | 3 => ⟨.ik .i64, 1, 8, [.int .i64 0], default⟩
  | 4 => ⟨.bk, 1, 1, [.bool false], default⟩
  | 5 => ⟨.ik .u8, 1, 1, [.int .u8 0], default⟩
  | 6 => ⟨.ik .u8, 1, 1, [.int .u8 0], default⟩
  | 7 => ⟨.st [(0, 1), (1, 1), (2, 1), (3, 1)], 4, 24, [.int .i64 0, .int .i64 0, .bool false, .int .u8 0], default⟩
  | 8 => ⟨.st [(0, 1), (1, 1), (2, 1), (3, 1)], 4, 24, [.int .i64 0, .int .i64 0, .bool false, .int .u8 0], default⟩
  | 9 => ⟨.strk, 1, 16, [.string ⟨#[]⟩], default⟩
  | 10 => ⟨.strk, 1, 16, [.string ⟨#[]⟩], default⟩
  | 11 => ⟨.strk, 1, 16, [.string ⟨#[]⟩], default⟩
  | 12 => ⟨.ik .u64, 1, 8, [.int .u64 0], default⟩
  | 13 => ⟨.st [(0, 1), (1, 1)], 2, 24, [.string ⟨#[]⟩, .int .u64 0], default⟩
  | 14 => ⟨.st [(0, 1), (1, 1)], 2, 24, [.string ⟨#[]⟩, .int .u64 0], default⟩
  | 15 => ⟨.sc, 1, 8, [.pointer none], default⟩
  | 16 => ⟨.sc, 1, 8, [.pointer none], default⟩
  | 17 => ⟨.sc, 1, 8, [.pointer none], default⟩
  | 18 => ⟨.st [(0, 1)], 1, 8, [.pointer none], default⟩
  | 19 => ⟨.st [(0, 1)], 1, 8, [.pointer none], default⟩
  | 21 => ⟨.ik .i32, 1, 4, [.int .i32 0], default⟩
  | 22 => ⟨.sli 2 1 8 [.int .i64 0], 1, 24, [.slice none 0 0], .v (.int .i64 0)⟩
  | 23 => ⟨.sli 22 1 24 [.slice none 0 0], 1, 24, [.slice none 0 0], .sl 1 (.v (.int .i64 0)) []⟩
  | 24 => ⟨.st [(0, 1), (1, 1), (2, 1), (3, 1), (4, 1)], 5, 104, [.int .i64 0, .slice none 0 0, .slice none 0 0, .slice none 0 0, .slice none 0 0], default⟩
  | 25 => ⟨.st [(0, 1), (1, 1), (2, 1), (3, 1), (4, 1)], 5, 104, [.int .i64 0, .slice none 0 0, .slice none 0 0, .slice none 0 0, .slice none 0 0], default⟩
  | 29 => ⟨.st [(0, 1), (1, 1), (2, 1), (3, 1), (4, 1)], 5, 104, [.int .i64 0, .slice none 0 0, .slice none 0 0, .slice none 0 0, .slice none 0 0], default⟩
  | 33 => ⟨.sli 23 1 24 [.slice none 0 0], 1, 24, [.slice none 0 0], .sl 1 (.sl 1 (.v (.int .i64 0)) []) []⟩
  | 34 => ⟨.st [(0, 5), (5, 5), (10, 1), (11, 1), (12, 1)], 13, 280, [.int .i64 0, .slice none 0 0, .slice none 0 0, .slice none 0 0, .slice none 0 0, .int .i64 0, .slice none 0 0, .slice none 0 0, .slice none 0 0, .slice none 0 0, .slice none 0 0, .slice none 0 0, .slice none 0 0], default⟩
  | 35 => ⟨.st [(0, 5), (5, 5), (10, 1), (11, 1), (12, 1)], 13, 280, [.int .i64 0, .slice none 0 0, .slice none 0 0, .slice none 0 0, .slice none 0 0, .int .i64 0, .slice none 0 0, .slice none 0 0, .slice none 0 0, .slice none 0 0, .slice none 0 0, .slice none 0 0, .slice none 0 0], default⟩
  | 37 => ⟨.sli 33 1 24 [.slice none 0 0], 1, 24, [.slice none 0 0], .sl 1 (.sl 1 (.sl 1 (.v (.int .i64 0)) []) []) []⟩
  | 40 => ⟨.st [(0, 5), (5, 5), (10, 1), (11, 1), (12, 1)], 13, 280, [.int .i64 0, .slice none 0 0, .slice none 0 0, .slice none 0 0, .slice none 0 0, .int .i64 0, .slice none 0 0, .slice none 0 0, .slice none 0 0, .slice none 0 0, .slice none 0 0, .slice none 0 0, .slice none 0 0], default⟩
  | 41 => ⟨.st [(0, 5), (5, 5), (10, 1), (11, 1), (12, 1)], 13, 280, [.int .i64 0, .slice none 0 0, .slice none 0 0, .slice none 0 0, .slice none 0 0, .int .i64 0, .slice none 0 0, .slice none 0 0, .slice none 0 0, .slice none 0 0, .slice none 0 0, .slice none 0 0, .slice none 0 0], default⟩
  | 43 => ⟨.sc, 1, 8, [.nilFunc], default⟩
  | 54 => ⟨.sc, 1, 8, [.pointer none], default⟩
  | 56 => ⟨.sc, 1, 8, [.nilFunc], default⟩
  | 57 => ⟨.sc, 1, 8, [.nilFunc], default⟩
  | 65 => ⟨.sc, 1, 8, [.pointer none], default⟩
  | 68 => ⟨.sli 95 3 40 [.int .i64 0, .int .i64 0, .slice none 0 0], 1, 24, [.slice none 0 0], .v (.int .i64 0)⟩
  | 75 => ⟨.sc, 1, 8, [.nilFunc], default⟩
  | 79 => ⟨.st [(0, 5), (5, 5), (10, 1), (11, 1)], 12, 256, [.int .i64 0, .slice none 0 0, .slice none 0 0, .slice none 0 0, .slice none 0 0, .int .i64 0, .slice none 0 0, .slice none 0 0, .slice none 0 0, .slice none 0 0, .slice none 0 0, .slice none 0 0], default⟩
  | 80 => ⟨.st [(0, 5), (5, 5), (10, 1), (11, 1)], 12, 256, [.int .i64 0, .slice none 0 0, .slice none 0 0, .slice none 0 0, .slice none 0 0, .int .i64 0, .slice none 0 0, .slice none 0 0, .slice none 0 0, .slice none 0 0, .slice none 0 0, .slice none 0 0], default⟩
  | 83 => ⟨.sli 54 1 8 [.pointer none], 1, 24, [.slice none 0 0], .v (.pointer none)⟩
  | 84 => ⟨.sc, 1, 8, [.nilFunc], default⟩
  | 88 => ⟨.sli 91 4 64 [.int .i64 0, .int .i64 0, .slice none 0 0, .slice none 0 0], 1, 24, [.slice none 0 0], .v (.int .i64 0)⟩
  | 90 => ⟨.st [(0, 1), (1, 1), (2, 1), (3, 1)], 4, 64, [.int .i64 0, .int .i64 0, .slice none 0 0, .slice none 0 0], default⟩
  | 91 => ⟨.st [(0, 1), (1, 1), (2, 1), (3, 1)], 4, 64, [.int .i64 0, .int .i64 0, .slice none 0 0, .slice none 0 0], default⟩
  | 94 => ⟨.st [(0, 1), (1, 1), (2, 1)], 3, 40, [.int .i64 0, .int .i64 0, .slice none 0 0], default⟩
  | 95 => ⟨.st [(0, 1), (1, 1), (2, 1)], 3, 40, [.int .i64 0, .int .i64 0, .slice none 0 0], default⟩
  | 96 => ⟨.sc, 1, 8, [.pointer none], default⟩
  | 97 => ⟨.sc, 1, 8, [.map none], default⟩
  | 98 => ⟨.sc, 1, 8, [.nilFunc], default⟩
  | 99 => ⟨.st [(0, 1), (1, 1), (2, 1), (3, 1)], 4, 64, [.slice none 0 0, .map none, .slice none 0 0, .nilFunc], default⟩
  | 100 => ⟨.st [(0, 1), (1, 1), (2, 1), (3, 1)], 4, 64, [.slice none 0 0, .map none, .slice none 0 0, .nilFunc], default⟩
  | 106 => ⟨.sli 80 12 256 [.int .i64 0, .slice none 0 0, .slice none 0 0, .slice none 0 0, .slice none 0 0, .int .i64 0, .slice none 0 0, .slice none 0 0, .slice none 0 0, .slice none 0 0, .slice none 0 0, .slice none 0 0], 1, 24, [.slice none 0 0], .v (.int .i64 0)⟩
  | 112 => ⟨.sc, 1, 8, [.nilFunc], default⟩
  | 113 => ⟨.sc, 1, 8, [.pointer none], default⟩
  | 114 => ⟨.st [(0, 1), (1, 1), (2, 1), (3, 1), (4, 1)], 5, 104, [.slice none 0 0, .slice none 0 0, .slice none 0 0, .int .i64 0, .slice none 0 0], default⟩
  | 115 => ⟨.st [(0, 1), (1, 1), (2, 1), (3, 1), (4, 1)], 5, 104, [.slice none 0 0, .slice none 0 0, .slice none 0 0, .int .i64 0, .slice none 0 0], default⟩
  | 118 => ⟨.sc, 1, 8, [.nilFunc], default⟩
  | 120 => ⟨.sc, 1, 8, [.pointer none], default⟩
  | 121 => ⟨.sc, 1, 8, [.nilFunc], default⟩
  | 122 => ⟨.sc, 1, 8, [.nilFunc], default⟩
  | 123 => ⟨.sc, 1, 8, [.nilFunc], default⟩
  | 124 => ⟨.sc, 1, 8, [.nilFunc], default⟩
  | 125 => ⟨.sc, 1, 8, [.pointer none], default⟩
  | 126 => ⟨.st [(0, 5), (5, 5), (10, 1), (11, 1), (12, 1), (13, 1)], 14, 288, [.int .i64 0, .slice none 0 0, .slice none 0 0, .slice none 0 0, .slice none 0 0, .int .i64 0, .slice none 0 0, .slice none 0 0, .slice none 0 0, .slice none 0 0, .slice none 0 0, .slice none 0 0, .int .i64 0, .slice none 0 0], default⟩
  | 127 => ⟨.st [(0, 5), (5, 5), (10, 1), (11, 1), (12, 1), (13, 1)], 14, 288, [.int .i64 0, .slice none 0 0, .slice none 0 0, .slice none 0 0, .slice none 0 0, .int .i64 0, .slice none 0 0, .slice none 0 0, .slice none 0 0, .slice none 0 0, .slice none 0 0, .slice none 0 0, .int .i64 0, .slice none 0 0], default⟩
  | 131 => ⟨.sc, 1, 8, [.nilFunc], default⟩
  | 132 => ⟨.st [(0, 1), (1, 1)], 2, 16, [.int .i64 0, .int .i64 0], default⟩
  | 133 => ⟨.st [(0, 1), (1, 1)], 2, 16, [.int .i64 0, .int .i64 0], default⟩
  | 135 => ⟨.sc, 1, 8, [.nilFunc], default⟩
  | 142 => ⟨.sc, 1, 8, [.nilFunc], default⟩
  | 148 => ⟨.sc, 1, 8, [.nilFunc], default⟩
  | 152 => ⟨.sli 4 1 1 [.bool false], 1, 24, [.slice none 0 0], .v (.bool false)⟩
  | 154 => ⟨.sli 2 1 8 [.int .i64 0], 1, 24, [.slice none 0 0], .v (.int .i64 0)⟩
  | 157 => ⟨.sc, 1, 8, [.nilFunc], default⟩
  | 161 => ⟨.sc, 1, 8, [.pointer none], default⟩
  | 164 => ⟨.sc, 1, 8, [.nilFunc], default⟩
  | 165 => ⟨.sli 2 1 8 [.int .i64 0], 1, 24, [.slice none 0 0], .v (.int .i64 0)⟩
  | 167 => ⟨.sc, 1, 8, [.nilFunc], default⟩
  | 168 => ⟨.sc, 1, 8, [.nilFunc], default⟩
  | 170 => ⟨.st [(0, 1), (1, 1), (2, 1), (3, 1), (4, 1), (5, 1)], 6, 80, [.pointer none, .pointer none, .slice none 0 0, .slice none 0 0, .bool false, .nilFunc], default⟩
  | 171 => ⟨.st [(0, 1), (1, 1), (2, 1), (3, 1), (4, 1), (5, 1)], 6, 80, [.pointer none, .pointer none, .slice none 0 0, .slice none 0 0, .bool false, .nilFunc], default⟩
  | 174 => ⟨.sc, 1, 8, [.map none], default⟩
  | 177 => ⟨.st [(0, 1), (1, 1), (2, 1), (3, 1)], 4, 40, [.pointer none, .pointer none, .pointer none, .string ⟨#[]⟩], default⟩
  | 178 => ⟨.st [(0, 1), (1, 1), (2, 1), (3, 1)], 4, 40, [.pointer none, .pointer none, .pointer none, .string ⟨#[]⟩], default⟩
  | 183 => ⟨.ik .u32, 1, 4, [.int .u32 0], default⟩
  | 184 => ⟨.ik .u8, 1, 1, [.int .u8 0], default⟩
  | 185 => ⟨.ik .u8, 1, 1, [.int .u8 0], default⟩
  | 187 => ⟨.sc, 1, 8, [.pointer none], default⟩
  | 188 => ⟨.ik .i32, 1, 4, [.int .i32 0], default⟩
  | 189 => ⟨.ik .i32, 1, 4, [.int .i32 0], default⟩
  | 190 => ⟨.st [(0, 1), (1, 1), (2, 1), (3, 1), (4, 1), (5, 1), (6, 1), (7, 1), (8, 1), (9, 1), (10, 1)], 11, 48, [.int .u64 0, .int .u64 0, .int .u32 0, .int .u8 0, .int .u8 0, .int .u8 0, .int .u8 0, .nilFunc, .pointer none, .int .i32 0, .int .i32 0], default⟩
  | 191 => ⟨.st [(0, 1), (1, 1), (2, 1), (3, 1), (4, 1), (5, 1), (6, 1), (7, 1), (8, 1), (9, 1), (10, 1)], 11, 48, [.int .u64 0, .int .u64 0, .int .u32 0, .int .u8 0, .int .u8 0, .int .u8 0, .int .u8 0, .nilFunc, .pointer none, .int .i32 0, .int .i32 0], default⟩
  | _ => Ti.no
@[go_sem] theorem tenv2 : tenv 2 = ⟨.ik .i64, 1, 8, [.int .i64 0], default⟩ := rfl
@[go_sem] theorem tenv3 : tenv 3 = ⟨.ik .i64, 1, 8, [.int .i64 0], default⟩ := rfl
@[go_sem] theorem tenv4 : tenv 4 = ⟨.bk, 1, 1, [.bool false], default⟩ := rfl
@[go_sem] theorem tenv5 : tenv 5 = ⟨.ik .u8, 1, 1, [.int .u8 0], default⟩ := rfl
@[go_sem] theorem tenv6 : tenv 6 = ⟨.ik .u8, 1, 1, [.int .u8 0], default⟩ := rfl
@[go_sem] theorem tenv7 : tenv 7 = ⟨.st [(0, 1), (1, 1), (2, 1), (3, 1)], 4, 24, [.int .i64 0, .int .i64 0, .bool false, .int .u8 0], default⟩ := rfl
@[go_sem] theorem tenv8 : tenv 8 = ⟨.st [(0, 1), (1, 1), (2, 1), (3, 1)], 4, 24, [.int .i64 0, .int .i64 0, .bool false, .int .u8 0], default⟩ := rfl
@[go_sem] theorem tenv9 : tenv 9 = ⟨.strk, 1, 16, [.string ⟨#[]⟩], default⟩ := rfl
@[go_sem] theorem tenv10 : tenv 10 = ⟨.strk, 1, 16, [.string ⟨#[]⟩], default⟩ := rfl
@[go_sem] theorem tenv11 : tenv 11 = ⟨.strk, 1, 16, [.string ⟨#[]⟩], default⟩ := rfl
@[go_sem] theorem tenv12 : tenv 12 = ⟨.ik .u64, 1, 8, [.int .u64 0], default⟩ := rfl
@[go_sem] theorem tenv13 : tenv 13 = ⟨.st [(0, 1), (1, 1)], 2, 24, [.string ⟨#[]⟩, .int .u64 0], default⟩ := rfl
@[go_sem] theorem tenv14 : tenv 14 = ⟨.st [(0, 1), (1, 1)], 2, 24, [.string ⟨#[]⟩, .int .u64 0], default⟩ := rfl
@[go_sem] theorem tenv15 : tenv 15 = ⟨.sc, 1, 8, [.pointer none], default⟩ := rfl
@[go_sem] theorem tenv16 : tenv 16 = ⟨.sc, 1, 8, [.pointer none], default⟩ := rfl
@[go_sem] theorem tenv17 : tenv 17 = ⟨.sc, 1, 8, [.pointer none], default⟩ := rfl
@[go_sem] theorem tenv18 : tenv 18 = ⟨.st [(0, 1)], 1, 8, [.pointer none], default⟩ := rfl
@[go_sem] theorem tenv19 : tenv 19 = ⟨.st [(0, 1)], 1, 8, [.pointer none], default⟩ := rfl
@[go_sem] theorem tenv21 : tenv 21 = ⟨.ik .i32, 1, 4, [.int .i32 0], default⟩ := rfl
@[go_sem] theorem tenv22 : tenv 22 = ⟨.sli 2 1 8 [.int .i64 0], 1, 24, [.slice none 0 0], .v (.int .i64 0)⟩ := rfl
@[go_sem] theorem tenv23 : tenv 23 = ⟨.sli 22 1 24 [.slice none 0 0], 1, 24, [.slice none 0 0], .sl 1 (.v (.int .i64 0)) []⟩ := rfl
@[go_sem] theorem tenv24 : tenv 24 = ⟨.st [(0, 1), (1, 1), (2, 1), (3, 1), (4, 1)], 5, 104, [.int .i64 0, .slice none 0 0, .slice none 0 0, .slice none 0 0, .slice none 0 0], default⟩ := rfl
@[go_sem] theorem tenv25 : tenv 25 = ⟨.st [(0, 1), (1, 1), (2, 1), (3, 1), (4, 1)], 5, 104, [.int .i64 0, .slice none 0 0, .slice none 0 0, .slice none 0 0, .slice none 0 0], default⟩ := rfl
@[go_sem] theorem tenv29 : tenv 29 = ⟨.st [(0, 1), (1, 1), (2, 1), (3, 1), (4, 1)], 5, 104, [.int .i64 0, .slice none 0 0, .slice none 0 0, .slice none 0 0, .slice none 0 0], default⟩ := rfl
@[go_sem] theorem tenv33 : tenv 33 = ⟨.sli 23 1 24 [.slice none 0 0], 1, 24, [.slice none 0 0], .sl 1 (.sl 1 (.v (.int .i64 0)) []) []⟩ := rfl
@[go_sem] theorem tenv34 : tenv 34 = ⟨.st [(0, 5), (5, 5), (10, 1), (11, 1), (12, 1)], 13, 280, [.int .i64 0, .slice none 0 0, .slice none 0 0, .slice none 0 0, .slice none 0 0, .int .i64 0, .slice none 0 0, .slice none 0 0, .slice none 0 0, .slice none 0 0, .slice none 0 0, .slice none 0 0, .slice none 0 0], default⟩ := rfl
@[go_sem] theorem tenv35 : tenv 35 = ⟨.st [(0, 5), (5, 5), (10, 1), (11, 1), (12, 1)], 13, 280, [.int .i64 0, .slice none 0 0, .slice none 0 0, .slice none 0 0, .slice none 0 0, .int .i64 0, .slice none 0 0, .slice none 0 0, .slice none 0 0, .slice none 0 0, .slice none 0 0, .slice none 0 0, .slice none 0 0], default⟩ := rfl
@[go_sem] theorem tenv37 : tenv 37 = ⟨.sli 33 1 24 [.slice none 0 0], 1, 24, [.slice none 0 0], .sl 1 (.sl 1 (.sl 1 (.v (.int .i64 0)) []) []) []⟩ := rfl
@[go_sem] theorem tenv40 : tenv 40 = ⟨.st [(0, 5), (5, 5), (10, 1), (11, 1), (12, 1)], 13, 280, [.int .i64 0, .slice none 0 0, .slice none 0 0, .slice none 0 0, .slice none 0 0, .int .i64 0, .slice none 0 0, .slice none 0 0, .slice none 0 0, .slice none 0 0, .slice none 0 0, .slice none 0 0, .slice none 0 0], default⟩ := rfl
@[go_sem] theorem tenv41 : tenv 41 = ⟨.st [(0, 5), (5, 5), (10, 1), (11, 1), (12, 1)], 13, 280, [.int .i64 0, .slice none 0 0, .slice none 0 0, .slice none 0 0, .slice none 0 0, .int .i64 0, .slice none 0 0, .slice none 0 0, .slice none 0 0, .slice none 0 0, .slice none 0 0, .slice none 0 0, .slice none 0 0], default⟩ := rfl
@[go_sem] theorem tenv43 : tenv 43 = ⟨.sc, 1, 8, [.nilFunc], default⟩ := rfl
@[go_sem] theorem tenv54 : tenv 54 = ⟨.sc, 1, 8, [.pointer none], default⟩ := rfl
@[go_sem] theorem tenv56 : tenv 56 = ⟨.sc, 1, 8, [.nilFunc], default⟩ := rfl
@[go_sem] theorem tenv57 : tenv 57 = ⟨.sc, 1, 8, [.nilFunc], default⟩ := rfl
@[go_sem] theorem tenv65 : tenv 65 = ⟨.sc, 1, 8, [.pointer none], default⟩ := rfl
@[go_sem] theorem tenv68 : tenv 68 = ⟨.sli 95 3 40 [.int .i64 0, .int .i64 0, .slice none 0 0], 1, 24, [.slice none 0 0], .v (.int .i64 0)⟩ := rfl
@[go_sem] theorem tenv75 : tenv 75 = ⟨.sc, 1, 8, [.nilFunc], default⟩ := rfl
@[go_sem] theorem tenv79 : tenv 79 = ⟨.st [(0, 5), (5, 5), (10, 1), (11, 1)], 12, 256, [.int .i64 0, .slice none 0 0, .slice none 0 0, .slice none 0 0, .slice none 0 0, .int .i64 0, .slice none 0 0, .slice none 0 0, .slice none 0 0, .slice none 0 0, .slice none 0 0, .slice none 0 0], default⟩ := rfl
@[go_sem] theorem tenv80 : tenv 80 = ⟨.st [(0, 5), (5, 5), (10, 1), (11, 1)], 12, 256, [.int .i64 0, .slice none 0 0, .slice none 0 0, .slice none 0 0, .slice none 0 0, .int .i64 0, .slice none 0 0, .slice none 0 0, .slice none 0 0, .slice none 0 0, .slice none 0 0, .slice none 0 0], default⟩ := rfl
@[go_sem] theorem tenv83 : tenv 83 = ⟨.sli 54 1 8 [.pointer none], 1, 24, [.slice none 0 0], .v (.pointer none)⟩ := rfl
@[go_sem] theorem tenv84 : tenv 84 = ⟨.sc, 1, 8, [.nilFunc], default⟩ := rfl
@[go_sem] theorem tenv88 : tenv 88 = ⟨.sli 91 4 64 [.int .i64 0, .int .i64 0, .slice none 0 0, .slice none 0 0], 1, 24, [.slice none 0 0], .v (.int .i64 0)⟩ := rfl
@[go_sem] theorem tenv90 : tenv 90 = ⟨.st [(0, 1), (1, 1), (2, 1), (3, 1)], 4, 64, [.int .i64 0, .int .i64 0, .slice none 0 0, .slice none 0 0], default⟩ := rfl
@[go_sem] theorem tenv91 : tenv 91 = ⟨.st [(0, 1), (1, 1), (2, 1), (3, 1)], 4, 64, [.int .i64 0, .int .i64 0, .slice none 0 0, .slice none 0 0], default⟩ := rfl
@[go_sem] theorem tenv94 : tenv 94 = ⟨.st [(0, 1), (1, 1), (2, 1)], 3, 40, [.int .i64 0, .int .i64 0, .slice none 0 0], default⟩ := rfl
@[go_sem] theorem tenv95 : tenv 95 = ⟨.st [(0, 1), (1, 1), (2, 1)], 3, 40, [.int .i64 0, .int .i64 0, .slice none 0 0], default⟩ := rfl
@[go_sem] theorem tenv96 : tenv 96 = ⟨.sc, 1, 8, [.pointer none], default⟩ := rfl
@[go_sem] theorem tenv97 : tenv 97 = ⟨.sc, 1, 8, [.map none], default⟩ := rfl
@[go_sem] theorem tenv98 : tenv 98 = ⟨.sc, 1, 8, [.nilFunc], default⟩ := rfl
@[go_sem] theorem tenv99 : tenv 99 = ⟨.st [(0, 1), (1, 1), (2, 1), (3, 1)], 4, 64, [.slice none 0 0, .map none, .slice none 0 0, .nilFunc], default⟩ := rfl
@[go_sem] theorem tenv100 : tenv 100 = ⟨.st [(0, 1), (1, 1), (2, 1), (3, 1)], 4, 64, [.slice none 0 0, .map none, .slice none 0 0, .nilFunc], default⟩ := rfl
@[go_sem] theorem tenv106 : tenv 106 = ⟨.sli 80 12 256 [.int .i64 0, .slice none 0 0, .slice none 0 0, .slice none 0 0, .slice none 0 0, .int .i64 0, .slice none 0 0, .slice none 0 0, .slice none 0 0, .slice none 0 0, .slice none 0 0, .slice none 0 0], 1, 24, [.slice none 0 0], .v (.int .i64 0)⟩ := rfl
@[go_sem] theorem tenv112 : tenv 112 = ⟨.sc, 1, 8, [.nilFunc], default⟩ := rfl
@[go_sem] theorem tenv113 : tenv 113 = ⟨.sc, 1, 8, [.pointer none], default⟩ := rfl
@[go_sem] theorem tenv114 : tenv 114 = ⟨.st [(0, 1), (1, 1), (2, 1), (3, 1), (4, 1)], 5, 104, [.slice none 0 0, .slice none 0 0, .slice none 0 0, .int .i64 0, .slice none 0 0], default⟩ := rfl
@[go_sem] theorem tenv115 : tenv 115 = ⟨.st [(0, 1), (1, 1), (2, 1), (3, 1), (4, 1)], 5, 104, [.slice none 0 0, .slice none 0 0, .slice none 0 0, .int .i64 0, .slice none 0 0], default⟩ := rfl
@[go_sem] theorem tenv118 : tenv 118 = ⟨.sc, 1, 8, [.nilFunc], default⟩ := rfl
@[go_sem] theorem tenv120 : tenv 120 = ⟨.sc, 1, 8, [.pointer none], default⟩ := rfl
@[go_sem] theorem tenv121 : tenv 121 = ⟨.sc, 1, 8, [.nilFunc], default⟩ := rfl
@[go_sem] theorem tenv122 : tenv 122 = ⟨.sc, 1, 8, [.nilFunc], default⟩ := rfl
@[go_sem] theorem tenv123 : tenv 123 = ⟨.sc, 1, 8, [.nilFunc], default⟩ := rfl
@[go_sem] theorem tenv124 : tenv 124 = ⟨.sc, 1, 8, [.nilFunc], default⟩ := rfl
@[go_sem] theorem tenv125 : tenv 125 = ⟨.sc, 1, 8, [.pointer none], default⟩ := rfl
@[go_sem] theorem tenv126 : tenv 126 = ⟨.st [(0, 5), (5, 5), (10, 1), (11, 1), (12, 1), (13, 1)], 14, 288, [.int .i64 0, .slice none 0 0, .slice none 0 0, .slice none 0 0, .slice none 0 0, .int .i64 0, .slice none 0 0, .slice none 0 0, .slice none 0 0, .slice none 0 0, .slice none 0 0, .slice none 0 0, .int .i64 0, .slice none 0 0], default⟩ := rfl
@[go_sem] theorem tenv127 : tenv 127 = ⟨.st [(0, 5), (5, 5), (10, 1), (11, 1), (12, 1), (13, 1)], 14, 288, [.int .i64 0, .slice none 0 0, .slice none 0 0, .slice none 0 0, .slice none 0 0, .int .i64 0, .slice none 0 0, .slice none 0 0, .slice none 0 0, .slice none 0 0, .slice none 0 0, .slice none 0 0, .int .i64 0, .slice none 0 0], default⟩ := rfl
@[go_sem] theorem tenv131 : tenv 131 = ⟨.sc, 1, 8, [.nilFunc], default⟩ := rfl
@[go_sem] theorem tenv132 : tenv 132 = ⟨.st [(0, 1), (1, 1)], 2, 16, [.int .i64 0, .int .i64 0], default⟩ := rfl
@[go_sem] theorem tenv133 : tenv 133 = ⟨.st [(0, 1), (1, 1)], 2, 16, [.int .i64 0, .int .i64 0], default⟩ := rfl
@[go_sem] theorem tenv135 : tenv 135 = ⟨.sc, 1, 8, [.nilFunc], default⟩ := rfl
@[go_sem] theorem tenv142 : tenv 142 = ⟨.sc, 1, 8, [.nilFunc], default⟩ := rfl
@[go_sem] theorem tenv148 : tenv 148 = ⟨.sc, 1, 8, [.nilFunc], default⟩ := rfl
@[go_sem] theorem tenv152 : tenv 152 = ⟨.sli 4 1 1 [.bool false], 1, 24, [.slice none 0 0], .v (.bool false)⟩ := rfl
@[go_sem] theorem tenv154 : tenv 154 = ⟨.sli 2 1 8 [.int .i64 0], 1, 24, [.slice none 0 0], .v (.int .i64 0)⟩ := rfl
@[go_sem] theorem tenv157 : tenv 157 = ⟨.sc, 1, 8, [.nilFunc], default⟩ := rfl
@[go_sem] theorem tenv161 : tenv 161 = ⟨.sc, 1, 8, [.pointer none], default⟩ := rfl
@[go_sem] theorem tenv164 : tenv 164 = ⟨.sc, 1, 8, [.nilFunc], default⟩ := rfl
@[go_sem] theorem tenv165 : tenv 165 = ⟨.sli 2 1 8 [.int .i64 0], 1, 24, [.slice none 0 0], .v (.int .i64 0)⟩ := rfl
@[go_sem] theorem tenv167 : tenv 167 = ⟨.sc, 1, 8, [.nilFunc], default⟩ := rfl
@[go_sem] theorem tenv168 : tenv 168 = ⟨.sc, 1, 8, [.nilFunc], default⟩ := rfl
@[go_sem] theorem tenv170 : tenv 170 = ⟨.st [(0, 1), (1, 1), (2, 1), (3, 1), (4, 1), (5, 1)], 6, 80, [.pointer none, .pointer none, .slice none 0 0, .slice none 0 0, .bool false, .nilFunc], default⟩ := rfl
@[go_sem] theorem tenv171 : tenv 171 = ⟨.st [(0, 1), (1, 1), (2, 1), (3, 1), (4, 1), (5, 1)], 6, 80, [.pointer none, .pointer none, .slice none 0 0, .slice none 0 0, .bool false, .nilFunc], default⟩ := rfl
@[go_sem] theorem tenv174 : tenv 174 = ⟨.sc, 1, 8, [.map none], default⟩ := rfl
@[go_sem] theorem tenv177 : tenv 177 = ⟨.st [(0, 1), (1, 1), (2, 1), (3, 1)], 4, 40, [.pointer none, .pointer none, .pointer none, .string ⟨#[]⟩], default⟩ := rfl
@[go_sem] theorem tenv178 : tenv 178 = ⟨.st [(0, 1), (1, 1), (2, 1), (3, 1)], 4, 40, [.pointer none, .pointer none, .pointer none, .string ⟨#[]⟩], default⟩ := rfl
@[go_sem] theorem tenv183 : tenv 183 = ⟨.ik .u32, 1, 4, [.int .u32 0], default⟩ := rfl
@[go_sem] theorem tenv184 : tenv 184 = ⟨.ik .u8, 1, 1, [.int .u8 0], default⟩ := rfl
@[go_sem] theorem tenv185 : tenv 185 = ⟨.ik .u8, 1, 1, [.int .u8 0], default⟩ := rfl
@[go_sem] theorem tenv187 : tenv 187 = ⟨.sc, 1, 8, [.pointer none], default⟩ := rfl
@[go_sem] theorem tenv188 : tenv 188 = ⟨.ik .i32, 1, 4, [.int .i32 0], default⟩ := rfl
@[go_sem] theorem tenv189 : tenv 189 = ⟨.ik .i32, 1, 4, [.int .i32 0], default⟩ := rfl
@[go_sem] theorem tenv190 : tenv 190 = ⟨.st [(0, 1), (1, 1), (2, 1), (3, 1), (4, 1), (5, 1), (6, 1), (7, 1), (8, 1), (9, 1), (10, 1)], 11, 48, [.int .u64 0, .int .u64 0, .int .u32 0, .int .u8 0, .int .u8 0, .int .u8 0, .int .u8 0, .nilFunc, .pointer none, .int .i32 0, .int .i32 0], default⟩ := rfl
@[go_sem] theorem tenv191 : tenv 191 = ⟨.st [(0, 1), (1, 1), (2, 1), (3, 1), (4, 1), (5, 1), (6, 1), (7, 1), (8, 1), (9, 1), (10, 1)], 11, 48, [.int .u64 0, .int .u64 0, .int .u32 0, .int .u8 0, .int .u8 0, .int .u8 0, .int .u8 0, .nilFunc, .pointer none, .int .i32 0, .int .i32 0], default⟩ := rfl
set_option maxRecDepth 100000 in
theorem ty2 : TiOk Try.prog 2 (tenv 2) := ⟨⟨_, _, Try.type2, rfl, rfl, rfl, rfl⟩, Try.underlying2⟩
set_option maxRecDepth 100000 in
theorem ty3 : TiOk Try.prog 3 (tenv 3) := ⟨⟨_, _, Try.type3, rfl, rfl, rfl, rfl⟩, Try.underlying3⟩
set_option maxRecDepth 100000 in
theorem ty4 : TiOk Try.prog 4 (tenv 4) := ⟨⟨_, _, Try.type4, rfl, rfl, rfl, rfl⟩, Try.underlying4⟩
set_option maxRecDepth 100000 in
theorem ty5 : TiOk Try.prog 5 (tenv 5) := ⟨⟨_, _, Try.type5, rfl, rfl, rfl, rfl⟩, Try.underlying5⟩
set_option maxRecDepth 100000 in
theorem ty6 : TiOk Try.prog 6 (tenv 6) := ⟨⟨_, _, Try.type6, rfl, rfl, rfl, rfl⟩, Try.underlying6⟩
set_option maxRecDepth 100000 in
theorem ty7 : TiOk Try.prog 7 (tenv 7) := ⟨⟨_, _, Try.type7, rfl, rfl, rfl, rfl⟩, _, Try.underlying7, rfl, by kernel_rfl, rfl⟩
set_option maxRecDepth 100000 in
theorem ty8 : TiOk Try.prog 8 (tenv 8) := ⟨⟨_, _, Try.type8, rfl, rfl, rfl, rfl⟩, _, Try.underlying8, rfl, by kernel_rfl, rfl⟩
set_option maxRecDepth 100000 in
theorem ty9 : TiOk Try.prog 9 (tenv 9) := ⟨⟨_, _, Try.type9, rfl, rfl, rfl, rfl⟩, Try.underlying9⟩
set_option maxRecDepth 100000 in
theorem ty10 : TiOk Try.prog 10 (tenv 10) := ⟨⟨_, _, Try.type10, rfl, rfl, rfl, rfl⟩, Try.underlying10⟩
set_option maxRecDepth 100000 in
theorem ty11 : TiOk Try.prog 11 (tenv 11) := ⟨⟨_, _, Try.type11, rfl, rfl, rfl, rfl⟩, Try.underlying11⟩
set_option maxRecDepth 100000 in
theorem ty12 : TiOk Try.prog 12 (tenv 12) := ⟨⟨_, _, Try.type12, rfl, rfl, rfl, rfl⟩, Try.underlying12⟩
set_option maxRecDepth 100000 in
theorem ty13 : TiOk Try.prog 13 (tenv 13) := ⟨⟨_, _, Try.type13, rfl, rfl, rfl, rfl⟩, _, Try.underlying13, rfl, by kernel_rfl, rfl⟩
set_option maxRecDepth 100000 in
theorem ty14 : TiOk Try.prog 14 (tenv 14) := ⟨⟨_, _, Try.type14, rfl, rfl, rfl, rfl⟩, _, Try.underlying14, rfl, by kernel_rfl, rfl⟩
set_option maxRecDepth 100000 in
theorem ty15 : TiOk Try.prog 15 (tenv 15) := ⟨⟨_, _, Try.type15, rfl, rfl, rfl, rfl⟩, _, Try.underlying15, trivial⟩
set_option maxRecDepth 100000 in
theorem ty16 : TiOk Try.prog 16 (tenv 16) := ⟨⟨_, _, Try.type16, rfl, rfl, rfl, rfl⟩, _, Try.underlying16, trivial⟩
set_option maxRecDepth 100000 in
theorem ty17 : TiOk Try.prog 17 (tenv 17) := ⟨⟨_, _, Try.type17, rfl, rfl, rfl, rfl⟩, _, Try.underlying17, trivial⟩
set_option maxRecDepth 100000 in
theorem ty18 : TiOk Try.prog 18 (tenv 18) := ⟨⟨_, _, Try.type18, rfl, rfl, rfl, rfl⟩, _, Try.underlying18, rfl, by kernel_rfl, rfl⟩
set_option maxRecDepth 100000 in
theorem ty19 : TiOk Try.prog 19 (tenv 19) := ⟨⟨_, _, Try.type19, rfl, rfl, rfl, rfl⟩, _, Try.underlying19, rfl, by kernel_rfl, rfl⟩
set_option maxRecDepth 100000 in
theorem ty21 : TiOk Try.prog 21 (tenv 21) := ⟨⟨_, _, Try.type21, rfl, rfl, rfl, rfl⟩, Try.underlying21⟩
set_option maxRecDepth 100000 in
theorem ty22 : TiOk Try.prog 22 (tenv 22) := ⟨⟨_, _, Try.type22, rfl, rfl, rfl, rfl⟩, Try.underlying22, ⟨_, _, Try.type2, rfl, rfl, rfl, rfl⟩⟩
set_option maxRecDepth 100000 in
theorem ty23 : TiOk Try.prog 23 (tenv 23) := ⟨⟨_, _, Try.type23, rfl, rfl, rfl, rfl⟩, Try.underlying23, ⟨_, _, Try.type22, rfl, rfl, rfl, rfl⟩⟩
set_option maxRecDepth 100000 in
theorem ty24 : TiOk Try.prog 24 (tenv 24) := ⟨⟨_, _, Try.type24, rfl, rfl, rfl, rfl⟩, _, Try.underlying24, rfl, by kernel_rfl, rfl⟩
set_option maxRecDepth 100000 in
theorem ty25 : TiOk Try.prog 25 (tenv 25) := ⟨⟨_, _, Try.type25, rfl, rfl, rfl, rfl⟩, _, Try.underlying25, rfl, by kernel_rfl, rfl⟩
set_option maxRecDepth 100000 in
theorem ty29 : TiOk Try.prog 29 (tenv 29) := ⟨⟨_, _, Try.type29, rfl, rfl, rfl, rfl⟩, _, Try.underlying29, rfl, by kernel_rfl, rfl⟩
set_option maxRecDepth 100000 in
theorem ty33 : TiOk Try.prog 33 (tenv 33) := ⟨⟨_, _, Try.type33, rfl, rfl, rfl, rfl⟩, Try.underlying33, ⟨_, _, Try.type23, rfl, rfl, rfl, rfl⟩⟩
set_option maxRecDepth 100000 in
theorem ty34 : TiOk Try.prog 34 (tenv 34) := ⟨⟨_, _, Try.type34, rfl, rfl, rfl, rfl⟩, _, Try.underlying34, rfl, by kernel_rfl, rfl⟩
set_option maxRecDepth 100000 in
theorem ty35 : TiOk Try.prog 35 (tenv 35) := ⟨⟨_, _, Try.type35, rfl, rfl, rfl, rfl⟩, _, Try.underlying35, rfl, by kernel_rfl, rfl⟩
set_option maxRecDepth 100000 in
theorem ty37 : TiOk Try.prog 37 (tenv 37) := ⟨⟨_, _, Try.type37, rfl, rfl, rfl, rfl⟩, Try.underlying37, ⟨_, _, Try.type33, rfl, rfl, rfl, rfl⟩⟩
set_option maxRecDepth 100000 in
theorem ty40 : TiOk Try.prog 40 (tenv 40) := ⟨⟨_, _, Try.type40, rfl, rfl, rfl, rfl⟩, _, Try.underlying40, rfl, by kernel_rfl, rfl⟩
set_option maxRecDepth 100000 in
theorem ty41 : TiOk Try.prog 41 (tenv 41) := ⟨⟨_, _, Try.type41, rfl, rfl, rfl, rfl⟩, _, Try.underlying41, rfl, by kernel_rfl, rfl⟩
set_option maxRecDepth 100000 in
theorem ty43 : TiOk Try.prog 43 (tenv 43) := ⟨⟨_, _, Try.type43, rfl, rfl, rfl, rfl⟩, _, Try.underlying43, trivial⟩
set_option maxRecDepth 100000 in
theorem ty54 : TiOk Try.prog 54 (tenv 54) := ⟨⟨_, _, Try.type54, rfl, rfl, rfl, rfl⟩, _, Try.underlying54, trivial⟩
set_option maxRecDepth 100000 in
theorem ty56 : TiOk Try.prog 56 (tenv 56) := ⟨⟨_, _, Try.type56, rfl, rfl, rfl, rfl⟩, _, Try.underlying56, trivial⟩
set_option maxRecDepth 100000 in
theorem ty57 : TiOk Try.prog 57 (tenv 57) := ⟨⟨_, _, Try.type57, rfl, rfl, rfl, rfl⟩, _, Try.underlying57, trivial⟩
set_option maxRecDepth 100000 in
theorem ty65 : TiOk Try.prog 65 (tenv 65) := ⟨⟨_, _, Try.type65, rfl, rfl, rfl, rfl⟩, _, Try.underlying65, trivial⟩
set_option maxRecDepth 100000 in
theorem ty68 : TiOk Try.prog 68 (tenv 68) := ⟨⟨_, _, Try.type68, rfl, rfl, rfl, rfl⟩, Try.underlying68, ⟨_, _, Try.type95, rfl, rfl, rfl, rfl⟩⟩
set_option maxRecDepth 100000 in
theorem ty75 : TiOk Try.prog 75 (tenv 75) := ⟨⟨_, _, Try.type75, rfl, rfl, rfl, rfl⟩, _, Try.underlying75, trivial⟩
set_option maxRecDepth 100000 in
theorem ty79 : TiOk Try.prog 79 (tenv 79) := ⟨⟨_, _, Try.type79, rfl, rfl, rfl, rfl⟩, _, Try.underlying79, rfl, by kernel_rfl, rfl⟩
set_option maxRecDepth 100000 in
theorem ty80 : TiOk Try.prog 80 (tenv 80) := ⟨⟨_, _, Try.type80, rfl, rfl, rfl, rfl⟩, _, Try.underlying80, rfl, by kernel_rfl, rfl⟩
set_option maxRecDepth 100000 in
theorem ty83 : TiOk Try.prog 83 (tenv 83) := ⟨⟨_, _, Try.type83, rfl, rfl, rfl, rfl⟩, Try.underlying83, ⟨_, _, Try.type54, rfl, rfl, rfl, rfl⟩⟩
set_option maxRecDepth 100000 in
theorem ty84 : TiOk Try.prog 84 (tenv 84) := ⟨⟨_, _, Try.type84, rfl, rfl, rfl, rfl⟩, _, Try.underlying84, trivial⟩
set_option maxRecDepth 100000 in
theorem ty88 : TiOk Try.prog 88 (tenv 88) := ⟨⟨_, _, Try.type88, rfl, rfl, rfl, rfl⟩, Try.underlying88, ⟨_, _, Try.type91, rfl, rfl, rfl, rfl⟩⟩
set_option maxRecDepth 100000 in
theorem ty90 : TiOk Try.prog 90 (tenv 90) := ⟨⟨_, _, Try.type90, rfl, rfl, rfl, rfl⟩, _, Try.underlying90, rfl, by kernel_rfl, rfl⟩
set_option maxRecDepth 100000 in
theorem ty91 : TiOk Try.prog 91 (tenv 91) := ⟨⟨_, _, Try.type91, rfl, rfl, rfl, rfl⟩, _, Try.underlying91, rfl, by kernel_rfl, rfl⟩
set_option maxRecDepth 100000 in
theorem ty94 : TiOk Try.prog 94 (tenv 94) := ⟨⟨_, _, Try.type94, rfl, rfl, rfl, rfl⟩, _, Try.underlying94, rfl, by kernel_rfl, rfl⟩
set_option maxRecDepth 100000 in
theorem ty95 : TiOk Try.prog 95 (tenv 95) := ⟨⟨_, _, Try.type95, rfl, rfl, rfl, rfl⟩, _, Try.underlying95, rfl, by kernel_rfl, rfl⟩
set_option maxRecDepth 100000 in
theorem ty96 : TiOk Try.prog 96 (tenv 96) := ⟨⟨_, _, Try.type96, rfl, rfl, rfl, rfl⟩, _, Try.underlying96, trivial⟩
set_option maxRecDepth 100000 in
theorem ty97 : TiOk Try.prog 97 (tenv 97) := ⟨⟨_, _, Try.type97, rfl, rfl, rfl, rfl⟩, _, Try.underlying97, trivial⟩
set_option maxRecDepth 100000 in
theorem ty98 : TiOk Try.prog 98 (tenv 98) := ⟨⟨_, _, Try.type98, rfl, rfl, rfl, rfl⟩, _, Try.underlying98, trivial⟩
set_option maxRecDepth 100000 in
theorem ty99 : TiOk Try.prog 99 (tenv 99) := ⟨⟨_, _, Try.type99, rfl, rfl, rfl, rfl⟩, _, Try.underlying99, rfl, by kernel_rfl, rfl⟩
set_option maxRecDepth 100000 in
theorem ty100 : TiOk Try.prog 100 (tenv 100) := ⟨⟨_, _, Try.type100, rfl, rfl, rfl, rfl⟩, _, Try.underlying100, rfl, by kernel_rfl, rfl⟩
set_option maxRecDepth 100000 in
theorem ty106 : TiOk Try.prog 106 (tenv 106) := ⟨⟨_, _, Try.type106, rfl, rfl, rfl, rfl⟩, Try.underlying106, ⟨_, _, Try.type80, rfl, rfl, rfl, rfl⟩⟩
set_option maxRecDepth 100000 in
theorem ty112 : TiOk Try.prog 112 (tenv 112) := ⟨⟨_, _, Try.type112, rfl, rfl, rfl, rfl⟩, _, Try.underlying112, trivial⟩
set_option maxRecDepth 100000 in
theorem ty113 : TiOk Try.prog 113 (tenv 113) := ⟨⟨_, _, Try.type113, rfl, rfl, rfl, rfl⟩, _, Try.underlying113, trivial⟩
set_option maxRecDepth 100000 in
theorem ty114 : TiOk Try.prog 114 (tenv 114) := ⟨⟨_, _, Try.type114, rfl, rfl, rfl, rfl⟩, _, Try.underlying114, rfl, by kernel_rfl, rfl⟩
set_option maxRecDepth 100000 in
theorem ty115 : TiOk Try.prog 115 (tenv 115) := ⟨⟨_, _, Try.type115, rfl, rfl, rfl, rfl⟩, _, Try.underlying115, rfl, by kernel_rfl, rfl⟩
set_option maxRecDepth 100000 in
theorem ty118 : TiOk Try.prog 118 (tenv 118) := ⟨⟨_, _, Try.type118, rfl, rfl, rfl, rfl⟩, _, Try.underlying118, trivial⟩
set_option maxRecDepth 100000 in
theorem ty120 : TiOk Try.prog 120 (tenv 120) := ⟨⟨_, _, Try.type120, rfl, rfl, rfl, rfl⟩, _, Try.underlying120, trivial⟩
set_option maxRecDepth 100000 in
theorem ty121 : TiOk Try.prog 121 (tenv 121) := ⟨⟨_, _, Try.type121, rfl, rfl, rfl, rfl⟩, _, Try.underlying121, trivial⟩
set_option maxRecDepth 100000 in
theorem ty122 : TiOk Try.prog 122 (tenv 122) := ⟨⟨_, _, Try.type122, rfl, rfl, rfl, rfl⟩, _, Try.underlying122, trivial⟩
set_option maxRecDepth 100000 in
theorem ty123 : TiOk Try.prog 123 (tenv 123) := ⟨⟨_, _, Try.type123, rfl, rfl, rfl, rfl⟩, _, Try.underlying123, trivial⟩
set_option maxRecDepth 100000 in
theorem ty124 : TiOk Try.prog 124 (tenv 124) := ⟨⟨_, _, Try.type124, rfl, rfl, rfl, rfl⟩, _, Try.underlying124, trivial⟩
set_option maxRecDepth 100000 in
theorem ty125 : TiOk Try.prog 125 (tenv 125) := ⟨⟨_, _, Try.type125, rfl, rfl, rfl, rfl⟩, _, Try.underlying125, trivial⟩
set_option maxRecDepth 100000 in
theorem ty126 : TiOk Try.prog 126 (tenv 126) := ⟨⟨_, _, Try.type126, rfl, rfl, rfl, rfl⟩, _, Try.underlying126, rfl, by kernel_rfl, rfl⟩
set_option maxRecDepth 100000 in
theorem ty127 : TiOk Try.prog 127 (tenv 127) := ⟨⟨_, _, Try.type127, rfl, rfl, rfl, rfl⟩, _, Try.underlying127, rfl, by kernel_rfl, rfl⟩
set_option maxRecDepth 100000 in
theorem ty131 : TiOk Try.prog 131 (tenv 131) := ⟨⟨_, _, Try.type131, rfl, rfl, rfl, rfl⟩, _, Try.underlying131, trivial⟩
set_option maxRecDepth 100000 in
theorem ty132 : TiOk Try.prog 132 (tenv 132) := ⟨⟨_, _, Try.type132, rfl, rfl, rfl, rfl⟩, _, Try.underlying132, rfl, by kernel_rfl, rfl⟩
set_option maxRecDepth 100000 in
theorem ty133 : TiOk Try.prog 133 (tenv 133) := ⟨⟨_, _, Try.type133, rfl, rfl, rfl, rfl⟩, _, Try.underlying133, rfl, by kernel_rfl, rfl⟩
set_option maxRecDepth 100000 in
theorem ty135 : TiOk Try.prog 135 (tenv 135) := ⟨⟨_, _, Try.type135, rfl, rfl, rfl, rfl⟩, _, Try.underlying135, trivial⟩
set_option maxRecDepth 100000 in
theorem ty142 : TiOk Try.prog 142 (tenv 142) := ⟨⟨_, _, Try.type142, rfl, rfl, rfl, rfl⟩, _, Try.underlying142, trivial⟩
set_option maxRecDepth 100000 in
theorem ty148 : TiOk Try.prog 148 (tenv 148) := ⟨⟨_, _, Try.type148, rfl, rfl, rfl, rfl⟩, _, Try.underlying148, trivial⟩
set_option maxRecDepth 100000 in
theorem ty152 : TiOk Try.prog 152 (tenv 152) := ⟨⟨_, _, Try.type152, rfl, rfl, rfl, rfl⟩, Try.underlying152, ⟨_, _, Try.type4, rfl, rfl, rfl, rfl⟩⟩
set_option maxRecDepth 100000 in
theorem ty154 : TiOk Try.prog 154 (tenv 154) := ⟨⟨_, _, Try.type154, rfl, rfl, rfl, rfl⟩, Try.underlying154, ⟨_, _, Try.type2, rfl, rfl, rfl, rfl⟩⟩
set_option maxRecDepth 100000 in
theorem ty157 : TiOk Try.prog 157 (tenv 157) := ⟨⟨_, _, Try.type157, rfl, rfl, rfl, rfl⟩, _, Try.underlying157, trivial⟩
set_option maxRecDepth 100000 in
theorem ty161 : TiOk Try.prog 161 (tenv 161) := ⟨⟨_, _, Try.type161, rfl, rfl, rfl, rfl⟩, _, Try.underlying161, trivial⟩
set_option maxRecDepth 100000 in
theorem ty164 : TiOk Try.prog 164 (tenv 164) := ⟨⟨_, _, Try.type164, rfl, rfl, rfl, rfl⟩, _, Try.underlying164, trivial⟩
set_option maxRecDepth 100000 in
theorem ty165 : TiOk Try.prog 165 (tenv 165) := ⟨⟨_, _, Try.type165, rfl, rfl, rfl, rfl⟩, Try.underlying165, ⟨_, _, Try.type2, rfl, rfl, rfl, rfl⟩⟩
set_option maxRecDepth 100000 in
theorem ty167 : TiOk Try.prog 167 (tenv 167) := ⟨⟨_, _, Try.type167, rfl, rfl, rfl, rfl⟩, _, Try.underlying167, trivial⟩
set_option maxRecDepth 100000 in
theorem ty168 : TiOk Try.prog 168 (tenv 168) := ⟨⟨_, _, Try.type168, rfl, rfl, rfl, rfl⟩, _, Try.underlying168, trivial⟩
set_option maxRecDepth 100000 in
theorem ty170 : TiOk Try.prog 170 (tenv 170) := ⟨⟨_, _, Try.type170, rfl, rfl, rfl, rfl⟩, _, Try.underlying170, rfl, by kernel_rfl, rfl⟩
set_option maxRecDepth 100000 in
theorem ty171 : TiOk Try.prog 171 (tenv 171) := ⟨⟨_, _, Try.type171, rfl, rfl, rfl, rfl⟩, _, Try.underlying171, rfl, by kernel_rfl, rfl⟩
set_option maxRecDepth 100000 in
theorem ty174 : TiOk Try.prog 174 (tenv 174) := ⟨⟨_, _, Try.type174, rfl, rfl, rfl, rfl⟩, _, Try.underlying174, trivial⟩
set_option maxRecDepth 100000 in
theorem ty177 : TiOk Try.prog 177 (tenv 177) := ⟨⟨_, _, Try.type177, rfl, rfl, rfl, rfl⟩, _, Try.underlying177, rfl, by kernel_rfl, rfl⟩
set_option maxRecDepth 100000 in
theorem ty178 : TiOk Try.prog 178 (tenv 178) := ⟨⟨_, _, Try.type178, rfl, rfl, rfl, rfl⟩, _, Try.underlying178, rfl, by kernel_rfl, rfl⟩
set_option maxRecDepth 100000 in
theorem ty183 : TiOk Try.prog 183 (tenv 183) := ⟨⟨_, _, Try.type183, rfl, rfl, rfl, rfl⟩, Try.underlying183⟩
set_option maxRecDepth 100000 in
theorem ty184 : TiOk Try.prog 184 (tenv 184) := ⟨⟨_, _, Try.type184, rfl, rfl, rfl, rfl⟩, Try.underlying184⟩
set_option maxRecDepth 100000 in
theorem ty185 : TiOk Try.prog 185 (tenv 185) := ⟨⟨_, _, Try.type185, rfl, rfl, rfl, rfl⟩, Try.underlying185⟩
set_option maxRecDepth 100000 in
theorem ty187 : TiOk Try.prog 187 (tenv 187) := ⟨⟨_, _, Try.type187, rfl, rfl, rfl, rfl⟩, _, Try.underlying187, trivial⟩
set_option maxRecDepth 100000 in
theorem ty188 : TiOk Try.prog 188 (tenv 188) := ⟨⟨_, _, Try.type188, rfl, rfl, rfl, rfl⟩, Try.underlying188⟩
set_option maxRecDepth 100000 in
theorem ty189 : TiOk Try.prog 189 (tenv 189) := ⟨⟨_, _, Try.type189, rfl, rfl, rfl, rfl⟩, Try.underlying189⟩
set_option maxRecDepth 100000 in
theorem ty190 : TiOk Try.prog 190 (tenv 190) := ⟨⟨_, _, Try.type190, rfl, rfl, rfl, rfl⟩, _, Try.underlying190, rfl, by kernel_rfl, rfl⟩
set_option maxRecDepth 100000 in
theorem ty191 : TiOk Try.prog 191 (tenv 191) := ⟨⟨_, _, Try.type191, rfl, rfl, rfl, rfl⟩, _, Try.underlying191, rfl, by kernel_rfl, rfl⟩
theorem tok : ∀ t, TiOk Try.prog t (tenv t) := by
  intro t
  by_cases h : t ∈ [2, 3, 4, 5, 6, 7, 8, 9, 10, 11, 12, 13, 14, 15, 16, 17, 18, 19, 21, 22, 23, 24, 25, 29, 33, 34, 35, 37, 40, 41, 43, 54, 56, 57, 65, 68, 75, 79, 80, 83, 84, 88, 90, 91, 94, 95, 96, 97, 98, 99, 100, 106, 112, 113, 114, 115, 118, 120, 121, 122, 123, 124, 125, 126, 127, 131, 132, 133, 135, 142, 148, 152, 154, 157, 161, 164, 165, 167, 168, 170, 171, 174, 177, 178, 183, 184, 185, 187, 188, 189, 190, 191]
  · simp only [List.mem_cons, List.not_mem_nil, or_false] at h
    rcases h with rfl | rfl | rfl | rfl | rfl | rfl | rfl | rfl | rfl | rfl | rfl | rfl | rfl | rfl | rfl | rfl | rfl | rfl | rfl | rfl | rfl | rfl | rfl | rfl | rfl | rfl | rfl | rfl | rfl | rfl | rfl | rfl | rfl | rfl | rfl | rfl | rfl | rfl | rfl | rfl | rfl | rfl | rfl | rfl | rfl | rfl | rfl | rfl | rfl | rfl | rfl | rfl | rfl | rfl | rfl | rfl | rfl | rfl | rfl | rfl | rfl | rfl | rfl | rfl | rfl | rfl | rfl | rfl | rfl | rfl | rfl | rfl | rfl | rfl | rfl | rfl | rfl | rfl | rfl | rfl | rfl | rfl | rfl | rfl | rfl | rfl | rfl | rfl | rfl | rfl | rfl | rfl
    · exact ty2
    · exact ty3
    · exact ty4
    · exact ty5
    · exact ty6
    · exact ty7
    · exact ty8
    · exact ty9
    · exact ty10
    · exact ty11
    · exact ty12
    · exact ty13
    · exact ty14
    · exact ty15
    · exact ty16
    · exact ty17
    · exact ty18
    · exact ty19
    · exact ty21
    · exact ty22
    · exact ty23
    · exact ty24
    · exact ty25
    · exact ty29
    · exact ty33
    · exact ty34
    · exact ty35
    · exact ty37
    · exact ty40
    · exact ty41
    · exact ty43
    · exact ty54
    · exact ty56
    · exact ty57
    · exact ty65
    · exact ty68
    · exact ty75
    · exact ty79
    · exact ty80
    · exact ty83
    · exact ty84
    · exact ty88
    · exact ty90
    · exact ty91
    · exact ty94
    · exact ty95
    · exact ty96
    · exact ty97
    · exact ty98
    · exact ty99
    · exact ty100
    · exact ty106
    · exact ty112
    · exact ty113
    · exact ty114
    · exact ty115
    · exact ty118
    · exact ty120
    · exact ty121
    · exact ty122
    · exact ty123
    · exact ty124
    · exact ty125
    · exact ty126
    · exact ty127
    · exact ty131
    · exact ty132
    · exact ty133
    · exact ty135
    · exact ty142
    · exact ty148
    · exact ty152
    · exact ty154
    · exact ty157
    · exact ty161
    · exact ty164
    · exact ty165
    · exact ty167
    · exact ty168
    · exact ty170
    · exact ty171
    · exact ty174
    · exact ty177
    · exact ty178
    · exact ty183
    · exact ty184
    · exact ty185
    · exact ty187
    · exact ty188
    · exact ty189
    · exact ty190
    · exact ty191
  · have : tenv t = Ti.no := by
      unfold tenv
      split
      all_goals first | rfl | (exfalso; apply h; decide)
    rw [this]; trivial
noncomputable def TE : Env := { P := Try.prog, ti := tenv, ok := tok }
@[go_sem] theorem TE_ti (t : TypeId) : TE.ti t = tenv t := rfl
@[go_sem] theorem TE_P : TE.P = Try.prog := rfl
end Go.Eng
