/- MADE BY PROGRAM (gentypes.py): what is known of the types of the seat. -/
import Derived.Test.YtlofngpklcccmaaGreatKc
import Derived.Test.YtlofngpklcccmaaGreatProg
namespace Go.Eng
open Go Go.Proofs

def tenv : TypeId → Ti
  | 2 => ⟨.ik .i64, 1, 8, [.int .i64 0], default⟩
  | 3 => ⟨.ik .i64, 1, 8, [.int .i64 0], default⟩
  | 4 => ⟨.bk, 1, 1, [.bool false], default⟩
  | 5 => ⟨.ik .u8, 1, 1, [.int .u8 0], default⟩
  | 6 => ⟨.ik .u8, 1, 1, [.int .u8 0], default⟩
  | 7 => ⟨.st [(0, 1), (1, 1), (2, 1), (3, 1)], 4, 24, [.int .i64 0, .int .i64 0, .bool false, .int .u8 0], default⟩
  | 8 => ⟨.st [(0, 1), (1, 1), (2, 1), (3, 1)], 4, 24, [.int .i64 0, .int .i64 0, .bool false, .int .u8 0], default⟩
  | 9 => ⟨.strk, 1, 16, [.string ⟨#[]⟩], default⟩
  | 10 => ⟨.strk, 1, 16, [.string ⟨#[]⟩], default⟩
  | 11 => ⟨.strk, 1, 16, [.string ⟨#[]⟩], default⟩
  | 12 => ⟨.ik .u64, 1, 8, [.int .u64 0], default⟩
  | 13 => ⟨.st [(0, 1), (1, 1)], 2, 24, [.string ⟨#[]⟩, .int .u64 0], default⟩
  | 14 => ⟨.st [(0, 1), (1, 1)], 2, 24, [.string ⟨#[]⟩, .int .u64 0], default⟩
  | 15 => ⟨.sc, 1, 8, [.pointer none], default⟩
  | 16 => ⟨.sc, 1, 8, [.pointer none], default⟩
  | 17 => ⟨.sc, 1, 8, [.pointer none], default⟩
  | 18 => ⟨.st [(0, 1)], 1, 8, [.pointer none], default⟩
  | 19 => ⟨.st [(0, 1)], 1, 8, [.pointer none], default⟩
  | 21 => ⟨.ik .i32, 1, 4, [.int .i32 0], default⟩
  | 22 => ⟨.sli 2 1 8 [.int .i64 0], 1, 24, [.slice none 0 0], .v (.int .i64 0)⟩
  | 23 => ⟨.sli 22 1 24 [.slice none 0 0], 1, 24, [.slice none 0 0], .sl 1 (.v (.int .i64 0)) []⟩
  | 24 => ⟨.st [(0, 1), (1, 1), (2, 1), (3, 1), (4, 1)], 5, 104, [.int .i64 0, .slice none 0 0, .slice none 0 0, .slice none 0 0, .slice none 0 0], default⟩
  | 25 => ⟨.st [(0, 1), (1, 1), (2, 1), (3, 1), (4, 1)], 5, 104, [.int .i64 0, .slice none 0 0, .slice none 0 0, .slice none 0 0, .slice none 0 0], default⟩
  | 26 => ⟨.st [(0, 5), (5, 1), (6, 1)], 7, 152, [.int .i64 0, .slice none 0 0, .slice none 0 0, .slice none 0 0, .slice none 0 0, .slice none 0 0, .slice none 0 0], default⟩
  | 27 => ⟨.st [(0, 5), (5, 1), (6, 1)], 7, 152, [.int .i64 0, .slice none 0 0, .slice none 0 0, .slice none 0 0, .slice none 0 0, .slice none 0 0, .slice none 0 0], default⟩
  | 29 => ⟨.st [(0, 1), (1, 1), (2, 1), (3, 1), (4, 1)], 5, 104, [.int .i64 0, .slice none 0 0, .slice none 0 0, .slice none 0 0, .slice none 0 0], default⟩
  | 30 => ⟨.st [(0, 5), (5, 1), (6, 1)], 7, 152, [.int .i64 0, .slice none 0 0, .slice none 0 0, .slice none 0 0, .slice none 0 0, .slice none 0 0, .slice none 0 0], default⟩
  | 31 => ⟨.st [(0, 5), (5, 1), (6, 1)], 7, 152, [.int .i64 0, .slice none 0 0, .slice none 0 0, .slice none 0 0, .slice none 0 0, .slice none 0 0, .slice none 0 0], default⟩
  | 32 => ⟨.st [(0, 7), (7, 7), (14, 1)], 15, 328, [.int .i64 0, .slice none 0 0, .slice none 0 0, .slice none 0 0, .slice none 0 0, .slice none 0 0, .slice none 0 0, .int .i64 0, .slice none 0 0, .slice none 0 0, .slice none 0 0, .slice none 0 0, .slice none 0 0, .slice none 0 0, .slice none 0 0], default⟩
  | 33 => ⟨.st [(0, 7), (7, 7), (14, 1)], 15, 328, [.int .i64 0, .slice none 0 0, .slice none 0 0, .slice none 0 0, .slice none 0 0, .slice none 0 0, .slice none 0 0, .int .i64 0, .slice none 0 0, .slice none 0 0, .slice none 0 0, .slice none 0 0, .slice none 0 0, .slice none 0 0, .slice none 0 0], default⟩
  | 42 => ⟨.st [(0, 7), (7, 7), (14, 1)], 15, 328, [.int .i64 0, .slice none 0 0, .slice none 0 0, .slice none 0 0, .slice none 0 0, .slice none 0 0, .slice none 0 0, .int .i64 0, .slice none 0 0, .slice none 0 0, .slice none 0 0, .slice none 0 0, .slice none 0 0, .slice none 0 0, .slice none 0 0], default⟩
  | 43 => ⟨.st [(0, 7), (7, 7), (14, 1)], 15, 328, [.int .i64 0, .slice none 0 0, .slice none 0 0, .slice none 0 0, .slice none 0 0, .slice none 0 0, .slice none 0 0, .int .i64 0, .slice none 0 0, .slice none 0 0, .slice none 0 0, .slice none 0 0, .slice none 0 0, .slice none 0 0, .slice none 0 0], default⟩
  | 65 => ⟨.sc, 1, 8, [.pointer none], default⟩
  | 75 => ⟨.sc, 1, 8, [.pointer none], default⟩
  | 83 => ⟨.sc, 1, 8, [.pointer none], default⟩
  | 87 => ⟨.ik .u32, 1, 4, [.int .u32 0], default⟩
  | 90 => ⟨.st [(0, 1), (1, 1)], 2, 8, [.int .i32 0, .int .u32 0], default⟩
  | 91 => ⟨.st [(0, 1), (1, 1)], 2, 8, [.int .i32 0, .int .u32 0], default⟩
  | 96 => ⟨.st [(0, 1), (1, 1), (2, 3), (5, 1)], 6, 56, [.pointer none, .int .i64 0, .int .u32 0, .int .i32 0, .int .u32 0, .slice none 0 0], default⟩
  | 97 => ⟨.st [(0, 1), (1, 1), (2, 3), (5, 1)], 6, 56, [.pointer none, .int .i64 0, .int .u32 0, .int .i32 0, .int .u32 0, .slice none 0 0], default⟩
  | 103 => ⟨.sc, 1, 8, [.pointer none], default⟩
  | 110 => ⟨.sli 23 1 24 [.slice none 0 0], 1, 24, [.slice none 0 0], .sl 1 (.sl 1 (.v (.int .i64 0)) []) []⟩
  | 121 => ⟨.sc, 1, 8, [.pointer none], default⟩
  | 122 => ⟨.sli 65 1 8 [.pointer none], 1, 24, [.slice none 0 0], .v (.pointer none)⟩
  | 124 => ⟨.sc, 1, 8, [.pointer none], default⟩
  | 126 => ⟨.sc, 1, 8, [.pointer none], default⟩
  | 128 => ⟨.st [(0, 1), (1, 1)], 2, 16, [.int .i64 0, .int .i64 0], default⟩
  | 129 => ⟨.st [(0, 1), (1, 1)], 2, 16, [.int .i64 0, .int .i64 0], default⟩
  | 131 => ⟨.sc, 1, 8, [.pointer none], default⟩
  | 134 => ⟨.sc, 1, 8, [.pointer none], default⟩
  | 136 => ⟨.sc, 1, 8, [.pointer none], default⟩
  | 142 => ⟨.ik .u64, 1, 8, [.int .u64 0], default⟩
  | 146 => ⟨.st [(0, 1), (1, 1), (2, 1), (3, 1)], 4, 40, [.pointer none, .pointer none, .pointer none, .string ⟨#[]⟩], default⟩
  | 147 => ⟨.st [(0, 1), (1, 1), (2, 1), (3, 1)], 4, 40, [.pointer none, .pointer none, .pointer none, .string ⟨#[]⟩], default⟩
  | 152 => ⟨.ik .u8, 1, 1, [.int .u8 0], default⟩
  | 153 => ⟨.ik .u8, 1, 1, [.int .u8 0], default⟩
  | 155 => ⟨.sc, 1, 8, [.pointer none], default⟩
  | 156 => ⟨.ik .i32, 1, 4, [.int .i32 0], default⟩
  | 157 => ⟨.ik .i32, 1, 4, [.int .i32 0], default⟩
  | 158 => ⟨.st [(0, 1), (1, 1), (2, 1), (3, 1), (4, 1), (5, 1), (6, 1), (7, 1), (8, 1), (9, 1), (10, 1)], 11, 48, [.int .u64 0, .int .u64 0, .int .u32 0, .int .u8 0, .int .u8 0, .int .u8 0, .int .u8 0, .nilFunc, .pointer none, .int .i32 0, .int .i32 0], default⟩
  | 159 => ⟨.st [(0, 1), (1, 1), (2, 1), (3, 1), (4, 1), (5, 1), (6, 1), (7, 1), (8, 1), (9, 1), (10, 1)], 11, 48, [.int .u64 0, .int .u64 0, .int .u32 0, .int .u8 0, .int .u8 0, .int .u8 0, .int .u8 0, .nilFunc, .pointer none, .int .i32 0, .int .i32 0], default⟩
  | _ => Ti.no
@[go_sem] theorem tenv2 : tenv 2 = ⟨.ik .i64, 1, 8, [.int .i64 0], default⟩ := rfl
@[go_sem] theorem tenv3 : tenv 3 = ⟨.ik .i64, 1, 8, [.int .i64 0], default⟩ := rfl
@[go_sem] theorem tenv4 : tenv 4 = ⟨.bk, 1, 1, [.bool false], default⟩ := rfl
@[go_sem] theorem tenv5 : tenv 5 = ⟨.ik .u8, 1, 1, [.int .u8 0], default⟩ := rfl
@[go_sem] theorem tenv6 : tenv 6 = ⟨.ik .u8, 1, 1, [.int .u8 0], default⟩ := rfl
@[go_sem] theorem tenv7 : tenv 7 = ⟨.st [(0, 1), (1, 1), (2, 1), (3, 1)], 4, 24, [.int .i64 0, .int .i64 0, .bool false, .int .u8 0], default⟩ := rfl
@[go_sem] theorem tenv8 : tenv 8 = ⟨.st [(0, 1), (1, 1), (2, 1), (3, 1)], 4, 24, [.int .i64 0, .int .i64 0, .bool false, .int .u8 0], default⟩ := rfl
@[go_sem] theorem tenv9 : tenv 9 = ⟨.strk, 1, 16, [.string ⟨#[]⟩], default⟩ := rfl
@[go_sem] theorem tenv10 : tenv 10 = ⟨.strk, 1, 16, [.string ⟨#[]⟩], default⟩ := rfl
@[go_sem] theorem tenv11 : tenv 11 = ⟨.strk, 1, 16, [.string ⟨#[]⟩], default⟩ := rfl
@[go_sem] theorem tenv12 : tenv 12 = ⟨.ik .u64, 1, 8, [.int .u64 0], default⟩ := rfl
@[go_sem] theorem tenv13 : tenv 13 = ⟨.st [(0, 1), (1, 1)], 2, 24, [.string ⟨#[]⟩, .int .u64 0], default⟩ := rfl
@[go_sem] theorem tenv14 : tenv 14 = ⟨.st [(0, 1), (1, 1)], 2, 24, [.string ⟨#[]⟩, .int .u64 0], default⟩ := rfl
@[go_sem] theorem tenv15 : tenv 15 = ⟨.sc, 1, 8, [.pointer none], default⟩ := rfl
@[go_sem] theorem tenv16 : tenv 16 = ⟨.sc, 1, 8, [.pointer none], default⟩ := rfl
@[go_sem] theorem tenv17 : tenv 17 = ⟨.sc, 1, 8, [.pointer none], default⟩ := rfl
@[go_sem] theorem tenv18 : tenv 18 = ⟨.st [(0, 1)], 1, 8, [.pointer none], default⟩ := rfl
@[go_sem] theorem tenv19 : tenv 19 = ⟨.st [(0, 1)], 1, 8, [.pointer none], default⟩ := rfl
@[go_sem] theorem tenv21 : tenv 21 = ⟨.ik .i32, 1, 4, [.int .i32 0], default⟩ := rfl
@[go_sem] theorem tenv22 : tenv 22 = ⟨.sli 2 1 8 [.int .i64 0], 1, 24, [.slice none 0 0], .v (.int .i64 0)⟩ := rfl
@[go_sem] theorem tenv23 : tenv 23 = ⟨.sli 22 1 24 [.slice none 0 0], 1, 24, [.slice none 0 0], .sl 1 (.v (.int .i64 0)) []⟩ := rfl
@[go_sem] theorem tenv24 : tenv 24 = ⟨.st [(0, 1), (1, 1), (2, 1), (3, 1), (4, 1)], 5, 104, [.int .i64 0, .slice none 0 0, .slice none 0 0, .slice none 0 0, .slice none 0 0], default⟩ := rfl
@[go_sem] theorem tenv25 : tenv 25 = ⟨.st [(0, 1), (1, 1), (2, 1), (3, 1), (4, 1)], 5, 104, [.int .i64 0, .slice none 0 0, .slice none 0 0, .slice none 0 0, .slice none 0 0], default⟩ := rfl
@[go_sem] theorem tenv26 : tenv 26 = ⟨.st [(0, 5), (5, 1), (6, 1)], 7, 152, [.int .i64 0, .slice none 0 0, .slice none 0 0, .slice none 0 0, .slice none 0 0, .slice none 0 0, .slice none 0 0], default⟩ := rfl
@[go_sem] theorem tenv27 : tenv 27 = ⟨.st [(0, 5), (5, 1), (6, 1)], 7, 152, [.int .i64 0, .slice none 0 0, .slice none 0 0, .slice none 0 0, .slice none 0 0, .slice none 0 0, .slice none 0 0], default⟩ := rfl
@[go_sem] theorem tenv29 : tenv 29 = ⟨.st [(0, 1), (1, 1), (2, 1), (3, 1), (4, 1)], 5, 104, [.int .i64 0, .slice none 0 0, .slice none 0 0, .slice none 0 0, .slice none 0 0], default⟩ := rfl
@[go_sem] theorem tenv30 : tenv 30 = ⟨.st [(0, 5), (5, 1), (6, 1)], 7, 152, [.int .i64 0, .slice none 0 0, .slice none 0 0, .slice none 0 0, .slice none 0 0, .slice none 0 0, .slice none 0 0], default⟩ := rfl
@[go_sem] theorem tenv31 : tenv 31 = ⟨.st [(0, 5), (5, 1), (6, 1)], 7, 152, [.int .i64 0, .slice none 0 0, .slice none 0 0, .slice none 0 0, .slice none 0 0, .slice none 0 0, .slice none 0 0], default⟩ := rfl
@[go_sem] theorem tenv32 : tenv 32 = ⟨.st [(0, 7), (7, 7), (14, 1)], 15, 328, [.int .i64 0, .slice none 0 0, .slice none 0 0, .slice none 0 0, .slice none 0 0, .slice none 0 0, .slice none 0 0, .int .i64 0, .slice none 0 0, .slice none 0 0, .slice none 0 0, .slice none 0 0, .slice none 0 0, .slice none 0 0, .slice none 0 0], default⟩ := rfl
@[go_sem] theorem tenv33 : tenv 33 = ⟨.st [(0, 7), (7, 7), (14, 1)], 15, 328, [.int .i64 0, .slice none 0 0, .slice none 0 0, .slice none 0 0, .slice none 0 0, .slice none 0 0, .slice none 0 0, .int .i64 0, .slice none 0 0, .slice none 0 0, .slice none 0 0, .slice none 0 0, .slice none 0 0, .slice none 0 0, .slice none 0 0], default⟩ := rfl
@[go_sem] theorem tenv42 : tenv 42 = ⟨.st [(0, 7), (7, 7), (14, 1)], 15, 328, [.int .i64 0, .slice none 0 0, .slice none 0 0, .slice none 0 0, .slice none 0 0, .slice none 0 0, .slice none 0 0, .int .i64 0, .slice none 0 0, .slice none 0 0, .slice none 0 0, .slice none 0 0, .slice none 0 0, .slice none 0 0, .slice none 0 0], default⟩ := rfl
@[go_sem] theorem tenv43 : tenv 43 = ⟨.st [(0, 7), (7, 7), (14, 1)], 15, 328, [.int .i64 0, .slice none 0 0, .slice none 0 0, .slice none 0 0, .slice none 0 0, .slice none 0 0, .slice none 0 0, .int .i64 0, .slice none 0 0, .slice none 0 0, .slice none 0 0, .slice none 0 0, .slice none 0 0, .slice none 0 0, .slice none 0 0], default⟩ := rfl
@[go_sem] theorem tenv65 : tenv 65 = ⟨.sc, 1, 8, [.pointer none], default⟩ := rfl
@[go_sem] theorem tenv75 : tenv 75 = ⟨.sc, 1, 8, [.pointer none], default⟩ := rfl
@[go_sem] theorem tenv83 : tenv 83 = ⟨.sc, 1, 8, [.pointer none], default⟩ := rfl
@[go_sem] theorem tenv87 : tenv 87 = ⟨.ik .u32, 1, 4, [.int .u32 0], default⟩ := rfl
@[go_sem] theorem tenv90 : tenv 90 = ⟨.st [(0, 1), (1, 1)], 2, 8, [.int .i32 0, .int .u32 0], default⟩ := rfl
@[go_sem] theorem tenv91 : tenv 91 = ⟨.st [(0, 1), (1, 1)], 2, 8, [.int .i32 0, .int .u32 0], default⟩ := rfl
@[go_sem] theorem tenv96 : tenv 96 = ⟨.st [(0, 1), (1, 1), (2, 3), (5, 1)], 6, 56, [.pointer none, .int .i64 0, .int .u32 0, .int .i32 0, .int .u32 0, .slice none 0 0], default⟩ := rfl
@[go_sem] theorem tenv97 : tenv 97 = ⟨.st [(0, 1), (1, 1), (2, 3), (5, 1)], 6, 56, [.pointer none, .int .i64 0, .int .u32 0, .int .i32 0, .int .u32 0, .slice none 0 0], default⟩ := rfl
@[go_sem] theorem tenv103 : tenv 103 = ⟨.sc, 1, 8, [.pointer none], default⟩ := rfl
@[go_sem] theorem tenv110 : tenv 110 = ⟨.sli 23 1 24 [.slice none 0 0], 1, 24, [.slice none 0 0], .sl 1 (.sl 1 (.v (.int .i64 0)) []) []⟩ := rfl
@[go_sem] theorem tenv121 : tenv 121 = ⟨.sc, 1, 8, [.pointer none], default⟩ := rfl
@[go_sem] theorem tenv122 : tenv 122 = ⟨.sli 65 1 8 [.pointer none], 1, 24, [.slice none 0 0], .v (.pointer none)⟩ := rfl
@[go_sem] theorem tenv124 : tenv 124 = ⟨.sc, 1, 8, [.pointer none], default⟩ := rfl
@[go_sem] theorem tenv126 : tenv 126 = ⟨.sc, 1, 8, [.pointer none], default⟩ := rfl
@[go_sem] theorem tenv128 : tenv 128 = ⟨.st [(0, 1), (1, 1)], 2, 16, [.int .i64 0, .int .i64 0], default⟩ := rfl
@[go_sem] theorem tenv129 : tenv 129 = ⟨.st [(0, 1), (1, 1)], 2, 16, [.int .i64 0, .int .i64 0], default⟩ := rfl
@[go_sem] theorem tenv131 : tenv 131 = ⟨.sc, 1, 8, [.pointer none], default⟩ := rfl
@[go_sem] theorem tenv134 : tenv 134 = ⟨.sc, 1, 8, [.pointer none], default⟩ := rfl
@[go_sem] theorem tenv136 : tenv 136 = ⟨.sc, 1, 8, [.pointer none], default⟩ := rfl
@[go_sem] theorem tenv142 : tenv 142 = ⟨.ik .u64, 1, 8, [.int .u64 0], default⟩ := rfl
@[go_sem] theorem tenv146 : tenv 146 = ⟨.st [(0, 1), (1, 1), (2, 1), (3, 1)], 4, 40, [.pointer none, .pointer none, .pointer none, .string ⟨#[]⟩], default⟩ := rfl
@[go_sem] theorem tenv147 : tenv 147 = ⟨.st [(0, 1), (1, 1), (2, 1), (3, 1)], 4, 40, [.pointer none, .pointer none, .pointer none, .string ⟨#[]⟩], default⟩ := rfl
@[go_sem] theorem tenv152 : tenv 152 = ⟨.ik .u8, 1, 1, [.int .u8 0], default⟩ := rfl
@[go_sem] theorem tenv153 : tenv 153 = ⟨.ik .u8, 1, 1, [.int .u8 0], default⟩ := rfl
@[go_sem] theorem tenv155 : tenv 155 = ⟨.sc, 1, 8, [.pointer none], default⟩ := rfl
@[go_sem] theorem tenv156 : tenv 156 = ⟨.ik .i32, 1, 4, [.int .i32 0], default⟩ := rfl
@[go_sem] theorem tenv157 : tenv 157 = ⟨.ik .i32, 1, 4, [.int .i32 0], default⟩ := rfl
@[go_sem] theorem tenv158 : tenv 158 = ⟨.st [(0, 1), (1, 1), (2, 1), (3, 1), (4, 1), (5, 1), (6, 1), (7, 1), (8, 1), (9, 1), (10, 1)], 11, 48, [.int .u64 0, .int .u64 0, .int .u32 0, .int .u8 0, .int .u8 0, .int .u8 0, .int .u8 0, .nilFunc, .pointer none, .int .i32 0, .int .i32 0], default⟩ := rfl
@[go_sem] theorem tenv159 : tenv 159 = ⟨.st [(0, 1), (1, 1), (2, 1), (3, 1), (4, 1), (5, 1), (6, 1), (7, 1), (8, 1), (9, 1), (10, 1)], 11, 48, [.int .u64 0, .int .u64 0, .int .u32 0, .int .u8 0, .int .u8 0, .int .u8 0, .int .u8 0, .nilFunc, .pointer none, .int .i32 0, .int .i32 0], default⟩ := rfl
set_option maxRecDepth 100000 in
theorem ty2 : TiOk Tryz.prog 2 (tenv 2) := ⟨⟨_, _, Tryz.type2, rfl, rfl, rfl, rfl⟩, Tryz.underlying2⟩
set_option maxRecDepth 100000 in
theorem ty3 : TiOk Tryz.prog 3 (tenv 3) := ⟨⟨_, _, Tryz.type3, rfl, rfl, rfl, rfl⟩, Tryz.underlying3⟩
set_option maxRecDepth 100000 in
theorem ty4 : TiOk Tryz.prog 4 (tenv 4) := ⟨⟨_, _, Tryz.type4, rfl, rfl, rfl, rfl⟩, Tryz.underlying4⟩
set_option maxRecDepth 100000 in
theorem ty5 : TiOk Tryz.prog 5 (tenv 5) := ⟨⟨_, _, Tryz.type5, rfl, rfl, rfl, rfl⟩, Tryz.underlying5⟩
set_option maxRecDepth 100000 in
theorem ty6 : TiOk Tryz.prog 6 (tenv 6) := ⟨⟨_, _, Tryz.type6, rfl, rfl, rfl, rfl⟩, Tryz.underlying6⟩
set_option maxRecDepth 100000 in
theorem ty7 : TiOk Tryz.prog 7 (tenv 7) := ⟨⟨_, _, Tryz.type7, rfl, rfl, rfl, rfl⟩, _, Tryz.underlying7, rfl, by kernel_rfl, rfl⟩
set_option maxRecDepth 100000 in
theorem ty8 : TiOk Tryz.prog 8 (tenv 8) := ⟨⟨_, _, Tryz.type8, rfl, rfl, rfl, rfl⟩, _, Tryz.underlying8, rfl, by kernel_rfl, rfl⟩
set_option maxRecDepth 100000 in
theorem ty9 : TiOk Tryz.prog 9 (tenv 9) := ⟨⟨_, _, Tryz.type9, rfl, rfl, rfl, rfl⟩, Tryz.underlying9⟩
set_option maxRecDepth 100000 in
theorem ty10 : TiOk Tryz.prog 10 (tenv 10) := ⟨⟨_, _, Tryz.type10, rfl, rfl, rfl, rfl⟩, Tryz.underlying10⟩
set_option maxRecDepth 100000 in
theorem ty11 : TiOk Tryz.prog 11 (tenv 11) := ⟨⟨_, _, Tryz.type11, rfl, rfl, rfl, rfl⟩, Tryz.underlying11⟩
set_option maxRecDepth 100000 in
theorem ty12 : TiOk Tryz.prog 12 (tenv 12) := ⟨⟨_, _, Tryz.type12, rfl, rfl, rfl, rfl⟩, Tryz.underlying12⟩
set_option maxRecDepth 100000 in
theorem ty13 : TiOk Tryz.prog 13 (tenv 13) := ⟨⟨_, _, Tryz.type13, rfl, rfl, rfl, rfl⟩, _, Tryz.underlying13, rfl, by kernel_rfl, rfl⟩
set_option maxRecDepth 100000 in
theorem ty14 : TiOk Tryz.prog 14 (tenv 14) := ⟨⟨_, _, Tryz.type14, rfl, rfl, rfl, rfl⟩, _, Tryz.underlying14, rfl, by kernel_rfl, rfl⟩
set_option maxRecDepth 100000 in
theorem ty15 : TiOk Tryz.prog 15 (tenv 15) := ⟨⟨_, _, Tryz.type15, rfl, rfl, rfl, rfl⟩, _, Tryz.underlying15, trivial⟩
set_option maxRecDepth 100000 in
theorem ty16 : TiOk Tryz.prog 16 (tenv 16) := ⟨⟨_, _, Tryz.type16, rfl, rfl, rfl, rfl⟩, _, Tryz.underlying16, trivial⟩
set_option maxRecDepth 100000 in
theorem ty17 : TiOk Tryz.prog 17 (tenv 17) := ⟨⟨_, _, Tryz.type17, rfl, rfl, rfl, rfl⟩, _, Tryz.underlying17, trivial⟩
set_option maxRecDepth 100000 in
theorem ty18 : TiOk Tryz.prog 18 (tenv 18) := ⟨⟨_, _, Tryz.type18, rfl, rfl, rfl, rfl⟩, _, Tryz.underlying18, rfl, by kernel_rfl, rfl⟩
set_option maxRecDepth 100000 in
theorem ty19 : TiOk Tryz.prog 19 (tenv 19) := ⟨⟨_, _, Tryz.type19, rfl, rfl, rfl, rfl⟩, _, Tryz.underlying19, rfl, by kernel_rfl, rfl⟩
set_option maxRecDepth 100000 in
theorem ty21 : TiOk Tryz.prog 21 (tenv 21) := ⟨⟨_, _, Tryz.type21, rfl, rfl, rfl, rfl⟩, Tryz.underlying21⟩
set_option maxRecDepth 100000 in
theorem ty22 : TiOk Tryz.prog 22 (tenv 22) := ⟨⟨_, _, Tryz.type22, rfl, rfl, rfl, rfl⟩, Tryz.underlying22, ⟨_, _, Tryz.type2, rfl, rfl, rfl, rfl⟩⟩
set_option maxRecDepth 100000 in
theorem ty23 : TiOk Tryz.prog 23 (tenv 23) := ⟨⟨_, _, Tryz.type23, rfl, rfl, rfl, rfl⟩, Tryz.underlying23, ⟨_, _, Tryz.type22, rfl, rfl, rfl, rfl⟩⟩
set_option maxRecDepth 100000 in
theorem ty24 : TiOk Tryz.prog 24 (tenv 24) := ⟨⟨_, _, Tryz.type24, rfl, rfl, rfl, rfl⟩, _, Tryz.underlying24, rfl, by kernel_rfl, rfl⟩
set_option maxRecDepth 100000 in
theorem ty25 : TiOk Tryz.prog 25 (tenv 25) := ⟨⟨_, _, Tryz.type25, rfl, rfl, rfl, rfl⟩, _, Tryz.underlying25, rfl, by kernel_rfl, rfl⟩
set_option maxRecDepth 100000 in
theorem ty26 : TiOk Tryz.prog 26 (tenv 26) := ⟨⟨_, _, Tryz.type26, rfl, rfl, rfl, rfl⟩, _, Tryz.underlying26, rfl, by kernel_rfl, rfl⟩
set_option maxRecDepth 100000 in
theorem ty27 : TiOk Tryz.prog 27 (tenv 27) := ⟨⟨_, _, Tryz.type27, rfl, rfl, rfl, rfl⟩, _, Tryz.underlying27, rfl, by kernel_rfl, rfl⟩
set_option maxRecDepth 100000 in
theorem ty29 : TiOk Tryz.prog 29 (tenv 29) := ⟨⟨_, _, Tryz.type29, rfl, rfl, rfl, rfl⟩, _, Tryz.underlying29, rfl, by kernel_rfl, rfl⟩
set_option maxRecDepth 100000 in
theorem ty30 : TiOk Tryz.prog 30 (tenv 30) := ⟨⟨_, _, Tryz.type30, rfl, rfl, rfl, rfl⟩, _, Tryz.underlying30, rfl, by kernel_rfl, rfl⟩
set_option maxRecDepth 100000 in
theorem ty31 : TiOk Tryz.prog 31 (tenv 31) := ⟨⟨_, _, Tryz.type31, rfl, rfl, rfl, rfl⟩, _, Tryz.underlying31, rfl, by kernel_rfl, rfl⟩
set_option maxRecDepth 100000 in
theorem ty32 : TiOk Tryz.prog 32 (tenv 32) := ⟨⟨_, _, Tryz.type32, rfl, rfl, rfl, rfl⟩, _, Tryz.underlying32, rfl, by kernel_rfl, rfl⟩
set_option maxRecDepth 100000 in
theorem ty33 : TiOk Tryz.prog 33 (tenv 33) := ⟨⟨_, _, Tryz.type33, rfl, rfl, rfl, rfl⟩, _, Tryz.underlying33, rfl, by kernel_rfl, rfl⟩
set_option maxRecDepth 100000 in
theorem ty42 : TiOk Tryz.prog 42 (tenv 42) := ⟨⟨_, _, Tryz.type42, rfl, rfl, rfl, rfl⟩, _, Tryz.underlying42, rfl, by kernel_rfl, rfl⟩
set_option maxRecDepth 100000 in
theorem ty43 : TiOk Tryz.prog 43 (tenv 43) := ⟨⟨_, _, Tryz.type43, rfl, rfl, rfl, rfl⟩, _, Tryz.underlying43, rfl, by kernel_rfl, rfl⟩
set_option maxRecDepth 100000 in
theorem ty65 : TiOk Tryz.prog 65 (tenv 65) := ⟨⟨_, _, Tryz.type65, rfl, rfl, rfl, rfl⟩, _, Tryz.underlying65, trivial⟩
set_option maxRecDepth 100000 in
theorem ty75 : TiOk Tryz.prog 75 (tenv 75) := ⟨⟨_, _, Tryz.type75, rfl, rfl, rfl, rfl⟩, _, Tryz.underlying75, trivial⟩
set_option maxRecDepth 100000 in
theorem ty83 : TiOk Tryz.prog 83 (tenv 83) := ⟨⟨_, _, Tryz.type83, rfl, rfl, rfl, rfl⟩, _, Tryz.underlying83, trivial⟩
set_option maxRecDepth 100000 in
theorem ty87 : TiOk Tryz.prog 87 (tenv 87) := ⟨⟨_, _, Tryz.type87, rfl, rfl, rfl, rfl⟩, Tryz.underlying87⟩
set_option maxRecDepth 100000 in
theorem ty90 : TiOk Tryz.prog 90 (tenv 90) := ⟨⟨_, _, Tryz.type90, rfl, rfl, rfl, rfl⟩, _, Tryz.underlying90, rfl, by kernel_rfl, rfl⟩
set_option maxRecDepth 100000 in
theorem ty91 : TiOk Tryz.prog 91 (tenv 91) := ⟨⟨_, _, Tryz.type91, rfl, rfl, rfl, rfl⟩, _, Tryz.underlying91, rfl, by kernel_rfl, rfl⟩
set_option maxRecDepth 100000 in
theorem ty96 : TiOk Tryz.prog 96 (tenv 96) := ⟨⟨_, _, Tryz.type96, rfl, rfl, rfl, rfl⟩, _, Tryz.underlying96, rfl, by kernel_rfl, rfl⟩
set_option maxRecDepth 100000 in
theorem ty97 : TiOk Tryz.prog 97 (tenv 97) := ⟨⟨_, _, Tryz.type97, rfl, rfl, rfl, rfl⟩, _, Tryz.underlying97, rfl, by kernel_rfl, rfl⟩
set_option maxRecDepth 100000 in
theorem ty103 : TiOk Tryz.prog 103 (tenv 103) := ⟨⟨_, _, Tryz.type103, rfl, rfl, rfl, rfl⟩, _, Tryz.underlying103, trivial⟩
set_option maxRecDepth 100000 in
theorem ty110 : TiOk Tryz.prog 110 (tenv 110) := ⟨⟨_, _, Tryz.type110, rfl, rfl, rfl, rfl⟩, Tryz.underlying110, ⟨_, _, Tryz.type23, rfl, rfl, rfl, rfl⟩⟩
set_option maxRecDepth 100000 in
theorem ty121 : TiOk Tryz.prog 121 (tenv 121) := ⟨⟨_, _, Tryz.type121, rfl, rfl, rfl, rfl⟩, _, Tryz.underlying121, trivial⟩
set_option maxRecDepth 100000 in
theorem ty122 : TiOk Tryz.prog 122 (tenv 122) := ⟨⟨_, _, Tryz.type122, rfl, rfl, rfl, rfl⟩, Tryz.underlying122, ⟨_, _, Tryz.type65, rfl, rfl, rfl, rfl⟩⟩
set_option maxRecDepth 100000 in
theorem ty124 : TiOk Tryz.prog 124 (tenv 124) := ⟨⟨_, _, Tryz.type124, rfl, rfl, rfl, rfl⟩, _, Tryz.underlying124, trivial⟩
set_option maxRecDepth 100000 in
theorem ty126 : TiOk Tryz.prog 126 (tenv 126) := ⟨⟨_, _, Tryz.type126, rfl, rfl, rfl, rfl⟩, _, Tryz.underlying126, trivial⟩
set_option maxRecDepth 100000 in
theorem ty128 : TiOk Tryz.prog 128 (tenv 128) := ⟨⟨_, _, Tryz.type128, rfl, rfl, rfl, rfl⟩, _, Tryz.underlying128, rfl, by kernel_rfl, rfl⟩
set_option maxRecDepth 100000 in
theorem ty129 : TiOk Tryz.prog 129 (tenv 129) := ⟨⟨_, _, Tryz.type129, rfl, rfl, rfl, rfl⟩, _, Tryz.underlying129, rfl, by kernel_rfl, rfl⟩
set_option maxRecDepth 100000 in
theorem ty131 : TiOk Tryz.prog 131 (tenv 131) := ⟨⟨_, _, Tryz.type131, rfl, rfl, rfl, rfl⟩, _, Tryz.underlying131, trivial⟩
set_option maxRecDepth 100000 in
theorem ty134 : TiOk Tryz.prog 134 (tenv 134) := ⟨⟨_, _, Tryz.type134, rfl, rfl, rfl, rfl⟩, _, Tryz.underlying134, trivial⟩
set_option maxRecDepth 100000 in
theorem ty136 : TiOk Tryz.prog 136 (tenv 136) := ⟨⟨_, _, Tryz.type136, rfl, rfl, rfl, rfl⟩, _, Tryz.underlying136, trivial⟩
set_option maxRecDepth 100000 in
theorem ty142 : TiOk Tryz.prog 142 (tenv 142) := ⟨⟨_, _, Tryz.type142, rfl, rfl, rfl, rfl⟩, Tryz.underlying142⟩
set_option maxRecDepth 100000 in
theorem ty146 : TiOk Tryz.prog 146 (tenv 146) := ⟨⟨_, _, Tryz.type146, rfl, rfl, rfl, rfl⟩, _, Tryz.underlying146, rfl, by kernel_rfl, rfl⟩
set_option maxRecDepth 100000 in
theorem ty147 : TiOk Tryz.prog 147 (tenv 147) := ⟨⟨_, _, Tryz.type147, rfl, rfl, rfl, rfl⟩, _, Tryz.underlying147, rfl, by kernel_rfl, rfl⟩
set_option maxRecDepth 100000 in
theorem ty152 : TiOk Tryz.prog 152 (tenv 152) := ⟨⟨_, _, Tryz.type152, rfl, rfl, rfl, rfl⟩, Tryz.underlying152⟩
set_option maxRecDepth 100000 in
theorem ty153 : TiOk Tryz.prog 153 (tenv 153) := ⟨⟨_, _, Tryz.type153, rfl, rfl, rfl, rfl⟩, Tryz.underlying153⟩
set_option maxRecDepth 100000 in
theorem ty155 : TiOk Tryz.prog 155 (tenv 155) := ⟨⟨_, _, Tryz.type155, rfl, rfl, rfl, rfl⟩, _, Tryz.underlying155, trivial⟩
set_option maxRecDepth 100000 in
theorem ty156 : TiOk Tryz.prog 156 (tenv 156) := ⟨⟨_, _, Tryz.type156, rfl, rfl, rfl, rfl⟩, Tryz.underlying156⟩
set_option maxRecDepth 100000 in
theorem ty157 : TiOk Tryz.prog 157 (tenv 157) := ⟨⟨_, _, Tryz.type157, rfl, rfl, rfl, rfl⟩, Tryz.underlying157⟩
set_option maxRecDepth 100000 in
theorem ty158 : TiOk Tryz.prog 158 (tenv 158) := ⟨⟨_, _, Tryz.type158, rfl, rfl, rfl, rfl⟩, _, Tryz.underlying158, rfl, by kernel_rfl, rfl⟩
set_option maxRecDepth 100000 in
theorem ty159 : TiOk Tryz.prog 159 (tenv 159) := ⟨⟨_, _, Tryz.type159, rfl, rfl, rfl, rfl⟩, _, Tryz.underlying159, rfl, by kernel_rfl, rfl⟩
theorem tok : ∀ t, TiOk Tryz.prog t (tenv t) := by
  intro t
  by_cases h : t ∈ [2, 3, 4, 5, 6, 7, 8, 9, 10, 11, 12, 13, 14, 15, 16, 17, 18, 19, 21, 22, 23, 24, 25, 26, 27, 29, 30, 31, 32, 33, 42, 43, 65, 75, 83, 87, 90, 91, 96, 97, 103, 110, 121, 122, 124, 126, 128, 129, 131, 134, 136, 142, 146, 147, 152, 153, 155, 156, 157, 158, 159]
  · simp only [List.mem_cons, List.not_mem_nil, or_false] at h
    rcases h with rfl | rfl | rfl | rfl | rfl | rfl | rfl | rfl | rfl | rfl | rfl | rfl | rfl | rfl | rfl | rfl | rfl | rfl | rfl | rfl | rfl | rfl | rfl | rfl | rfl | rfl | rfl | rfl | rfl | rfl | rfl | rfl | rfl | rfl | rfl | rfl | rfl | rfl | rfl | rfl | rfl | rfl | rfl | rfl | rfl | rfl | rfl | rfl | rfl | rfl | rfl | rfl | rfl | rfl | rfl | rfl | rfl | rfl | rfl | rfl | rfl
    · exact ty2
    · exact ty3
    · exact ty4
    · exact ty5
    · exact ty6
    · exact ty7
    · exact ty8
    · exact ty9
    · exact ty10
    · exact ty11
    · exact ty12
    · exact ty13
    · exact ty14
    · exact ty15
    · exact ty16
    · exact ty17
    · exact ty18
    · exact ty19
    · exact ty21
    · exact ty22
    · exact ty23
    · exact ty24
    · exact ty25
    · exact ty26
    · exact ty27
    · exact ty29
    · exact ty30
    · exact ty31
    · exact ty32
    · exact ty33
    · exact ty42
    · exact ty43
    · exact ty65
    · exact ty75
    · exact ty83
    · exact ty87
    · exact ty90
    · exact ty91
    · exact ty96
    · exact ty97
    · exact ty103
    · exact ty110
    · exact ty121
    · exact ty122
    · exact ty124
    · exact ty126
    · exact ty128
    · exact ty129
    · exact ty131
    · exact ty134
    · exact ty136
    · exact ty142
    · exact ty146
    · exact ty147
    · exact ty152
    · exact ty153
    · exact ty155
    · exact ty156
    · exact ty157
    · exact ty158
    · exact ty159
  · have : tenv t = Ti.no := by
      unfold tenv
      split
      all_goals first | rfl | (exfalso; apply h; decide)
    rw [this]; trivial
noncomputable def TE : Env := ⟨Tryz.prog, tenv, tok⟩
@[go_sem] theorem TE_ti (t : TypeId) : TE.ti t = tenv t := rfl
@[go_sem] theorem TE_P : TE.P = Tryz.prog := rfl
end Go.Eng
