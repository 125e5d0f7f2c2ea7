/- MADE BY PROGRAM (gentypes.py): what is known of the types of the seat. -/
import Derived.Test.YtgbjgeignbjjnaaKcx
import Derived.Test.YtgbjgeignbjjnaaProg
namespace Go.Eng
open Go Go.Proofs
def tenv : TypeId → Ti
  | 2 => ⟨.ik .i64, 1, 8, [.int .i64 0], default⟩
  | 3 => ⟨.ik .i64, 1, 8, [.int .i64 0], default⟩
  | 4 => ⟨.bk, 1, 1, [.bool false], default⟩
  | 5 => ⟨.ik .u8, 1, 1, [.int .u8 0], default⟩
  | 6 => ⟨.ik .u8, 1, 1, [.int .u8 0], default⟩
  | 7 => ⟨.st [(0, 1), (1, 1), (2, 1), (3, 1)], 4, 24, [.int .i64 0, .int .i64 0, .bool false, .int .u8 0], default⟩
  | 8 => ⟨.st [(0, 1), (1, 1), (2, 1), (3, 1)], 4, 24, [.int .i64 0, .int .i64 0, .bool false, .int .u8 0], default⟩
  | 9 => ⟨.strk, 1, 16, [.string ⟨#[]⟩], default⟩
  | 10 => ⟨.strk, 1, 16, [.string ⟨#[]⟩], default⟩
  | 11 => ⟨.strk, 1, 16, [.string ⟨#[]⟩], default⟩
  | 12 => ⟨.ik .u64, 1, 8, [.int .u64 0], default⟩
  | 13 => ⟨.st [(0, 1), (1, 1)], 2, 24, [.string ⟨#[]⟩, .int .u64 0], default⟩
  | 14 => ⟨.st [(0, 1), (1, 1)], 2, 24, [.string ⟨#[]⟩, .int .u64 0], default⟩
  | 15 => ⟨.sc, 1, 8, [.pointer none], default⟩
  | 16 => ⟨.sc, 1, 8, [.pointer none], default⟩
  | 17 => ⟨.sc, 1, 8, [.pointer none], default⟩
  | 18 => ⟨.st [(0, 1)], 1, 8, [.pointer none], default⟩
  | 19 => ⟨.st [(0, 1)], 1, 8, [.pointer none], default⟩
  | 21 => ⟨.ik .i32, 1, 4, [.int .i32 0], default⟩
  | 22 => ⟨.sli 2 1 8 [.int .i64 0], 1, 24, [.slice none 0 0], .v (.int .i64 0)⟩
  | 23 => ⟨.sli 22 1 24 [.slice none 0 0], 1, 24, [.slice none 0 0], .sl 1 (.v (.int .i64 0)) []⟩
  | 24 => ⟨.st [(0, 1), (1, 1), (2, 1), (3, 1), (4, 1)], 5, 104, [.int .i64 0, .slice none 0 0, .slice none 0 0, .slice none 0 0, .slice none 0 0], default⟩
  | 25 => ⟨.st [(0, 1), (1, 1), (2, 1), (3, 1), (4, 1)], 5, 104, [.int .i64 0, .slice none 0 0, .slice none 0 0, .slice none 0 0, .slice none 0 0], default⟩
  | 26 => ⟨.sli 23 1 24 [.slice none 0 0], 1, 24, [.slice none 0 0], .sl 1 (.sl 1 (.v (.int .i64 0)) []) []⟩
  | 27 => ⟨.st [(0, 5), (5, 5), (10, 1), (11, 1), (12, 1)], 13, 280, [.int .i64 0, .slice none 0 0, .slice none 0 0, .slice none 0 0, .slice none 0 0, .int .i64 0, .slice none 0 0, .slice none 0 0, .slice none 0 0, .slice none 0 0, .slice none 0 0, .slice none 0 0, .slice none 0 0], default⟩
  | 28 => ⟨.st [(0, 5), (5, 5), (10, 1), (11, 1), (12, 1)], 13, 280, [.int .i64 0, .slice none 0 0, .slice none 0 0, .slice none 0 0, .slice none 0 0, .int .i64 0, .slice none 0 0, .slice none 0 0, .slice none 0 0, .slice none 0 0, .slice none 0 0, .slice none 0 0, .slice none 0 0], default⟩
  | 30 => ⟨.sli 26 1 24 [.slice none 0 0], 1, 24, [.slice none 0 0], .sl 1 (.sl 1 (.sl 1 (.v (.int .i64 0)) []) []) []⟩
  | 33 => ⟨.st [(0, 1), (1, 1), (2, 1), (3, 1), (4, 1)], 5, 104, [.int .i64 0, .slice none 0 0, .slice none 0 0, .slice none 0 0, .slice none 0 0], default⟩
  | 34 => ⟨.st [(0, 5), (5, 5), (10, 1), (11, 1), (12, 1)], 13, 280, [.int .i64 0, .slice none 0 0, .slice none 0 0, .slice none 0 0, .slice none 0 0, .int .i64 0, .slice none 0 0, .slice none 0 0, .slice none 0 0, .slice none 0 0, .slice none 0 0, .slice none 0 0, .slice none 0 0], default⟩
  | 35 => ⟨.st [(0, 5), (5, 5), (10, 1), (11, 1), (12, 1)], 13, 280, [.int .i64 0, .slice none 0 0, .slice none 0 0, .slice none 0 0, .slice none 0 0, .int .i64 0, .slice none 0 0, .slice none 0 0, .slice none 0 0, .slice none 0 0, .slice none 0 0, .slice none 0 0, .slice none 0 0], default⟩
  | 37 => ⟨.sc, 1, 8, [.nilFunc], default⟩
  | 53 => ⟨.sc, 1, 8, [.pointer none], default⟩
  | 56 => ⟨.sli 79 3 40 [.int .i64 0, .int .i64 0, .slice none 0 0], 1, 24, [.slice none 0 0], .v (.int .i64 0)⟩
  | 64 => ⟨.sc, 1, 8, [.nilFunc], default⟩
  | 66 => ⟨.sc, 1, 8, [.nilFunc], default⟩
  | 70 => ⟨.sli 73 4 64 [.int .i64 0, .int .i64 0, .slice none 0 0, .slice none 0 0], 1, 24, [.slice none 0 0], .v (.int .i64 0)⟩
  | 72 => ⟨.st [(0, 1), (1, 1), (2, 1), (3, 1)], 4, 64, [.int .i64 0, .int .i64 0, .slice none 0 0, .slice none 0 0], default⟩
  | 73 => ⟨.st [(0, 1), (1, 1), (2, 1), (3, 1)], 4, 64, [.int .i64 0, .int .i64 0, .slice none 0 0, .slice none 0 0], default⟩
  | 75 => ⟨.sc, 1, 8, [.nilFunc], default⟩
  | 77 => ⟨.sc, 1, 8, [.pointer none], default⟩
  | 78 => ⟨.st [(0, 1), (1, 1), (2, 1)], 3, 40, [.int .i64 0, .int .i64 0, .slice none 0 0], default⟩
  | 79 => ⟨.st [(0, 1), (1, 1), (2, 1)], 3, 40, [.int .i64 0, .int .i64 0, .slice none 0 0], default⟩
  | 80 => ⟨.sc, 1, 8, [.pointer none], default⟩
  | 81 => ⟨.sc, 1, 8, [.map none], default⟩
  | 82 => ⟨.sc, 1, 8, [.nilFunc], default⟩
  | 83 => ⟨.st [(0, 1), (1, 1), (2, 1), (3, 1)], 4, 64, [.slice none 0 0, .map none, .slice none 0 0, .nilFunc], default⟩
  | 84 => ⟨.st [(0, 1), (1, 1), (2, 1), (3, 1)], 4, 64, [.slice none 0 0, .map none, .slice none 0 0, .nilFunc], default⟩
  | 85 => ⟨.sc, 1, 8, [.nilFunc], default⟩
  | 88 => ⟨.sc, 1, 8, [.nilFunc], default⟩
  | 89 => ⟨.sc, 1, 8, [.pointer none], default⟩
  | 90 => ⟨.st [(0, 1), (1, 1), (2, 1), (3, 1), (4, 1)], 5, 104, [.slice none 0 0, .slice none 0 0, .slice none 0 0, .int .i64 0, .slice none 0 0], default⟩
  | 91 => ⟨.st [(0, 1), (1, 1), (2, 1), (3, 1), (4, 1)], 5, 104, [.slice none 0 0, .slice none 0 0, .slice none 0 0, .int .i64 0, .slice none 0 0], default⟩
  | 94 => ⟨.sc, 1, 8, [.nilFunc], default⟩
  | 96 => ⟨.sc, 1, 8, [.pointer none], default⟩
  | 99 => ⟨.sc, 1, 8, [.nilFunc], default⟩
  | 100 => ⟨.sc, 1, 8, [.nilFunc], default⟩
  | 103 => ⟨.sc, 1, 8, [.nilFunc], default⟩
  | 104 => ⟨.sc, 1, 8, [.nilFunc], default⟩
  | 105 => ⟨.sc, 1, 8, [.nilFunc], default⟩
  | 108 => ⟨.sc, 1, 8, [.nilFunc], default⟩
  | 109 => ⟨.sli 77 1 8 [.pointer none], 1, 24, [.slice none 0 0], .v (.pointer none)⟩
  | 111 => ⟨.st [(0, 1), (1, 1)], 2, 16, [.int .i64 0, .int .i64 0], default⟩
  | 112 => ⟨.st [(0, 1), (1, 1)], 2, 16, [.int .i64 0, .int .i64 0], default⟩
  | 114 => ⟨.sc, 1, 8, [.nilFunc], default⟩
  | 116 => ⟨.st [(0, 1), (1, 1), (2, 1), (3, 1)], 4, 40, [.pointer none, .pointer none, .pointer none, .string ⟨#[]⟩], default⟩
  | 117 => ⟨.st [(0, 1), (1, 1), (2, 1), (3, 1)], 4, 40, [.pointer none, .pointer none, .pointer none, .string ⟨#[]⟩], default⟩
  | 122 => ⟨.ik .u32, 1, 4, [.int .u32 0], default⟩
  | 123 => ⟨.ik .u8, 1, 1, [.int .u8 0], default⟩
  | 124 => ⟨.ik .u8, 1, 1, [.int .u8 0], default⟩
  | 126 => ⟨.sc, 1, 8, [.pointer none], default⟩
  | 127 => ⟨.ik .i32, 1, 4, [.int .i32 0], default⟩
  | 128 => ⟨.ik .i32, 1, 4, [.int .i32 0], default⟩
  | 129 => ⟨.st [(0, 1), (1, 1), (2, 1), (3, 1), (4, 1), (5, 1), (6, 1), (7, 1), (8, 1), (9, 1), (10, 1)], 11, 48, [.int .u64 0, .int .u64 0, .int .u32 0, .int .u8 0, .int .u8 0, .int .u8 0, .int .u8 0, .nilFunc, .pointer none, .int .i32 0, .int .i32 0], default⟩
  | 130 => ⟨.st [(0, 1), (1, 1), (2, 1), (3, 1), (4, 1), (5, 1), (6, 1), (7, 1), (8, 1), (9, 1), (10, 1)], 11, 48, [.int .u64 0, .int .u64 0, .int .u32 0, .int .u8 0, .int .u8 0, .int .u8 0, .int .u8 0, .nilFunc, .pointer none, .int .i32 0, .int .i32 0], default⟩
  | _ => Ti.no
@[go_sem] theorem tenv2 : tenv 2 = ⟨.ik .i64, 1, 8, [.int .i64 0], default⟩ := rfl
@[go_sem] theorem tenv3 : tenv 3 = ⟨.ik .i64, 1, 8, [.int .i64 0], default⟩ := rfl
@[go_sem] theorem tenv4 : tenv 4 = ⟨.bk, 1, 1, [.bool false], default⟩ := rfl
@[go_sem] theorem tenv5 : tenv 5 = ⟨.ik .u8, 1, 1, [.int .u8 0], default⟩ := rfl
@[go_sem] theorem tenv6 : tenv 6 = ⟨.ik .u8, 1, 1, [.int .u8 0], default⟩ := rfl
@[go_sem] theorem tenv7 : tenv 7 = ⟨.st [(0, 1), (1, 1), (2, 1), (3, 1)], 4, 24, [.int .i64 0, .int .i64 0, .bool false, .int .u8 0], default⟩ := rfl
@[go_sem] theorem tenv8 : tenv 8 = ⟨.st [(0, 1), (1, 1), (2, 1), (3, 1)], 4, 24, [.int .i64 0, .int .i64 0, .bool false, .int .u8 0], default⟩ := rfl
@[go_sem] theorem tenv9 : tenv 9 = ⟨.strk, 1, 16, [.string ⟨#[]⟩], default⟩ := rfl
@[go_sem] theorem tenv10 : tenv 10 = ⟨.strk, 1, 16, [.string ⟨#[]⟩], default⟩ := rfl
@[go_sem] theorem tenv11 : tenv 11 = ⟨.strk, 1, 16, [.string ⟨#[]⟩], default⟩ := rfl
@[go_sem] theorem tenv12 : tenv 12 = ⟨.ik .u64, 1, 8, [.int .u64 0], default⟩ := rfl
@[go_sem] theorem tenv13 : tenv 13 = ⟨.st [(0, 1), (1, 1)], 2, 24, [.string ⟨#[]⟩, .int .u64 0], default⟩ := rfl
@[go_sem] theorem tenv14 : tenv 14 = ⟨.st [(0, 1), (1, 1)], 2, 24, [.string ⟨#[]⟩, .int .u64 0], default⟩ := rfl
@[go_sem] theorem tenv15 : tenv 15 = ⟨.sc, 1, 8, [.pointer none], default⟩ := rfl
@[go_sem] theorem tenv16 : tenv 16 = ⟨.sc, 1, 8, [.pointer none], default⟩ := rfl
@[go_sem] theorem tenv17 : tenv 17 = ⟨.sc, 1, 8, [.pointer none], default⟩ := rfl
@[go_sem] theorem tenv18 : tenv 18 = ⟨.st [(0, 1)], 1, 8, [.pointer none], default⟩ := rfl
@[go_sem] theorem tenv19 : tenv 19 = ⟨.st [(0, 1)], 1, 8, [.pointer none], default⟩ := rfl
@[go_sem] theorem tenv21 : tenv 21 = ⟨.ik .i32, 1, 4, [.int .i32 0], default⟩ := rfl
@[go_sem] theorem tenv22 : tenv 22 = ⟨.sli 2 1 8 [.int .i64 0], 1, 24, [.slice none 0 0], .v (.int .i64 0)⟩ := rfl
@[go_sem] theorem tenv23 : tenv 23 = ⟨.sli 22 1 24 [.slice none 0 0], 1, 24, [.slice none 0 0], .sl 1 (.v (.int .i64 0)) []⟩ := rfl
@[go_sem] theorem tenv24 : tenv 24 = ⟨.st [(0, 1), (1, 1), (2, 1), (3, 1), (4, 1)], 5, 104, [.int .i64 0, .slice none 0 0, .slice none 0 0, .slice none 0 0, .slice none 0 0], default⟩ := rfl
@[go_sem] theorem tenv25 : tenv 25 = ⟨.st [(0, 1), (1, 1), (2, 1), (3, 1), (4, 1)], 5, 104, [.int .i64 0, .slice none 0 0, .slice none 0 0, .slice none 0 0, .slice none 0 0], default⟩ := rfl
@[go_sem] theorem tenv26 : tenv 26 = ⟨.sli 23 1 24 [.slice none 0 0], 1, 24, [.slice none 0 0], .sl 1 (.sl 1 (.v (.int .i64 0)) []) []⟩ := rfl
@[go_sem] theorem tenv27 : tenv 27 = ⟨.st [(0, 5), (5, 5), (10, 1), (11, 1), (12, 1)], 13, 280, [.int .i64 0, .slice none 0 0, .slice none 0 0, .slice none 0 0, .slice none 0 0, .int .i64 0, .slice none 0 0, .slice none 0 0, .slice none 0 0, .slice none 0 0, .slice none 0 0, .slice none 0 0, .slice none 0 0], default⟩ := rfl
@[go_sem] theorem tenv28 : tenv 28 = ⟨.st [(0, 5), (5, 5), (10, 1), (11, 1), (12, 1)], 13, 280, [.int .i64 0, .slice none 0 0, .slice none 0 0, .slice none 0 0, .slice none 0 0, .int .i64 0, .slice none 0 0, .slice none 0 0, .slice none 0 0, .slice none 0 0, .slice none 0 0, .slice none 0 0, .slice none 0 0], default⟩ := rfl
@[go_sem] theorem tenv30 : tenv 30 = ⟨.sli 26 1 24 [.slice none 0 0], 1, 24, [.slice none 0 0], .sl 1 (.sl 1 (.sl 1 (.v (.int .i64 0)) []) []) []⟩ := rfl
@[go_sem] theorem tenv33 : tenv 33 = ⟨.st [(0, 1), (1, 1), (2, 1), (3, 1), (4, 1)], 5, 104, [.int .i64 0, .slice none 0 0, .slice none 0 0, .slice none 0 0, .slice none 0 0], default⟩ := rfl
@[go_sem] theorem tenv34 : tenv 34 = ⟨.st [(0, 5), (5, 5), (10, 1), (11, 1), (12, 1)], 13, 280, [.int .i64 0, .slice none 0 0, .slice none 0 0, .slice none 0 0, .slice none 0 0, .int .i64 0, .slice none 0 0, .slice none 0 0, .slice none 0 0, .slice none 0 0, .slice none 0 0, .slice none 0 0, .slice none 0 0], default⟩ := rfl
@[go_sem] theorem tenv35 : tenv 35 = ⟨.st [(0, 5), (5, 5), (10, 1), (11, 1), (12, 1)], 13, 280, [.int .i64 0, .slice none 0 0, .slice none 0 0, .slice none 0 0, .slice none 0 0, .int .i64 0, .slice none 0 0, .slice none 0 0, .slice none 0 0, .slice none 0 0, .slice none 0 0, .slice none 0 0, .slice none 0 0], default⟩ := rfl
@[go_sem] theorem tenv37 : tenv 37 = ⟨.sc, 1, 8, [.nilFunc], default⟩ := rfl
@[go_sem] theorem tenv53 : tenv 53 = ⟨.sc, 1, 8, [.pointer none], default⟩ := rfl
@[go_sem] theorem tenv56 : tenv 56 = ⟨.sli 79 3 40 [.int .i64 0, .int .i64 0, .slice none 0 0], 1, 24, [.slice none 0 0], .v (.int .i64 0)⟩ := rfl
@[go_sem] theorem tenv64 : tenv 64 = ⟨.sc, 1, 8, [.nilFunc], default⟩ := rfl
@[go_sem] theorem tenv66 : tenv 66 = ⟨.sc, 1, 8, [.nilFunc], default⟩ := rfl
@[go_sem] theorem tenv70 : tenv 70 = ⟨.sli 73 4 64 [.int .i64 0, .int .i64 0, .slice none 0 0, .slice none 0 0], 1, 24, [.slice none 0 0], .v (.int .i64 0)⟩ := rfl
@[go_sem] theorem tenv72 : tenv 72 = ⟨.st [(0, 1), (1, 1), (2, 1), (3, 1)], 4, 64, [.int .i64 0, .int .i64 0, .slice none 0 0, .slice none 0 0], default⟩ := rfl
@[go_sem] theorem tenv73 : tenv 73 = ⟨.st [(0, 1), (1, 1), (2, 1), (3, 1)], 4, 64, [.int .i64 0, .int .i64 0, .slice none 0 0, .slice none 0 0], default⟩ := rfl
@[go_sem] theorem tenv75 : tenv 75 = ⟨.sc, 1, 8, [.nilFunc], default⟩ := rfl
@[go_sem] theorem tenv77 : tenv 77 = ⟨.sc, 1, 8, [.pointer none], default⟩ := rfl
@[go_sem] theorem tenv78 : tenv 78 = ⟨.st [(0, 1), (1, 1), (2, 1)], 3, 40, [.int .i64 0, .int .i64 0, .slice none 0 0], default⟩ := rfl
@[go_sem] theorem tenv79 : tenv 79 = ⟨.st [(0, 1), (1, 1), (2, 1)], 3, 40, [.int .i64 0, .int .i64 0, .slice none 0 0], default⟩ := rfl
@[go_sem] theorem tenv80 : tenv 80 = ⟨.sc, 1, 8, [.pointer none], default⟩ := rfl
@[go_sem] theorem tenv81 : tenv 81 = ⟨.sc, 1, 8, [.map none], default⟩ := rfl
@[go_sem] theorem tenv82 : tenv 82 = ⟨.sc, 1, 8, [.nilFunc], default⟩ := rfl
@[go_sem] theorem tenv83 : tenv 83 = ⟨.st [(0, 1), (1, 1), (2, 1), (3, 1)], 4, 64, [.slice none 0 0, .map none, .slice none 0 0, .nilFunc], default⟩ := rfl
@[go_sem] theorem tenv84 : tenv 84 = ⟨.st [(0, 1), (1, 1), (2, 1), (3, 1)], 4, 64, [.slice none 0 0, .map none, .slice none 0 0, .nilFunc], default⟩ := rfl
@[go_sem] theorem tenv85 : tenv 85 = ⟨.sc, 1, 8, [.nilFunc], default⟩ := rfl
@[go_sem] theorem tenv88 : tenv 88 = ⟨.sc, 1, 8, [.nilFunc], default⟩ := rfl
@[go_sem] theorem tenv89 : tenv 89 = ⟨.sc, 1, 8, [.pointer none], default⟩ := rfl
@[go_sem] theorem tenv90 : tenv 90 = ⟨.st [(0, 1), (1, 1), (2, 1), (3, 1), (4, 1)], 5, 104, [.slice none 0 0, .slice none 0 0, .slice none 0 0, .int .i64 0, .slice none 0 0], default⟩ := rfl
@[go_sem] theorem tenv91 : tenv 91 = ⟨.st [(0, 1), (1, 1), (2, 1), (3, 1), (4, 1)], 5, 104, [.slice none 0 0, .slice none 0 0, .slice none 0 0, .int .i64 0, .slice none 0 0], default⟩ := rfl
@[go_sem] theorem tenv94 : tenv 94 = ⟨.sc, 1, 8, [.nilFunc], default⟩ := rfl
@[go_sem] theorem tenv96 : tenv 96 = ⟨.sc, 1, 8, [.pointer none], default⟩ := rfl
@[go_sem] theorem tenv99 : tenv 99 = ⟨.sc, 1, 8, [.nilFunc], default⟩ := rfl
@[go_sem] theorem tenv100 : tenv 100 = ⟨.sc, 1, 8, [.nilFunc], default⟩ := rfl
@[go_sem] theorem tenv103 : tenv 103 = ⟨.sc, 1, 8, [.nilFunc], default⟩ := rfl
@[go_sem] theorem tenv104 : tenv 104 = ⟨.sc, 1, 8, [.nilFunc], default⟩ := rfl
@[go_sem] theorem tenv105 : tenv 105 = ⟨.sc, 1, 8, [.nilFunc], default⟩ := rfl
@[go_sem] theorem tenv108 : tenv 108 = ⟨.sc, 1, 8, [.nilFunc], default⟩ := rfl
@[go_sem] theorem tenv109 : tenv 109 = ⟨.sli 77 1 8 [.pointer none], 1, 24, [.slice none 0 0], .v (.pointer none)⟩ := rfl
@[go_sem] theorem tenv111 : tenv 111 = ⟨.st [(0, 1), (1, 1)], 2, 16, [.int .i64 0, .int .i64 0], default⟩ := rfl
@[go_sem] theorem tenv112 : tenv 112 = ⟨.st [(0, 1), (1, 1)], 2, 16, [.int .i64 0, .int .i64 0], default⟩ := rfl
@[go_sem] theorem tenv114 : tenv 114 = ⟨.sc, 1, 8, [.nilFunc], default⟩ := rfl
@[go_sem] theorem tenv116 : tenv 116 = ⟨.st [(0, 1), (1, 1), (2, 1), (3, 1)], 4, 40, [.pointer none, .pointer none, .pointer none, .string ⟨#[]⟩], default⟩ := rfl
@[go_sem] theorem tenv117 : tenv 117 = ⟨.st [(0, 1), (1, 1), (2, 1), (3, 1)], 4, 40, [.pointer none, .pointer none, .pointer none, .string ⟨#[]⟩], default⟩ := rfl
@[go_sem] theorem tenv122 : tenv 122 = ⟨.ik .u32, 1, 4, [.int .u32 0], default⟩ := rfl
@[go_sem] theorem tenv123 : tenv 123 = ⟨.ik .u8, 1, 1, [.int .u8 0], default⟩ := rfl
@[go_sem] theorem tenv124 : tenv 124 = ⟨.ik .u8, 1, 1, [.int .u8 0], default⟩ := rfl
@[go_sem] theorem tenv126 : tenv 126 = ⟨.sc, 1, 8, [.pointer none], default⟩ := rfl
@[go_sem] theorem tenv127 : tenv 127 = ⟨.ik .i32, 1, 4, [.int .i32 0], default⟩ := rfl
@[go_sem] theorem tenv128 : tenv 128 = ⟨.ik .i32, 1, 4, [.int .i32 0], default⟩ := rfl
@[go_sem] theorem tenv129 : tenv 129 = ⟨.st [(0, 1), (1, 1), (2, 1), (3, 1), (4, 1), (5, 1), (6, 1), (7, 1), (8, 1), (9, 1), (10, 1)], 11, 48, [.int .u64 0, .int .u64 0, .int .u32 0, .int .u8 0, .int .u8 0, .int .u8 0, .int .u8 0, .nilFunc, .pointer none, .int .i32 0, .int .i32 0], default⟩ := rfl
@[go_sem] theorem tenv130 : tenv 130 = ⟨.st [(0, 1), (1, 1), (2, 1), (3, 1), (4, 1), (5, 1), (6, 1), (7, 1), (8, 1), (9, 1), (10, 1)], 11, 48, [.int .u64 0, .int .u64 0, .int .u32 0, .int .u8 0, .int .u8 0, .int .u8 0, .int .u8 0, .nilFunc, .pointer none, .int .i32 0, .int .i32 0], default⟩ := rfl
set_option maxRecDepth 100000 in
theorem ty2 : TiOk Try.prog 2 (tenv 2) := ⟨⟨_, _, Try.type2, rfl, rfl, rfl, rfl⟩, Try.underlying2⟩
set_option maxRecDepth 100000 in
theorem ty3 : TiOk Try.prog 3 (tenv 3) := ⟨⟨_, _, Try.type3, rfl, rfl, rfl, rfl⟩, Try.underlying3⟩
set_option maxRecDepth 100000 in
theorem ty4 : TiOk Try.prog 4 (tenv 4) := ⟨⟨_, _, Try.type4, rfl, rfl, rfl, rfl⟩, Try.underlying4⟩
set_option maxRecDepth 100000 in
theorem ty5 : TiOk Try.prog 5 (tenv 5) := ⟨⟨_, _, Try.type5, rfl, rfl, rfl, rfl⟩, Try.underlying5⟩
set_option maxRecDepth 100000 in
theorem ty6 : TiOk Try.prog 6 (tenv 6) := ⟨⟨_, _, Try.type6, rfl, rfl, rfl, rfl⟩, Try.underlying6⟩
set_option maxRecDepth 100000 in
theorem ty7 : TiOk Try.prog 7 (tenv 7) := ⟨⟨_, _, Try.type7, rfl, rfl, rfl, rfl⟩, _, Try.underlying7, rfl, by kernel_rfl, rfl⟩
set_option maxRecDepth 100000 in
theorem ty8 : TiOk Try.prog 8 (tenv 8) := ⟨⟨_, _, Try.type8, rfl, rfl, rfl, rfl⟩, _, Try.underlying8, rfl, by kernel_rfl, rfl⟩
set_option maxRecDepth 100000 in
theorem ty9 : TiOk Try.prog 9 (tenv 9) := ⟨⟨_, _, Try.type9, rfl, rfl, rfl, rfl⟩, Try.underlying9⟩
set_option maxRecDepth 100000 in
theorem ty10 : TiOk Try.prog 10 (tenv 10) := ⟨⟨_, _, Try.type10, rfl, rfl, rfl, rfl⟩, Try.underlying10⟩
set_option maxRecDepth 100000 in
theorem ty11 : TiOk Try.prog 11 (tenv 11) := ⟨⟨_, _, Try.type11, rfl, rfl, rfl, rfl⟩, Try.underlying11⟩
set_option maxRecDepth 100000 in
theorem ty12 : TiOk Try.prog 12 (tenv 12) := ⟨⟨_, _, Try.type12, rfl, rfl, rfl, rfl⟩, Try.underlying12⟩
set_option maxRecDepth 100000 in
theorem ty13 : TiOk Try.prog 13 (tenv 13) := ⟨⟨_, _, Try.type13, rfl, rfl, rfl, rfl⟩, _, Try.underlying13, rfl, by kernel_rfl, rfl⟩
set_option maxRecDepth 100000 in
theorem ty14 : TiOk Try.prog 14 (tenv 14) := ⟨⟨_, _, Try.type14, rfl, rfl, rfl, rfl⟩, _, Try.underlying14, rfl, by kernel_rfl, rfl⟩
set_option maxRecDepth 100000 in
theorem ty15 : TiOk Try.prog 15 (tenv 15) := ⟨⟨_, _, Try.type15, rfl, rfl, rfl, rfl⟩, _, Try.underlying15, trivial⟩
set_option maxRecDepth 100000 in
theorem ty16 : TiOk Try.prog 16 (tenv 16) := ⟨⟨_, _, Try.type16, rfl, rfl, rfl, rfl⟩, _, Try.underlying16, trivial⟩
set_option maxRecDepth 100000 in
theorem ty17 : TiOk Try.prog 17 (tenv 17) := ⟨⟨_, _, Try.type17, rfl, rfl, rfl, rfl⟩, _, Try.underlying17, trivial⟩
set_option maxRecDepth 100000 in
theorem ty18 : TiOk Try.prog 18 (tenv 18) := ⟨⟨_, _, Try.type18, rfl, rfl, rfl, rfl⟩, _, Try.underlying18, rfl, by kernel_rfl, rfl⟩
set_option maxRecDepth 100000 in
theorem ty19 : TiOk Try.prog 19 (tenv 19) := ⟨⟨_, _, Try.type19, rfl, rfl, rfl, rfl⟩, _, Try.underlying19, rfl, by kernel_rfl, rfl⟩
set_option maxRecDepth 100000 in
theorem ty21 : TiOk Try.prog 21 (tenv 21) := ⟨⟨_, _, Try.type21, rfl, rfl, rfl, rfl⟩, Try.underlying21⟩
set_option maxRecDepth 100000 in
theorem ty22 : TiOk Try.prog 22 (tenv 22) := ⟨⟨_, _, Try.type22, rfl, rfl, rfl, rfl⟩, Try.underlying22, ⟨_, _, Try.type2, rfl, rfl, rfl, rfl⟩⟩
set_option maxRecDepth 100000 in
theorem ty23 : TiOk Try.prog 23 (tenv 23) := ⟨⟨_, _, Try.type23, rfl, rfl, rfl, rfl⟩, Try.underlying23, ⟨_, _, Try.type22, rfl, rfl, rfl, rfl⟩⟩
set_option maxRecDepth 100000 in
theorem ty24 : TiOk Try.prog 24 (tenv 24) := ⟨⟨_, _, Try.type24, rfl, rfl, rfl, rfl⟩, _, Try.underlying24, rfl, by kernel_rfl, rfl⟩
set_option maxRecDepth 100000 in
theorem ty25 : TiOk Try.prog 25 (tenv 25) := ⟨⟨_, _, Try.type25, rfl, rfl, rfl, rfl⟩, _, Try.underlying25, rfl, by kernel_rfl, rfl⟩
set_option maxRecDepth 100000 in
theorem ty26 : TiOk Try.prog 26 (tenv 26) := ⟨⟨_, _, Try.type26, rfl, rfl, rfl, rfl⟩, Try.underlying26, ⟨_, _, Try.type23, rfl, rfl, rfl, rfl⟩⟩
set_option maxRecDepth 100000 in
theorem ty27 : TiOk Try.prog 27 (tenv 27) := ⟨⟨_, _, Try.type27, rfl, rfl, rfl, rfl⟩, _, Try.underlying27, rfl, by kernel_rfl, rfl⟩
set_option maxRecDepth 100000 in
theorem ty28 : TiOk Try.prog 28 (tenv 28) := ⟨⟨_, _, Try.type28, rfl, rfl, rfl, rfl⟩, _, Try.underlying28, rfl, by kernel_rfl, rfl⟩
set_option maxRecDepth 100000 in
theorem ty30 : TiOk Try.prog 30 (tenv 30) := ⟨⟨_, _, Try.type30, rfl, rfl, rfl, rfl⟩, Try.underlying30, ⟨_, _, Try.type26, rfl, rfl, rfl, rfl⟩⟩
set_option maxRecDepth 100000 in
theorem ty33 : TiOk Try.prog 33 (tenv 33) := ⟨⟨_, _, Try.type33, rfl, rfl, rfl, rfl⟩, _, Try.underlying33, rfl, by kernel_rfl, rfl⟩
set_option maxRecDepth 100000 in
theorem ty34 : TiOk Try.prog 34 (tenv 34) := ⟨⟨_, _, Try.type34, rfl, rfl, rfl, rfl⟩, _, Try.underlying34, rfl, by kernel_rfl, rfl⟩
set_option maxRecDepth 100000 in
theorem ty35 : TiOk Try.prog 35 (tenv 35) := ⟨⟨_, _, Try.type35, rfl, rfl, rfl, rfl⟩, _, Try.underlying35, rfl, by kernel_rfl, rfl⟩
set_option maxRecDepth 100000 in
theorem ty37 : TiOk Try.prog 37 (tenv 37) := ⟨⟨_, _, Try.type37, rfl, rfl, rfl, rfl⟩, _, Try.underlying37, trivial⟩
set_option maxRecDepth 100000 in
theorem ty53 : TiOk Try.prog 53 (tenv 53) := ⟨⟨_, _, Try.type53, rfl, rfl, rfl, rfl⟩, _, Try.underlying53, trivial⟩
set_option maxRecDepth 100000 in
theorem ty56 : TiOk Try.prog 56 (tenv 56) := ⟨⟨_, _, Try.type56, rfl, rfl, rfl, rfl⟩, Try.underlying56, ⟨_, _, Try.type79, rfl, rfl, rfl, rfl⟩⟩
set_option maxRecDepth 100000 in
theorem ty64 : TiOk Try.prog 64 (tenv 64) := ⟨⟨_, _, Try.type64, rfl, rfl, rfl, rfl⟩, _, Try.underlying64, trivial⟩
set_option maxRecDepth 100000 in
theorem ty66 : TiOk Try.prog 66 (tenv 66) := ⟨⟨_, _, Try.type66, rfl, rfl, rfl, rfl⟩, _, Try.underlying66, trivial⟩
set_option maxRecDepth 100000 in
theorem ty70 : TiOk Try.prog 70 (tenv 70) := ⟨⟨_, _, Try.type70, rfl, rfl, rfl, rfl⟩, Try.underlying70, ⟨_, _, Try.type73, rfl, rfl, rfl, rfl⟩⟩
set_option maxRecDepth 100000 in
theorem ty72 : TiOk Try.prog 72 (tenv 72) := ⟨⟨_, _, Try.type72, rfl, rfl, rfl, rfl⟩, _, Try.underlying72, rfl, by kernel_rfl, rfl⟩
set_option maxRecDepth 100000 in
theorem ty73 : TiOk Try.prog 73 (tenv 73) := ⟨⟨_, _, Try.type73, rfl, rfl, rfl, rfl⟩, _, Try.underlying73, rfl, by kernel_rfl, rfl⟩
set_option maxRecDepth 100000 in
theorem ty75 : TiOk Try.prog 75 (tenv 75) := ⟨⟨_, _, Try.type75, rfl, rfl, rfl, rfl⟩, _, Try.underlying75, trivial⟩
set_option maxRecDepth 100000 in
theorem ty77 : TiOk Try.prog 77 (tenv 77) := ⟨⟨_, _, Try.type77, rfl, rfl, rfl, rfl⟩, _, Try.underlying77, trivial⟩
set_option maxRecDepth 100000 in
theorem ty78 : TiOk Try.prog 78 (tenv 78) := ⟨⟨_, _, Try.type78, rfl, rfl, rfl, rfl⟩, _, Try.underlying78, rfl, by kernel_rfl, rfl⟩
set_option maxRecDepth 100000 in
theorem ty79 : TiOk Try.prog 79 (tenv 79) := ⟨⟨_, _, Try.type79, rfl, rfl, rfl, rfl⟩, _, Try.underlying79, rfl, by kernel_rfl, rfl⟩
set_option maxRecDepth 100000 in
theorem ty80 : TiOk Try.prog 80 (tenv 80) := ⟨⟨_, _, Try.type80, rfl, rfl, rfl, rfl⟩, _, Try.underlying80, trivial⟩
set_option maxRecDepth 100000 in
theorem ty81 : TiOk Try.prog 81 (tenv 81) := ⟨⟨_, _, Try.type81, rfl, rfl, rfl, rfl⟩, _, Try.underlying81, trivial⟩
set_option maxRecDepth 100000 in
theorem ty82 : TiOk Try.prog 82 (tenv 82) := ⟨⟨_, _, Try.type82, rfl, rfl, rfl, rfl⟩, _, Try.underlying82, trivial⟩
set_option maxRecDepth 100000 in
theorem ty83 : TiOk Try.prog 83 (tenv 83) := ⟨⟨_, _, Try.type83, rfl, rfl, rfl, rfl⟩, _, Try.underlying83, rfl, by kernel_rfl, rfl⟩
set_option maxRecDepth 100000 in
theorem ty84 : TiOk Try.prog 84 (tenv 84) := ⟨⟨_, _, Try.type84, rfl, rfl, rfl, rfl⟩, _, Try.underlying84, rfl, by kernel_rfl, rfl⟩
set_option maxRecDepth 100000 in
theorem ty85 : TiOk Try.prog 85 (tenv 85) := ⟨⟨_, _, Try.type85, rfl, rfl, rfl, rfl⟩, _, Try.underlying85, trivial⟩
set_option maxRecDepth 100000 in
theorem ty88 : TiOk Try.prog 88 (tenv 88) := ⟨⟨_, _, Try.type88, rfl, rfl, rfl, rfl⟩, _, Try.underlying88, trivial⟩
set_option maxRecDepth 100000 in
theorem ty89 : TiOk Try.prog 89 (tenv 89) := ⟨⟨_, _, Try.type89, rfl, rfl, rfl, rfl⟩, _, Try.underlying89, trivial⟩
set_option maxRecDepth 100000 in
theorem ty90 : TiOk Try.prog 90 (tenv 90) := ⟨⟨_, _, Try.type90, rfl, rfl, rfl, rfl⟩, _, Try.underlying90, rfl, by kernel_rfl, rfl⟩
set_option maxRecDepth 100000 in
theorem ty91 : TiOk Try.prog 91 (tenv 91) := ⟨⟨_, _, Try.type91, rfl, rfl, rfl, rfl⟩, _, Try.underlying91, rfl, by kernel_rfl, rfl⟩
set_option maxRecDepth 100000 in
theorem ty94 : TiOk Try.prog 94 (tenv 94) := ⟨⟨_, _, Try.type94, rfl, rfl, rfl, rfl⟩, _, Try.underlying94, trivial⟩
set_option maxRecDepth 100000 in
theorem ty96 : TiOk Try.prog 96 (tenv 96) := ⟨⟨_, _, Try.type96, rfl, rfl, rfl, rfl⟩, _, Try.underlying96, trivial⟩
set_option maxRecDepth 100000 in
theorem ty99 : TiOk Try.prog 99 (tenv 99) := ⟨⟨_, _, Try.type99, rfl, rfl, rfl, rfl⟩, _, Try.underlying99, trivial⟩
set_option maxRecDepth 100000 in
theorem ty100 : TiOk Try.prog 100 (tenv 100) := ⟨⟨_, _, Try.type100, rfl, rfl, rfl, rfl⟩, _, Try.underlying100, trivial⟩
set_option maxRecDepth 100000 in
theorem ty103 : TiOk Try.prog 103 (tenv 103) := ⟨⟨_, _, Try.type103, rfl, rfl, rfl, rfl⟩, _, Try.underlying103, trivial⟩
set_option maxRecDepth 100000 in
theorem ty104 : TiOk Try.prog 104 (tenv 104) := ⟨⟨_, _, Try.type104, rfl, rfl, rfl, rfl⟩, _, Try.underlying104, trivial⟩
set_option maxRecDepth 100000 in
theorem ty105 : TiOk Try.prog 105 (tenv 105) := ⟨⟨_, _, Try.type105, rfl, rfl, rfl, rfl⟩, _, Try.underlying105, trivial⟩
set_option maxRecDepth 100000 in
theorem ty108 : TiOk Try.prog 108 (tenv 108) := ⟨⟨_, _, Try.type108, rfl, rfl, rfl, rfl⟩, _, Try.underlying108, trivial⟩
set_option maxRecDepth 100000 in
theorem ty109 : TiOk Try.prog 109 (tenv 109) := ⟨⟨_, _, Try.type109, rfl, rfl, rfl, rfl⟩, Try.underlying109, ⟨_, _, Try.type77, rfl, rfl, rfl, rfl⟩⟩
set_option maxRecDepth 100000 in
theorem ty111 : TiOk Try.prog 111 (tenv 111) := ⟨⟨_, _, Try.type111, rfl, rfl, rfl, rfl⟩, _, Try.underlying111, rfl, by kernel_rfl, rfl⟩
set_option maxRecDepth 100000 in
theorem ty112 : TiOk Try.prog 112 (tenv 112) := ⟨⟨_, _, Try.type112, rfl, rfl, rfl, rfl⟩, _, Try.underlying112, rfl, by kernel_rfl, rfl⟩
set_option maxRecDepth 100000 in
theorem ty114 : TiOk Try.prog 114 (tenv 114) := ⟨⟨_, _, Try.type114, rfl, rfl, rfl, rfl⟩, _, Try.underlying114, trivial⟩
set_option maxRecDepth 100000 in
theorem ty116 : TiOk Try.prog 116 (tenv 116) := ⟨⟨_, _, Try.type116, rfl, rfl, rfl, rfl⟩, _, Try.underlying116, rfl, by kernel_rfl, rfl⟩
set_option maxRecDepth 100000 in
theorem ty117 : TiOk Try.prog 117 (tenv 117) := ⟨⟨_, _, Try.type117, rfl, rfl, rfl, rfl⟩, _, Try.underlying117, rfl, by kernel_rfl, rfl⟩
set_option maxRecDepth 100000 in
theorem ty122 : TiOk Try.prog 122 (tenv 122) := ⟨⟨_, _, Try.type122, rfl, rfl, rfl, rfl⟩, Try.underlying122⟩
set_option maxRecDepth 100000 in
theorem ty123 : TiOk Try.prog 123 (tenv 123) := ⟨⟨_, _, Try.type123, rfl, rfl, rfl, rfl⟩, Try.underlying123⟩
set_option maxRecDepth 100000 in
theorem ty124 : TiOk Try.prog 124 (tenv 124) := ⟨⟨_, _, Try.type124, rfl, rfl, rfl, rfl⟩, Try.underlying124⟩
set_option maxRecDepth 100000 in
theorem ty126 : TiOk Try.prog 126 (tenv 126) := ⟨⟨_, _, Try.type126, rfl, rfl, rfl, rfl⟩, _, Try.underlying126, trivial⟩
set_option maxRecDepth 100000 in
theorem ty127 : TiOk Try.prog 127 (tenv 127) := ⟨⟨_, _, Try.type127, rfl, rfl, rfl, rfl⟩, Try.underlying127⟩
set_option maxRecDepth 100000 in
theorem ty128 : TiOk Try.prog 128 (tenv 128) := ⟨⟨_, _, Try.type128, rfl, rfl, rfl, rfl⟩, Try.underlying128⟩
set_option maxRecDepth 100000 in
theorem ty129 : TiOk Try.prog 129 (tenv 129) := ⟨⟨_, _, Try.type129, rfl, rfl, rfl, rfl⟩, _, Try.underlying129, rfl, by kernel_rfl, rfl⟩
set_option maxRecDepth 100000 in
theorem ty130 : TiOk Try.prog 130 (tenv 130) := ⟨⟨_, _, Try.type130, rfl, rfl, rfl, rfl⟩, _, Try.underlying130, rfl, by kernel_rfl, rfl⟩
theorem tok : ∀ t, TiOk Try.prog t (tenv t) := by
  intro t
  by_cases h : t ∈ [2, 3, 4, 5, 6, 7, 8, 9, 10, 11, 12, 13, 14, 15, 16, 17, 18, 19, 21, 22, 23, 24, 25, 26, 27, 28, 30, 33, 34, 35, 37, 53, 56, 64, 66, 70, 72, 73, 75, 77, 78, 79, 80, 81, 82, 83, 84, 85, 88, 89, 90, 91, 94, 96, 99, 100, 103, 104, 105, 108, 109, 111, 112, 114, 116, 117, 122, 123, 124, 126, 127, 128, 129, 130]
  · simp only [List.mem_cons, List.not_mem_nil, or_false] at h
    rcases h with rfl | rfl | rfl | rfl | rfl | rfl | rfl | rfl | rfl | rfl | rfl | rfl | rfl | rfl | rfl | rfl | rfl | rfl | rfl | rfl | rfl | rfl | rfl | rfl | rfl | rfl | rfl | rfl | rfl | rfl | rfl | rfl | rfl | rfl | rfl | rfl | rfl | rfl | rfl | rfl | rfl | rfl | rfl | rfl | rfl | rfl | rfl | rfl | rfl | rfl | rfl | rfl | rfl | rfl | rfl | rfl | rfl | rfl | rfl | rfl | rfl | rfl | rfl | rfl | rfl | rfl | rfl | rfl | rfl | rfl | rfl | rfl | rfl | rfl
    · exact ty2
    · exact ty3
    · exact ty4
    · exact ty5
    · exact ty6
    · exact ty7
    · exact ty8
    · exact ty9
    · exact ty10
    · exact ty11
    · exact ty12
    · exact ty13
    · exact ty14
    · exact ty15
    · exact ty16
    · exact ty17
    · exact ty18
    · exact ty19
    · exact ty21
    · exact ty22
    · exact ty23
    · exact ty24
    · exact ty25
    · exact ty26
    · exact ty27
    · exact ty28
    · exact ty30
    · exact ty33
    · exact ty34
    · exact ty35
    · exact ty37
    · exact ty53
    · exact ty56
    · exact ty64
    · exact ty66
    · exact ty70
    · exact ty72
    · exact ty73
    · exact ty75
    · exact ty77
    · exact ty78
    · exact ty79
    · exact ty80
    · exact ty81
    · exact ty82
    · exact ty83
    · exact ty84
    · exact ty85
    · exact ty88
    · exact ty89
    · exact ty90
    · exact ty91
    · exact ty94
    · exact ty96
    · exact ty99
    · exact ty100
    · exact ty103
    · exact ty104
    · exact ty105
    · exact ty108
    · exact ty109
    · exact ty111
    · exact ty112
    · exact ty114
    · exact ty116
    · exact ty117
    · exact ty122
    · exact ty123
    · exact ty124
    · exact ty126
    · exact ty127
    · exact ty128
    · exact ty129
    · exact ty130
  · have : tenv t = Ti.no := by
      unfold tenv
      split
      all_goals first | rfl | (exfalso; apply h; decide)
    rw [this]; trivial
noncomputable def TE : Env := { P := Try.prog, ti := tenv, ok := tok }
@[go_sem] theorem TE_ti (t : TypeId) : TE.ti t = tenv t := rfl
@[go_sem] theorem TE_P : TE.P = Try.prog := rfl
end Go.Eng
