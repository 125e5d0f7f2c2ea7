/- MADE BY PROGRAM (gentypes.py): what is known of the types of the seat. -/
import Derived.Test.YtmpopmololpaoaaKcx
import Derived.Test.YtmpopmololpaoaaProg
namespace Go.Eng
open Go Go.Proofs
def tenv : TypeId → Ti
  | 2 => ⟨.ik .i64, 1, 8, [.int .i64 0], default⟩
  | 3 => ⟨.ik .i64, 1, 8, [.int .i64 0], default⟩
  | 4 => ⟨.bk, 1, 1, [.bool false], default⟩
  | 5 => ⟨.ik .u8, 1, 1, [.int .u8 0], default⟩
  | 6 => ⟨.ik .u8, 1, 1, [.int .u8 0], default⟩
  | 7 => ⟨.st [(0, 1), (1, 1), (2, 1), (3, 1)], 4, 24, [.int .i64 0, .int .i64 0, .bool false, .int .u8 0], default⟩
  | 8 => ⟨.st [(0, 1), (1, 1), (2, 1), (3, 1)], 4, 24, [.int .i64 0, .int .i64 0, .bool false, .int .u8 0], default⟩
  | 9 => ⟨.strk, 1, 16, [.string ⟨#[]⟩], default⟩
  | 10 => ⟨.strk, 1, 16, [.string ⟨#[]⟩], default⟩
  | 11 => ⟨.strk, 1, 16, [.string ⟨#[]⟩], default⟩
  | 12 => ⟨.ik .u64, 1, 8, [.int .u64 0], default⟩
  | 13 => ⟨.st [(0, 1), (1, 1)], 2, 24, [.string ⟨#[]⟩, .int .u64 0], default⟩
  | 14 => ⟨.st [(0, 1), (1, 1)], 2, 24, [.string ⟨#[]⟩, .int .u64 0], default⟩
  | 15 => ⟨.sc, 1, 8, [.pointer none], default⟩
  | 16 => ⟨.sc, 1, 8, [.pointer none], default⟩
  | 17 => ⟨.sc, 1, 8, [.pointer none], default⟩
  | 18 => ⟨.st [(0, 1)], 1, 8, [.pointer none], default⟩
  | 19 => ⟨.st [(0, 1)], 1, 8, [.pointer none], default⟩
  | 21 => ⟨.ik .i32, 1, 4, [.int .i32 0], default⟩
  | 22 => ⟨.sli 2 1 8 [.int .i64 0], 1, 24, [.slice none 0 0], .v (.int .i64 0)⟩
  | 23 => ⟨.sli 22 1 24 [.slice none 0 0], 1, 24, [.slice none 0 0], .sl 1 (.v (.int .i64 0)) []⟩
  | 24 => ⟨.st [(0, 1), (1, 1), (2, 1), (3, 1), (4, 1)], 5, 104, [.int .i64 0, .slice none 0 0, .slice none 0 0, .slice none 0 0, .slice none 0 0], default⟩
  | 25 => ⟨.st [(0, 1), (1, 1), (2, 1), (3, 1), (4, 1)], 5, 104, [.int .i64 0, .slice none 0 0, .slice none 0 0, .slice none 0 0, .slice none 0 0], default⟩
  | 27 => ⟨.st [(0, 1), (1, 1), (2, 1), (3, 1), (4, 1)], 5, 104, [.int .i64 0, .slice none 0 0, .slice none 0 0, .slice none 0 0, .slice none 0 0], default⟩
  | 28 => ⟨.st [(0, 5), (5, 5), (10, 1), (11, 1)], 12, 256, [.int .i64 0, .slice none 0 0, .slice none 0 0, .slice none 0 0, .slice none 0 0, .int .i64 0, .slice none 0 0, .slice none 0 0, .slice none 0 0, .slice none 0 0, .slice none 0 0, .slice none 0 0], default⟩
  | 29 => ⟨.st [(0, 5), (5, 5), (10, 1), (11, 1)], 12, 256, [.int .i64 0, .slice none 0 0, .slice none 0 0, .slice none 0 0, .slice none 0 0, .int .i64 0, .slice none 0 0, .slice none 0 0, .slice none 0 0, .slice none 0 0, .slice none 0 0, .slice none 0 0], default⟩
  | 38 => ⟨.sli 29 12 256 [.int .i64 0, .slice none 0 0, .slice none 0 0, .slice none 0 0, .slice none 0 0, .int .i64 0, .slice none 0 0, .slice none 0 0, .slice none 0 0, .slice none 0 0, .slice none 0 0, .slice none 0 0], 1, 24, [.slice none 0 0], .v (.int .i64 0)⟩
  | 45 => ⟨.sc, 1, 8, [.nilFunc], default⟩
  | 54 => ⟨.sc, 1, 8, [.pointer none], default⟩
  | 58 => ⟨.sc, 1, 8, [.nilFunc], default⟩
  | 61 => ⟨.sli 2 1 8 [.int .i64 0], 1, 24, [.slice none 0 0], .v (.int .i64 0)⟩
  | 64 => ⟨.sli 2 1 8 [.int .i64 0], 1, 24, [.slice none 0 0], .v (.int .i64 0)⟩
  | 67 => ⟨.sc, 1, 8, [.pointer none], default⟩
  | 68 => ⟨.st [(0, 5), (5, 5), (10, 1), (11, 1), (12, 1), (13, 1)], 14, 288, [.int .i64 0, .slice none 0 0, .slice none 0 0, .slice none 0 0, .slice none 0 0, .int .i64 0, .slice none 0 0, .slice none 0 0, .slice none 0 0, .slice none 0 0, .slice none 0 0, .slice none 0 0, .int .i64 0, .slice none 0 0], default⟩
  | 69 => ⟨.st [(0, 5), (5, 5), (10, 1), (11, 1), (12, 1), (13, 1)], 14, 288, [.int .i64 0, .slice none 0 0, .slice none 0 0, .slice none 0 0, .slice none 0 0, .int .i64 0, .slice none 0 0, .slice none 0 0, .slice none 0 0, .slice none 0 0, .slice none 0 0, .slice none 0 0, .int .i64 0, .slice none 0 0], default⟩
  | 73 => ⟨.sli 54 1 8 [.pointer none], 1, 24, [.slice none 0 0], .v (.pointer none)⟩
  | 86 => ⟨.sc, 1, 8, [.nilFunc], default⟩
  | 89 => ⟨.sc, 1, 8, [.pointer none], default⟩
  | 94 => ⟨.sc, 1, 8, [.map none], default⟩
  | 97 => ⟨.sc, 1, 8, [.nilFunc], default⟩
  | 103 => ⟨.st [(0, 1), (1, 1)], 2, 16, [.int .i64 0, .int .i64 0], default⟩
  | 104 => ⟨.st [(0, 1), (1, 1)], 2, 16, [.int .i64 0, .int .i64 0], default⟩
  | 107 => ⟨.st [(0, 1), (1, 1), (2, 1), (3, 1), (4, 1), (5, 1)], 6, 80, [.pointer none, .pointer none, .slice none 0 0, .slice none 0 0, .bool false, .nilFunc], default⟩
  | 108 => ⟨.st [(0, 1), (1, 1), (2, 1), (3, 1), (4, 1), (5, 1)], 6, 80, [.pointer none, .pointer none, .slice none 0 0, .slice none 0 0, .bool false, .nilFunc], default⟩
  | 113 => ⟨.sli 4 1 1 [.bool false], 1, 24, [.slice none 0 0], .v (.bool false)⟩
  | 116 => ⟨.st [(0, 1), (1, 1), (2, 1), (3, 1)], 4, 40, [.pointer none, .pointer none, .pointer none, .string ⟨#[]⟩], default⟩
  | 117 => ⟨.st [(0, 1), (1, 1), (2, 1), (3, 1)], 4, 40, [.pointer none, .pointer none, .pointer none, .string ⟨#[]⟩], default⟩
  | 122 => ⟨.ik .u32, 1, 4, [.int .u32 0], default⟩
  | 123 => ⟨.ik .u8, 1, 1, [.int .u8 0], default⟩
  | 124 => ⟨.ik .u8, 1, 1, [.int .u8 0], default⟩
  | 126 => ⟨.sc, 1, 8, [.pointer none], default⟩
  | 127 => ⟨.ik .i32, 1, 4, [.int .i32 0], default⟩
  | 128 => ⟨.ik .i32, 1, 4, [.int .i32 0], default⟩
  | 129 => ⟨.st [(0, 1), (1, 1), (2, 1), (3, 1), (4, 1), (5, 1), (6, 1), (7, 1), (8, 1), (9, 1), (10, 1)], 11, 48, [.int .u64 0, .int .u64 0, .int .u32 0, .int .u8 0, .int .u8 0, .int .u8 0, .int .u8 0, .nilFunc, .pointer none, .int .i32 0, .int .i32 0], default⟩
  | 130 => ⟨.st [(0, 1), (1, 1), (2, 1), (3, 1), (4, 1), (5, 1), (6, 1), (7, 1), (8, 1), (9, 1), (10, 1)], 11, 48, [.int .u64 0, .int .u64 0, .int .u32 0, .int .u8 0, .int .u8 0, .int .u8 0, .int .u8 0, .nilFunc, .pointer none, .int .i32 0, .int .i32 0], default⟩
  | _ => Ti.no
@[go_sem] theorem tenv2 : tenv 2 = ⟨.ik .i64, 1, 8, [.int .i64 0], default⟩ := rfl
@[go_sem] theorem tenv3 : tenv 3 = ⟨.ik .i64, 1, 8, [.int .i64 0], default⟩ := rfl
@[go_sem] theorem tenv4 : tenv 4 = ⟨.bk, 1, 1, [.bool false], default⟩ := rfl
@[go_sem] theorem tenv5 : tenv 5 = ⟨.ik .u8, 1, 1, [.int .u8 0], default⟩ := rfl
@[go_sem] theorem tenv6 : tenv 6 = ⟨.ik .u8, 1, 1, [.int .u8 0], default⟩ := rfl
@[go_sem] theorem tenv7 : tenv 7 = ⟨.st [(0, 1), (1, 1), (2, 1), (3, 1)], 4, 24, [.int .i64 0, .int .i64 0, .bool false, .int .u8 0], default⟩ := rfl
@[go_sem] theorem tenv8 : tenv 8 = ⟨.st [(0, 1), (1, 1), (2, 1), (3, 1)], 4, 24, [.int .i64 0, .int .i64 0, .bool false, .int .u8 0], default⟩ := rfl
@[go_sem] theorem tenv9 : tenv 9 = ⟨.strk, 1, 16, [.string ⟨#[]⟩], default⟩ := rfl
@[go_sem] theorem tenv10 : tenv 10 = ⟨.strk, 1, 16, [.string ⟨#[]⟩], default⟩ := rfl
@[go_sem] theorem tenv11 : tenv 11 = ⟨.strk, 1, 16, [.string ⟨#[]⟩], default⟩ := rfl
@[go_sem] theorem tenv12 : tenv 12 = ⟨.ik .u64, 1, 8, [.int .u64 0], default⟩ := rfl
@[go_sem] theorem tenv13 : tenv 13 = ⟨.st [(0, 1), (1, 1)], 2, 24, [.string ⟨#[]⟩, .int .u64 0], default⟩ := rfl
@[go_sem] theorem tenv14 : tenv 14 = ⟨.st [(0, 1), (1, 1)], 2, 24, [.string ⟨#[]⟩, .int .u64 0], default⟩ := rfl
@[go_sem] theorem tenv15 : tenv 15 = ⟨.sc, 1, 8, [.pointer none], default⟩ := rfl
@[go_sem] theorem tenv16 : tenv 16 = ⟨.sc, 1, 8, [.pointer none], default⟩ := rfl
@[go_sem] theorem tenv17 : tenv 17 = ⟨.sc, 1, 8, [.pointer none], default⟩ := rfl
@[go_sem] theorem tenv18 : tenv 18 = ⟨.st [(0, 1)], 1, 8, [.pointer none], default⟩ := rfl
@[go_sem] theorem tenv19 : tenv 19 = ⟨.st [(0, 1)], 1, 8, [.pointer none], default⟩ := rfl
@[go_sem] theorem tenv21 : tenv 21 = ⟨.ik .i32, 1, 4, [.int .i32 0], default⟩ := rfl
@[go_sem] theorem tenv22 : tenv 22 = ⟨.sli 2 1 8 [.int .i64 0], 1, 24, [.slice none 0 0], .v (.int .i64 0)⟩ := rfl
@[go_sem] theorem tenv23 : tenv 23 = ⟨.sli 22 1 24 [.slice none 0 0], 1, 24, [.slice none 0 0], .sl 1 (.v (.int .i64 0)) []⟩ := rfl
@[go_sem] theorem tenv24 : tenv 24 = ⟨.st [(0, 1), (1, 1), (2, 1), (3, 1), (4, 1)], 5, 104, [.int .i64 0, .slice none 0 0, .slice none 0 0, .slice none 0 0, .slice none 0 0], default⟩ := rfl
@[go_sem] theorem tenv25 : tenv 25 = ⟨.st [(0, 1), (1, 1), (2, 1), (3, 1), (4, 1)], 5, 104, [.int .i64 0, .slice none 0 0, .slice none 0 0, .slice none 0 0, .slice none 0 0], default⟩ := rfl
@[go_sem] theorem tenv27 : tenv 27 = ⟨.st [(0, 1), (1, 1), (2, 1), (3, 1), (4, 1)], 5, 104, [.int .i64 0, .slice none 0 0, .slice none 0 0, .slice none 0 0, .slice none 0 0], default⟩ := rfl
@[go_sem] theorem tenv28 : tenv 28 = ⟨.st [(0, 5), (5, 5), (10, 1), (11, 1)], 12, 256, [.int .i64 0, .slice none 0 0, .slice none 0 0, .slice none 0 0, .slice none 0 0, .int .i64 0, .slice none 0 0, .slice none 0 0, .slice none 0 0, .slice none 0 0, .slice none 0 0, .slice none 0 0], default⟩ := rfl
@[go_sem] theorem tenv29 : tenv 29 = ⟨.st [(0, 5), (5, 5), (10, 1), (11, 1)], 12, 256, [.int .i64 0, .slice none 0 0, .slice none 0 0, .slice none 0 0, .slice none 0 0, .int .i64 0, .slice none 0 0, .slice none 0 0, .slice none 0 0, .slice none 0 0, .slice none 0 0, .slice none 0 0], default⟩ := rfl
@[go_sem] theorem tenv38 : tenv 38 = ⟨.sli 29 12 256 [.int .i64 0, .slice none 0 0, .slice none 0 0, .slice none 0 0, .slice none 0 0, .int .i64 0, .slice none 0 0, .slice none 0 0, .slice none 0 0, .slice none 0 0, .slice none 0 0, .slice none 0 0], 1, 24, [.slice none 0 0], .v (.int .i64 0)⟩ := rfl
@[go_sem] theorem tenv45 : tenv 45 = ⟨.sc, 1, 8, [.nilFunc], default⟩ := rfl
@[go_sem] theorem tenv54 : tenv 54 = ⟨.sc, 1, 8, [.pointer none], default⟩ := rfl
@[go_sem] theorem tenv58 : tenv 58 = ⟨.sc, 1, 8, [.nilFunc], default⟩ := rfl
@[go_sem] theorem tenv61 : tenv 61 = ⟨.sli 2 1 8 [.int .i64 0], 1, 24, [.slice none 0 0], .v (.int .i64 0)⟩ := rfl
@[go_sem] theorem tenv64 : tenv 64 = ⟨.sli 2 1 8 [.int .i64 0], 1, 24, [.slice none 0 0], .v (.int .i64 0)⟩ := rfl
@[go_sem] theorem tenv67 : tenv 67 = ⟨.sc, 1, 8, [.pointer none], default⟩ := rfl
@[go_sem] theorem tenv68 : tenv 68 = ⟨.st [(0, 5), (5, 5), (10, 1), (11, 1), (12, 1), (13, 1)], 14, 288, [.int .i64 0, .slice none 0 0, .slice none 0 0, .slice none 0 0, .slice none 0 0, .int .i64 0, .slice none 0 0, .slice none 0 0, .slice none 0 0, .slice none 0 0, .slice none 0 0, .slice none 0 0, .int .i64 0, .slice none 0 0], default⟩ := rfl
@[go_sem] theorem tenv69 : tenv 69 = ⟨.st [(0, 5), (5, 5), (10, 1), (11, 1), (12, 1), (13, 1)], 14, 288, [.int .i64 0, .slice none 0 0, .slice none 0 0, .slice none 0 0, .slice none 0 0, .int .i64 0, .slice none 0 0, .slice none 0 0, .slice none 0 0, .slice none 0 0, .slice none 0 0, .slice none 0 0, .int .i64 0, .slice none 0 0], default⟩ := rfl
@[go_sem] theorem tenv73 : tenv 73 = ⟨.sli 54 1 8 [.pointer none], 1, 24, [.slice none 0 0], .v (.pointer none)⟩ := rfl
@[go_sem] theorem tenv86 : tenv 86 = ⟨.sc, 1, 8, [.nilFunc], default⟩ := rfl
@[go_sem] theorem tenv89 : tenv 89 = ⟨.sc, 1, 8, [.pointer none], default⟩ := rfl
@[go_sem] theorem tenv94 : tenv 94 = ⟨.sc, 1, 8, [.map none], default⟩ := rfl
@[go_sem] theorem tenv97 : tenv 97 = ⟨.sc, 1, 8, [.nilFunc], default⟩ := rfl
@[go_sem] theorem tenv103 : tenv 103 = ⟨.st [(0, 1), (1, 1)], 2, 16, [.int .i64 0, .int .i64 0], default⟩ := rfl
@[go_sem] theorem tenv104 : tenv 104 = ⟨.st [(0, 1), (1, 1)], 2, 16, [.int .i64 0, .int .i64 0], default⟩ := rfl
@[go_sem] theorem tenv107 : tenv 107 = ⟨.st [(0, 1), (1, 1), (2, 1), (3, 1), (4, 1), (5, 1)], 6, 80, [.pointer none, .pointer none, .slice none 0 0, .slice none 0 0, .bool false, .nilFunc], default⟩ := rfl
@[go_sem] theorem tenv108 : tenv 108 = ⟨.st [(0, 1), (1, 1), (2, 1), (3, 1), (4, 1), (5, 1)], 6, 80, [.pointer none, .pointer none, .slice none 0 0, .slice none 0 0, .bool false, .nilFunc], default⟩ := rfl
@[go_sem] theorem tenv113 : tenv 113 = ⟨.sli 4 1 1 [.bool false], 1, 24, [.slice none 0 0], .v (.bool false)⟩ := rfl
@[go_sem] theorem tenv116 : tenv 116 = ⟨.st [(0, 1), (1, 1), (2, 1), (3, 1)], 4, 40, [.pointer none, .pointer none, .pointer none, .string ⟨#[]⟩], default⟩ := rfl
@[go_sem] theorem tenv117 : tenv 117 = ⟨.st [(0, 1), (1, 1), (2, 1), (3, 1)], 4, 40, [.pointer none, .pointer none, .pointer none, .string ⟨#[]⟩], default⟩ := rfl
@[go_sem] theorem tenv122 : tenv 122 = ⟨.ik .u32, 1, 4, [.int .u32 0], default⟩ := rfl
@[go_sem] theorem tenv123 : tenv 123 = ⟨.ik .u8, 1, 1, [.int .u8 0], default⟩ := rfl
@[go_sem] theorem tenv124 : tenv 124 = ⟨.ik .u8, 1, 1, [.int .u8 0], default⟩ := rfl
@[go_sem] theorem tenv126 : tenv 126 = ⟨.sc, 1, 8, [.pointer none], default⟩ := rfl
@[go_sem] theorem tenv127 : tenv 127 = ⟨.ik .i32, 1, 4, [.int .i32 0], default⟩ := rfl
@[go_sem] theorem tenv128 : tenv 128 = ⟨.ik .i32, 1, 4, [.int .i32 0], default⟩ := rfl
@[go_sem] theorem tenv129 : tenv 129 = ⟨.st [(0, 1), (1, 1), (2, 1), (3, 1), (4, 1), (5, 1), (6, 1), (7, 1), (8, 1), (9, 1), (10, 1)], 11, 48, [.int .u64 0, .int .u64 0, .int .u32 0, .int .u8 0, .int .u8 0, .int .u8 0, .int .u8 0, .nilFunc, .pointer none, .int .i32 0, .int .i32 0], default⟩ := rfl
@[go_sem] theorem tenv130 : tenv 130 = ⟨.st [(0, 1), (1, 1), (2, 1), (3, 1), (4, 1), (5, 1), (6, 1), (7, 1), (8, 1), (9, 1), (10, 1)], 11, 48, [.int .u64 0, .int .u64 0, .int .u32 0, .int .u8 0, .int .u8 0, .int .u8 0, .int .u8 0, .nilFunc, .pointer none, .int .i32 0, .int .i32 0], default⟩ := rfl
set_option maxRecDepth 100000 in
theorem ty2 : TiOk Try.prog 2 (tenv 2) := ⟨⟨_, _, Try.type2, rfl, rfl, rfl, rfl⟩, Try.underlying2⟩
set_option maxRecDepth 100000 in
theorem ty3 : TiOk Try.prog 3 (tenv 3) := ⟨⟨_, _, Try.type3, rfl, rfl, rfl, rfl⟩, Try.underlying3⟩
set_option maxRecDepth 100000 in
theorem ty4 : TiOk Try.prog 4 (tenv 4) := ⟨⟨_, _, Try.type4, rfl, rfl, rfl, rfl⟩, Try.underlying4⟩
set_option maxRecDepth 100000 in
theorem ty5 : TiOk Try.prog 5 (tenv 5) := ⟨⟨_, _, Try.type5, rfl, rfl, rfl, rfl⟩, Try.underlying5⟩
set_option maxRecDepth 100000 in
theorem ty6 : TiOk Try.prog 6 (tenv 6) := ⟨⟨_, _, Try.type6, rfl, rfl, rfl, rfl⟩, Try.underlying6⟩
set_option maxRecDepth 100000 in
theorem ty7 : TiOk Try.prog 7 (tenv 7) := ⟨⟨_, _, Try.type7, rfl, rfl, rfl, rfl⟩, _, Try.underlying7, rfl, by kernel_rfl, rfl⟩
set_option maxRecDepth 100000 in
theorem ty8 : TiOk Try.prog 8 (tenv 8) := ⟨⟨_, _, Try.type8, rfl, rfl, rfl, rfl⟩, _, Try.underlying8, rfl, by kernel_rfl, rfl⟩
set_option maxRecDepth 100000 in
theorem ty9 : TiOk Try.prog 9 (tenv 9) := ⟨⟨_, _, Try.type9, rfl, rfl, rfl, rfl⟩, Try.underlying9⟩
set_option maxRecDepth 100000 in
theorem ty10 : TiOk Try.prog 10 (tenv 10) := ⟨⟨_, _, Try.type10, rfl, rfl, rfl, rfl⟩, Try.underlying10⟩
set_option maxRecDepth 100000 in
theorem ty11 : TiOk Try.prog 11 (tenv 11) := ⟨⟨_, _, Try.type11, rfl, rfl, rfl, rfl⟩, Try.underlying11⟩
set_option maxRecDepth 100000 in
theorem ty12 : TiOk Try.prog 12 (tenv 12) := ⟨⟨_, _, Try.type12, rfl, rfl, rfl, rfl⟩, Try.underlying12⟩
set_option maxRecDepth 100000 in
theorem ty13 : TiOk Try.prog 13 (tenv 13) := ⟨⟨_, _, Try.type13, rfl, rfl, rfl, rfl⟩, _, Try.underlying13, rfl, by kernel_rfl, rfl⟩
set_option maxRecDepth 100000 in
theorem ty14 : TiOk Try.prog 14 (tenv 14) := ⟨⟨_, _, Try.type14, rfl, rfl, rfl, rfl⟩, _, Try.underlying14, rfl, by kernel_rfl, rfl⟩
set_option maxRecDepth 100000 in
theorem ty15 : TiOk Try.prog 15 (tenv 15) := ⟨⟨_, _, Try.type15, rfl, rfl, rfl, rfl⟩, _, Try.underlying15, trivial⟩
set_option maxRecDepth 100000 in
theorem ty16 : TiOk Try.prog 16 (tenv 16) := ⟨⟨_, _, Try.type16, rfl, rfl, rfl, rfl⟩, _, Try.underlying16, trivial⟩
set_option maxRecDepth 100000 in
theorem ty17 : TiOk Try.prog 17 (tenv 17) := ⟨⟨_, _, Try.type17, rfl, rfl, rfl, rfl⟩, _, Try.underlying17, trivial⟩
set_option maxRecDepth 100000 in
theorem ty18 : TiOk Try.prog 18 (tenv 18) := ⟨⟨_, _, Try.type18, rfl, rfl, rfl, rfl⟩, _, Try.underlying18, rfl, by kernel_rfl, rfl⟩
set_option maxRecDepth 100000 in
theorem ty19 : TiOk Try.prog 19 (tenv 19) := ⟨⟨_, _, Try.type19, rfl, rfl, rfl, rfl⟩, _, Try.underlying19, rfl, by kernel_rfl, rfl⟩
set_option maxRecDepth 100000 in
theorem ty21 : TiOk Try.prog 21 (tenv 21) := ⟨⟨_, _, Try.type21, rfl, rfl, rfl, rfl⟩, Try.underlying21⟩
set_option maxRecDepth 100000 in
theorem ty22 : TiOk Try.prog 22 (tenv 22) := ⟨⟨_, _, Try.type22, rfl, rfl, rfl, rfl⟩, Try.underlying22, ⟨_, _, Try.type2, rfl, rfl, rfl, rfl⟩⟩
set_option maxRecDepth 100000 in
theorem ty23 : TiOk Try.prog 23 (tenv 23) := ⟨⟨_, _, Try.type23, rfl, rfl, rfl, rfl⟩, Try.underlying23, ⟨_, _, Try.type22, rfl, rfl, rfl, rfl⟩⟩
set_option maxRecDepth 100000 in
theorem ty24 : TiOk Try.prog 24 (tenv 24) := ⟨⟨_, _, Try.type24, rfl, rfl, rfl, rfl⟩, _, Try.underlying24, rfl, by kernel_rfl, rfl⟩
set_option maxRecDepth 100000 in
theorem ty25 : TiOk Try.prog 25 (tenv 25) := ⟨⟨_, _, Try.type25, rfl, rfl, rfl, rfl⟩, _, Try.underlying25, rfl, by kernel_rfl, rfl⟩
set_option maxRecDepth 100000 in
theorem ty27 : TiOk Try.prog 27 (tenv 27) := ⟨⟨_, _, Try.type27, rfl, rfl, rfl, rfl⟩, _, Try.underlying27, rfl, by kernel_rfl, rfl⟩
set_option maxRecDepth 100000 in
theorem ty28 : TiOk Try.prog 28 (tenv 28) := ⟨⟨_, _, Try.type28, rfl, rfl, rfl, rfl⟩, _, Try.underlying28, rfl, by kernel_rfl, rfl⟩
set_option maxRecDepth 100000 in
theorem ty29 : TiOk Try.prog 29 (tenv 29) := ⟨⟨_, _, Try.type29, rfl, rfl, rfl, rfl⟩, _, Try.underlying29, rfl, by kernel_rfl, rfl⟩
set_option maxRecDepth 100000 in
theorem ty38 : TiOk Try.prog 38 (tenv 38) := ⟨⟨_, _, Try.type38, rfl, rfl, rfl, rfl⟩, Try.underlying38, ⟨_, _, Try.type29, rfl, rfl, rfl, rfl⟩⟩
set_option maxRecDepth 100000 in
theorem ty45 : TiOk Try.prog 45 (tenv 45) := ⟨⟨_, _, Try.type45, rfl, rfl, rfl, rfl⟩, _, Try.underlying45, trivial⟩
set_option maxRecDepth 100000 in
theorem ty54 : TiOk Try.prog 54 (tenv 54) := ⟨⟨_, _, Try.type54, rfl, rfl, rfl, rfl⟩, _, Try.underlying54, trivial⟩
set_option maxRecDepth 100000 in
theorem ty58 : TiOk Try.prog 58 (tenv 58) := ⟨⟨_, _, Try.type58, rfl, rfl, rfl, rfl⟩, _, Try.underlying58, trivial⟩
set_option maxRecDepth 100000 in
theorem ty61 : TiOk Try.prog 61 (tenv 61) := ⟨⟨_, _, Try.type61, rfl, rfl, rfl, rfl⟩, Try.underlying61, ⟨_, _, Try.type2, rfl, rfl, rfl, rfl⟩⟩
set_option maxRecDepth 100000 in
theorem ty64 : TiOk Try.prog 64 (tenv 64) := ⟨⟨_, _, Try.type64, rfl, rfl, rfl, rfl⟩, Try.underlying64, ⟨_, _, Try.type2, rfl, rfl, rfl, rfl⟩⟩
set_option maxRecDepth 100000 in
theorem ty67 : TiOk Try.prog 67 (tenv 67) := ⟨⟨_, _, Try.type67, rfl, rfl, rfl, rfl⟩, _, Try.underlying67, trivial⟩
set_option maxRecDepth 100000 in
theorem ty68 : TiOk Try.prog 68 (tenv 68) := ⟨⟨_, _, Try.type68, rfl, rfl, rfl, rfl⟩, _, Try.underlying68, rfl, by kernel_rfl, rfl⟩
set_option maxRecDepth 100000 in
theorem ty69 : TiOk Try.prog 69 (tenv 69) := ⟨⟨_, _, Try.type69, rfl, rfl, rfl, rfl⟩, _, Try.underlying69, rfl, by kernel_rfl, rfl⟩
set_option maxRecDepth 100000 in
theorem ty73 : TiOk Try.prog 73 (tenv 73) := ⟨⟨_, _, Try.type73, rfl, rfl, rfl, rfl⟩, Try.underlying73, ⟨_, _, Try.type54, rfl, rfl, rfl, rfl⟩⟩
set_option maxRecDepth 100000 in
theorem ty86 : TiOk Try.prog 86 (tenv 86) := ⟨⟨_, _, Try.type86, rfl, rfl, rfl, rfl⟩, _, Try.underlying86, trivial⟩
set_option maxRecDepth 100000 in
theorem ty89 : TiOk Try.prog 89 (tenv 89) := ⟨⟨_, _, Try.type89, rfl, rfl, rfl, rfl⟩, _, Try.underlying89, trivial⟩
set_option maxRecDepth 100000 in
theorem ty94 : TiOk Try.prog 94 (tenv 94) := ⟨⟨_, _, Try.type94, rfl, rfl, rfl, rfl⟩, _, Try.underlying94, trivial⟩
set_option maxRecDepth 100000 in
theorem ty97 : TiOk Try.prog 97 (tenv 97) := ⟨⟨_, _, Try.type97, rfl, rfl, rfl, rfl⟩, _, Try.underlying97, trivial⟩
set_option maxRecDepth 100000 in
theorem ty103 : TiOk Try.prog 103 (tenv 103) := ⟨⟨_, _, Try.type103, rfl, rfl, rfl, rfl⟩, _, Try.underlying103, rfl, by kernel_rfl, rfl⟩
set_option maxRecDepth 100000 in
theorem ty104 : TiOk Try.prog 104 (tenv 104) := ⟨⟨_, _, Try.type104, rfl, rfl, rfl, rfl⟩, _, Try.underlying104, rfl, by kernel_rfl, rfl⟩
set_option maxRecDepth 100000 in
theorem ty107 : TiOk Try.prog 107 (tenv 107) := ⟨⟨_, _, Try.type107, rfl, rfl, rfl, rfl⟩, _, Try.underlying107, rfl, by kernel_rfl, rfl⟩
set_option maxRecDepth 100000 in
theorem ty108 : TiOk Try.prog 108 (tenv 108) := ⟨⟨_, _, Try.type108, rfl, rfl, rfl, rfl⟩, _, Try.underlying108, rfl, by kernel_rfl, rfl⟩
set_option maxRecDepth 100000 in
theorem ty113 : TiOk Try.prog 113 (tenv 113) := ⟨⟨_, _, Try.type113, rfl, rfl, rfl, rfl⟩, Try.underlying113, ⟨_, _, Try.type4, rfl, rfl, rfl, rfl⟩⟩
set_option maxRecDepth 100000 in
theorem ty116 : TiOk Try.prog 116 (tenv 116) := ⟨⟨_, _, Try.type116, rfl, rfl, rfl, rfl⟩, _, Try.underlying116, rfl, by kernel_rfl, rfl⟩
set_option maxRecDepth 100000 in
theorem ty117 : TiOk Try.prog 117 (tenv 117) := ⟨⟨_, _, Try.type117, rfl, rfl, rfl, rfl⟩, _, Try.underlying117, rfl, by kernel_rfl, rfl⟩
set_option maxRecDepth 100000 in
theorem ty122 : TiOk Try.prog 122 (tenv 122) := ⟨⟨_, _, Try.type122, rfl, rfl, rfl, rfl⟩, Try.underlying122⟩
set_option maxRecDepth 100000 in
theorem ty123 : TiOk Try.prog 123 (tenv 123) := ⟨⟨_, _, Try.type123, rfl, rfl, rfl, rfl⟩, Try.underlying123⟩
set_option maxRecDepth 100000 in
theorem ty124 : TiOk Try.prog 124 (tenv 124) := ⟨⟨_, _, Try.type124, rfl, rfl, rfl, rfl⟩, Try.underlying124⟩
set_option maxRecDepth 100000 in
theorem ty126 : TiOk Try.prog 126 (tenv 126) := ⟨⟨_, _, Try.type126, rfl, rfl, rfl, rfl⟩, _, Try.underlying126, trivial⟩
set_option maxRecDepth 100000 in
theorem ty127 : TiOk Try.prog 127 (tenv 127) := ⟨⟨_, _, Try.type127, rfl, rfl, rfl, rfl⟩, Try.underlying127⟩
set_option maxRecDepth 100000 in
theorem ty128 : TiOk Try.prog 128 (tenv 128) := ⟨⟨_, _, Try.type128, rfl, rfl, rfl, rfl⟩, Try.underlying128⟩
set_option maxRecDepth 100000 in
theorem ty129 : TiOk Try.prog 129 (tenv 129) := ⟨⟨_, _, Try.type129, rfl, rfl, rfl, rfl⟩, _, Try.underlying129, rfl, by kernel_rfl, rfl⟩
set_option maxRecDepth 100000 in
theorem ty130 : TiOk Try.prog 130 (tenv 130) := ⟨⟨_, _, Try.type130, rfl, rfl, rfl, rfl⟩, _, Try.underlying130, rfl, by kernel_rfl, rfl⟩
theorem tok : ∀ t, TiOk Try.prog t (tenv t) := by
  intro t
  by_cases h : t ∈ [2, 3, 4, 5, 6, 7, 8, 9, 10, 11, 12, 13, 14, 15, 16, 17, 18, 19, 21, 22, 23, 24, 25, 27, 28, 29, 38, 45, 54, 58, 61, 64, 67, 68, 69, 73, 86, 89, 94, 97, 103, 104, 107, 108, 113, 116, 117, 122, 123, 124, 126, 127, 128, 129, 130]
  · simp only [List.mem_cons, List.not_mem_nil, or_false] at h
    rcases h with rfl | rfl | rfl | rfl | rfl | rfl | rfl | rfl | rfl | rfl | rfl | rfl | rfl | rfl | rfl | rfl | rfl | rfl | rfl | rfl | rfl | rfl | rfl | rfl | rfl | rfl | rfl | rfl | rfl | rfl | rfl | rfl | rfl | rfl | rfl | rfl | rfl | rfl | rfl | rfl | rfl | rfl | rfl | rfl | rfl | rfl | rfl | rfl | rfl | rfl | rfl | rfl | rfl | rfl | rfl
    · exact ty2
    · exact ty3
    · exact ty4
    · exact ty5
    · exact ty6
    · exact ty7
    · exact ty8
    · exact ty9
    · exact ty10
    · exact ty11
    · exact ty12
    · exact ty13
    · exact ty14
    · exact ty15
    · exact ty16
    · exact ty17
    · exact ty18
    · exact ty19
    · exact ty21
    · exact ty22
    · exact ty23
    · exact ty24
    · exact ty25
    · exact ty27
    · exact ty28
    · exact ty29
    · exact ty38
    · exact ty45
    · exact ty54
    · exact ty58
    · exact ty61
    · exact ty64
    · exact ty67
    · exact ty68
    · exact ty69
    · exact ty73
    · exact ty86
    · exact ty89
    · exact ty94
    · exact ty97
    · exact ty103
    · exact ty104
    · exact ty107
    · exact ty108
    · exact ty113
    · exact ty116
    · exact ty117
    · exact ty122
    · exact ty123
    · exact ty124
    · exact ty126
    · exact ty127
    · exact ty128
    · exact ty129
    · exact ty130
  · have : tenv t = Ti.no := by
      unfold tenv
      split
      all_goals first | rfl | (exfalso; apply h; decide)
    rw [this]; trivial
noncomputable def TE : Env := { P := Try.prog, ti := tenv, ok := tok }
@[go_sem] theorem TE_ti (t : TypeId) : TE.ti t = tenv t := rfl
@[go_sem] theorem TE_P : TE.P = Try.prog := rfl
end Go.Eng
