/- MADE BY PROGRAM (gentypes.py): what is known of the types of the seat. -/
import Derived.Test.YtbflkfamigcncaaGreatKcx
import Derived.Test.YtbflkfamigcncaaGreatProg
namespace Go.Eng
open Go Go.Proofs
def tenv : TypeId → Ti
  | 2 => ⟨.ik .i64, 1, 8, [.int .i64 0], default⟩
  | 3 => ⟨.ik .i64, 1, 8, [.int .i64 0], default⟩
  | 4 => ⟨.bk, 1, 1, [.bool false], default⟩
  | 5 => ⟨.ik .u8, 1, 1, [.int .u8 0], default⟩
  | 6 => ⟨.ik .u8, 1, 1, [.int .u8 0], default⟩
  | 7 => ⟨.st [(0, 1), (1, 1), (2, 1), (3, 1)], 4, 24, [.int .i64 0, .int .i64 0, .bool false, .int .u8 0], default⟩
  | 8 => ⟨.st [(0, 1), (1, 1), (2, 1), (3, 1)], 4, 24, [.int .i64 0, .int .i64 0, .bool false, .int .u8 0], default⟩
  | 9 => ⟨.strk, 1, 16, [.string ⟨#[]⟩], default⟩
  | 10 => ⟨.strk, 1, 16, [.string ⟨#[]⟩], default⟩
  | 11 => ⟨.strk, 1, 16, [.string ⟨#[]⟩], default⟩
  | 12 => ⟨.ik .u64, 1, 8, [.int .u64 0], default⟩
  | 13 => ⟨.st [(0, 1), (1, 1)], 2, 24, [.string ⟨#[]⟩, .int .u64 0], default⟩
  | 14 => ⟨.st [(0, 1), (1, 1)], 2, 24, [.string ⟨#[]⟩, .int .u64 0], default⟩
  | 15 => ⟨.sc, 1, 8, [.pointer none], default⟩
  | 16 => ⟨.sc, 1, 8, [.pointer none], default⟩
  | 17 => ⟨.sc, 1, 8, [.pointer none], default⟩
  | 18 => ⟨.st [(0, 1)], 1, 8, [.pointer none], default⟩
  | 19 => ⟨.st [(0, 1)], 1, 8, [.pointer none], default⟩
  | 21 => ⟨.ik .i32, 1, 4, [.int .i32 0], default⟩
  | 22 => ⟨.sli 5 1 1 [.int .u8 0], 1, 24, [.slice none 0 0], .v (.int .u8 0)⟩
  | 24 => ⟨.sli 2 1 8 [.int .i64 0], 1, 24, [.slice none 0 0], .v (.int .i64 0)⟩
  | 25 => ⟨.sli 24 1 24 [.slice none 0 0], 1, 24, [.slice none 0 0], .sl 1 (.v (.int .i64 0)) []⟩
  | 26 => ⟨.st [(0, 1), (1, 1), (2, 1), (3, 1), (4, 1)], 5, 104, [.int .i64 0, .slice none 0 0, .slice none 0 0, .slice none 0 0, .slice none 0 0], default⟩
  | 27 => ⟨.st [(0, 1), (1, 1), (2, 1), (3, 1), (4, 1)], 5, 104, [.int .i64 0, .slice none 0 0, .slice none 0 0, .slice none 0 0, .slice none 0 0], default⟩
  | 32 => ⟨.st [(0, 5), (5, 5), (10, 1), (11, 1)], 12, 256, [.int .i64 0, .slice none 0 0, .slice none 0 0, .slice none 0 0, .slice none 0 0, .int .i64 0, .slice none 0 0, .slice none 0 0, .slice none 0 0, .slice none 0 0, .slice none 0 0, .slice none 0 0], default⟩
  | 33 => ⟨.st [(0, 5), (5, 5), (10, 1), (11, 1)], 12, 256, [.int .i64 0, .slice none 0 0, .slice none 0 0, .slice none 0 0, .slice none 0 0, .int .i64 0, .slice none 0 0, .slice none 0 0, .slice none 0 0, .slice none 0 0, .slice none 0 0, .slice none 0 0], default⟩
  | 44 => ⟨.sc, 1, 8, [.pointer none], default⟩
  | 46 => ⟨.ik .u64, 1, 8, [.int .u64 0], default⟩
  | 48 => ⟨.sc, 1, 8, [.nilFunc], default⟩
  | 53 => ⟨.sli 33 12 256 [.int .i64 0, .slice none 0 0, .slice none 0 0, .slice none 0 0, .slice none 0 0, .int .i64 0, .slice none 0 0, .slice none 0 0, .slice none 0 0, .slice none 0 0, .slice none 0 0, .slice none 0 0], 1, 24, [.slice none 0 0], .v (.int .i64 0)⟩
  | 69 => ⟨.sc, 1, 8, [.nilFunc], default⟩
  | 71 => ⟨.st [(0, 12), (12, 12), (24, 1)], 25, 536, [.int .i64 0, .slice none 0 0, .slice none 0 0, .slice none 0 0, .slice none 0 0, .int .i64 0, .slice none 0 0, .slice none 0 0, .slice none 0 0, .slice none 0 0, .slice none 0 0, .slice none 0 0, .int .i64 0, .slice none 0 0, .slice none 0 0, .slice none 0 0, .slice none 0 0, .int .i64 0, .slice none 0 0, .slice none 0 0, .slice none 0 0, .slice none 0 0, .slice none 0 0, .slice none 0 0, .slice none 0 0], default⟩
  | 72 => ⟨.st [(0, 12), (12, 12), (24, 1)], 25, 536, [.int .i64 0, .slice none 0 0, .slice none 0 0, .slice none 0 0, .slice none 0 0, .int .i64 0, .slice none 0 0, .slice none 0 0, .slice none 0 0, .slice none 0 0, .slice none 0 0, .slice none 0 0, .int .i64 0, .slice none 0 0, .slice none 0 0, .slice none 0 0, .slice none 0 0, .int .i64 0, .slice none 0 0, .slice none 0 0, .slice none 0 0, .slice none 0 0, .slice none 0 0, .slice none 0 0, .slice none 0 0], default⟩
  | 73 => ⟨.st [(0, 5), (5, 1), (6, 1)], 7, 152, [.int .i64 0, .slice none 0 0, .slice none 0 0, .slice none 0 0, .slice none 0 0, .slice none 0 0, .slice none 0 0], default⟩
  | 74 => ⟨.st [(0, 5), (5, 1), (6, 1)], 7, 152, [.int .i64 0, .slice none 0 0, .slice none 0 0, .slice none 0 0, .slice none 0 0, .slice none 0 0, .slice none 0 0], default⟩
  | 75 => ⟨.st [(0, 7), (7, 7), (14, 1)], 15, 328, [.int .i64 0, .slice none 0 0, .slice none 0 0, .slice none 0 0, .slice none 0 0, .slice none 0 0, .slice none 0 0, .int .i64 0, .slice none 0 0, .slice none 0 0, .slice none 0 0, .slice none 0 0, .slice none 0 0, .slice none 0 0, .slice none 0 0], default⟩
  | 76 => ⟨.st [(0, 7), (7, 7), (14, 1)], 15, 328, [.int .i64 0, .slice none 0 0, .slice none 0 0, .slice none 0 0, .slice none 0 0, .slice none 0 0, .slice none 0 0, .int .i64 0, .slice none 0 0, .slice none 0 0, .slice none 0 0, .slice none 0 0, .slice none 0 0, .slice none 0 0, .slice none 0 0], default⟩
  | 84 => ⟨.sc, 1, 8, [.pointer none], default⟩
  | 87 => ⟨.sc, 1, 8, [.pointer none], default⟩
  | 92 => ⟨.sc, 1, 8, [.nilFunc], default⟩
  | 94 => ⟨.sc, 1, 8, [.nilFunc], default⟩
  | 96 => ⟨.sc, 1, 8, [.pointer none], default⟩
  | 103 => ⟨.sc, 1, 8, [.pointer none], default⟩
  | 106 => ⟨.sc, 1, 8, [.pointer none], default⟩
  | 109 => ⟨.sc, 1, 8, [.nilFunc], default⟩
  | 111 => ⟨.sc, 1, 8, [.nilFunc], default⟩
  | 112 => ⟨.sc, 1, 8, [.nilFunc], default⟩
  | 114 => ⟨.sc, 1, 8, [.map none], default⟩
  | 115 => ⟨.st [(0, 5), (5, 1), (6, 1), (7, 1)], 8, 160, [.int .i64 0, .slice none 0 0, .slice none 0 0, .slice none 0 0, .slice none 0 0, .slice none 0 0, .slice none 0 0, .map none], default⟩
  | 116 => ⟨.st [(0, 5), (5, 1), (6, 1), (7, 1)], 8, 160, [.int .i64 0, .slice none 0 0, .slice none 0 0, .slice none 0 0, .slice none 0 0, .slice none 0 0, .slice none 0 0, .map none], default⟩
  | 117 => ⟨.st [(0, 5), (5, 1), (6, 1)], 7, 152, [.int .i64 0, .slice none 0 0, .slice none 0 0, .slice none 0 0, .slice none 0 0, .slice none 0 0, .slice none 0 0], default⟩
  | 118 => ⟨.st [(0, 5), (5, 1), (6, 1)], 7, 152, [.int .i64 0, .slice none 0 0, .slice none 0 0, .slice none 0 0, .slice none 0 0, .slice none 0 0, .slice none 0 0], default⟩
  | 125 => ⟨.st [(0, 1), (1, 1), (2, 1)], 3, 40, [.slice none 0 0, .int .i64 0, .int .u64 0], default⟩
  | 126 => ⟨.st [(0, 1), (1, 1), (2, 1)], 3, 40, [.slice none 0 0, .int .i64 0, .int .u64 0], default⟩
  | 127 => ⟨.sc, 1, 8, [.nilFunc], default⟩
  | 128 => ⟨.ik .u64, 1, 8, [.int .u64 0], default⟩
  | 133 => ⟨.sli 2 1 8 [.int .i64 0], 1, 24, [.slice none 0 0], .v (.int .i64 0)⟩
  | 135 => ⟨.sc, 1, 8, [.nilFunc], default⟩
  | 136 => ⟨.sli 2 1 8 [.int .i64 0], 1, 24, [.slice none 0 0], .v (.int .i64 0)⟩
  | 147 => ⟨.st [(0, 1), (1, 1), (2, 1), (3, 1)], 4, 64, [.pointer none, .pointer none, .slice none 0 0, .slice none 0 0], default⟩
  | 148 => ⟨.st [(0, 1), (1, 1), (2, 1), (3, 1)], 4, 64, [.pointer none, .pointer none, .slice none 0 0, .slice none 0 0], default⟩
  | 154 => ⟨.sc, 1, 8, [.pointer none], default⟩
  | 157 => ⟨.sc, 1, 8, [.nilFunc], default⟩
  | 163 => ⟨.sc, 1, 8, [.pointer none], default⟩
  | 168 => ⟨.sc, 1, 8, [.nilFunc], default⟩
  | 172 => ⟨.st [(0, 1), (1, 1), (2, 1)], 3, 40, [.slice none 0 0, .int .i64 0, .int .u64 0], default⟩
  | 173 => ⟨.st [(0, 1), (1, 1), (2, 1)], 3, 40, [.slice none 0 0, .int .i64 0, .int .u64 0], default⟩
  | 182 => ⟨.sli 87 1 8 [.pointer none], 1, 24, [.slice none 0 0], .v (.pointer none)⟩
  | 191 => ⟨.sc, 1, 8, [.nilFunc], default⟩
  | 193 => ⟨.sli 103 1 8 [.pointer none], 1, 24, [.slice none 0 0], .v (.pointer none)⟩
  | 198 => ⟨.sc, 1, 8, [.nilFunc], default⟩
  | 201 => ⟨.sc, 1, 8, [.nilFunc], default⟩
  | 202 => ⟨.sc, 1, 8, [.nilFunc], default⟩
  | 209 => ⟨.sc, 1, 8, [.pointer none], default⟩
  | 212 => ⟨.sc, 1, 8, [.pointer none], default⟩
  | 216 => ⟨.ik .u32, 1, 4, [.int .u32 0], default⟩
  | 219 => ⟨.st [(0, 1), (1, 1)], 2, 8, [.int .i32 0, .int .u32 0], default⟩
  | 220 => ⟨.st [(0, 1), (1, 1)], 2, 8, [.int .i32 0, .int .u32 0], default⟩
  | 225 => ⟨.st [(0, 1), (1, 1), (2, 3), (5, 1)], 6, 56, [.pointer none, .int .i64 0, .int .u32 0, .int .i32 0, .int .u32 0, .slice none 0 0], default⟩
  | 226 => ⟨.st [(0, 1), (1, 1), (2, 3), (5, 1)], 6, 56, [.pointer none, .int .i64 0, .int .u32 0, .int .i32 0, .int .u32 0, .slice none 0 0], default⟩
  | 234 => ⟨.sli 163 1 8 [.pointer none], 1, 24, [.slice none 0 0], .v (.pointer none)⟩
  | 236 => ⟨.sc, 1, 8, [.nilFunc], default⟩
  | 237 => ⟨.st [(0, 1), (1, 1)], 2, 16, [.int .i64 0, .int .i64 0], default⟩
  | 238 => ⟨.st [(0, 1), (1, 1)], 2, 16, [.int .i64 0, .int .i64 0], default⟩
  | 242 => ⟨.sc, 1, 8, [.nilFunc], default⟩
  | 243 => ⟨.sc, 1, 8, [.pointer none], default⟩
  | 249 => ⟨.sc, 1, 8, [.pointer none], default⟩
  | 250 => ⟨.st [(0, 5), (5, 5), (10, 1), (11, 1), (12, 1), (13, 1)], 14, 288, [.int .i64 0, .slice none 0 0, .slice none 0 0, .slice none 0 0, .slice none 0 0, .int .i64 0, .slice none 0 0, .slice none 0 0, .slice none 0 0, .slice none 0 0, .slice none 0 0, .slice none 0 0, .int .i64 0, .slice none 0 0], default⟩
  | 251 => ⟨.st [(0, 5), (5, 5), (10, 1), (11, 1), (12, 1), (13, 1)], 14, 288, [.int .i64 0, .slice none 0 0, .slice none 0 0, .slice none 0 0, .slice none 0 0, .int .i64 0, .slice none 0 0, .slice none 0 0, .slice none 0 0, .slice none 0 0, .slice none 0 0, .slice none 0 0, .int .i64 0, .slice none 0 0], default⟩
  | 255 => ⟨.sc, 1, 8, [.map none], default⟩
  | 262 => ⟨.sli 25 1 24 [.slice none 0 0], 1, 24, [.slice none 0 0], .sl 1 (.sl 1 (.v (.int .i64 0)) []) []⟩
  | 268 => ⟨.st [(0, 1), (1, 1), (2, 1), (3, 1), (4, 1), (5, 1)], 6, 80, [.pointer none, .pointer none, .slice none 0 0, .slice none 0 0, .bool false, .nilFunc], default⟩
  | 269 => ⟨.st [(0, 1), (1, 1), (2, 1), (3, 1), (4, 1), (5, 1)], 6, 80, [.pointer none, .pointer none, .slice none 0 0, .slice none 0 0, .bool false, .nilFunc], default⟩
  | 273 => ⟨.sc, 1, 8, [.pointer none], default⟩
  | 274 => ⟨.st [(0, 12), (12, 12), (24, 1), (25, 1), (26, 1)], 27, 552, [.int .i64 0, .slice none 0 0, .slice none 0 0, .slice none 0 0, .slice none 0 0, .int .i64 0, .slice none 0 0, .slice none 0 0, .slice none 0 0, .slice none 0 0, .slice none 0 0, .slice none 0 0, .int .i64 0, .slice none 0 0, .slice none 0 0, .slice none 0 0, .slice none 0 0, .int .i64 0, .slice none 0 0, .slice none 0 0, .slice none 0 0, .slice none 0 0, .slice none 0 0, .slice none 0 0, .bool false, .int .i64 0, .slice none 0 0], default⟩
  | 275 => ⟨.st [(0, 12), (12, 12), (24, 1), (25, 1), (26, 1)], 27, 552, [.int .i64 0, .slice none 0 0, .slice none 0 0, .slice none 0 0, .slice none 0 0, .int .i64 0, .slice none 0 0, .slice none 0 0, .slice none 0 0, .slice none 0 0, .slice none 0 0, .slice none 0 0, .int .i64 0, .slice none 0 0, .slice none 0 0, .slice none 0 0, .slice none 0 0, .int .i64 0, .slice none 0 0, .slice none 0 0, .slice none 0 0, .slice none 0 0, .slice none 0 0, .slice none 0 0, .bool false, .int .i64 0, .slice none 0 0], default⟩
  | 279 => ⟨.sli 4 1 1 [.bool false], 1, 24, [.slice none 0 0], .v (.bool false)⟩
  | 281 => ⟨.sc, 1, 8, [.pointer none], default⟩
  | 282 => ⟨.sli 154 1 8 [.pointer none], 1, 24, [.slice none 0 0], .v (.pointer none)⟩
  | 283 => ⟨.sc, 1, 8, [.nilFunc], default⟩
  | 284 => ⟨.sc, 1, 8, [.nilFunc], default⟩
  | 285 => ⟨.sli 287 2 16 [.int .i64 0, .int .i64 0], 1, 24, [.slice none 0 0], .v (.int .i64 0)⟩
  | 286 => ⟨.st [(0, 1), (1, 1)], 2, 16, [.int .i64 0, .int .i64 0], default⟩
  | 287 => ⟨.st [(0, 1), (1, 1)], 2, 16, [.int .i64 0, .int .i64 0], default⟩
  | 289 => ⟨.sli 292 3 40 [.int .i64 0, .int .i64 0, .slice none 0 0], 1, 24, [.slice none 0 0], .v (.int .i64 0)⟩
  | 291 => ⟨.st [(0, 1), (1, 1), (2, 1)], 3, 40, [.int .i64 0, .int .i64 0, .slice none 0 0], default⟩
  | 292 => ⟨.st [(0, 1), (1, 1), (2, 1)], 3, 40, [.int .i64 0, .int .i64 0, .slice none 0 0], default⟩
  | 295 => ⟨.sc, 1, 8, [.nilFunc], default⟩
  | 298 => ⟨.sc, 1, 8, [.pointer none], default⟩
  | 300 => ⟨.sc, 1, 8, [.pointer none], default⟩
  | 305 => ⟨.sc, 1, 8, [.pointer none], default⟩
  | 309 => ⟨.sc, 1, 8, [.pointer none], default⟩
  | 311 => ⟨.sc, 1, 8, [.pointer none], default⟩
  | 316 => ⟨.sc, 1, 8, [.nilFunc], default⟩
  | 320 => ⟨.st [(0, 1), (1, 1), (2, 1), (3, 1)], 4, 40, [.pointer none, .pointer none, .pointer none, .string ⟨#[]⟩], default⟩
  | 321 => ⟨.st [(0, 1), (1, 1), (2, 1), (3, 1)], 4, 40, [.pointer none, .pointer none, .pointer none, .string ⟨#[]⟩], default⟩
  | 326 => ⟨.ik .u8, 1, 1, [.int .u8 0], default⟩
  | 327 => ⟨.ik .u8, 1, 1, [.int .u8 0], default⟩
  | 329 => ⟨.sc, 1, 8, [.pointer none], default⟩
  | 330 => ⟨.ik .i32, 1, 4, [.int .i32 0], default⟩
  | 331 => ⟨.ik .i32, 1, 4, [.int .i32 0], default⟩
  | 332 => ⟨.st [(0, 1), (1, 1), (2, 1), (3, 1), (4, 1), (5, 1), (6, 1), (7, 1), (8, 1), (9, 1), (10, 1)], 11, 48, [.int .u64 0, .int .u64 0, .int .u32 0, .int .u8 0, .int .u8 0, .int .u8 0, .int .u8 0, .nilFunc, .pointer none, .int .i32 0, .int .i32 0], default⟩
  | 333 => ⟨.st [(0, 1), (1, 1), (2, 1), (3, 1), (4, 1), (5, 1), (6, 1), (7, 1), (8, 1), (9, 1), (10, 1)], 11, 48, [.int .u64 0, .int .u64 0, .int .u32 0, .int .u8 0, .int .u8 0, .int .u8 0, .int .u8 0, .nilFunc, .pointer none, .int .i32 0, .int .i32 0], default⟩
  | _ => Ti.no
@[go_sem] theorem tenv2 : tenv 2 = ⟨.ik .i64, 1, 8, [.int .i64 0], default⟩ := rfl
@[go_sem] theorem tenv3 : tenv 3 = ⟨.ik .i64, 1, 8, [.int .i64 0], default⟩ := rfl
@[go_sem] theorem tenv4 : tenv 4 = ⟨.bk, 1, 1, [.bool false], default⟩ := rfl
@[go_sem] theorem tenv5 : tenv 5 = ⟨.ik .u8, 1, 1, [.int .u8 0], default⟩ := rfl
@[go_sem] theorem tenv6 : tenv 6 = ⟨.ik .u8, 1, 1, [.int .u8 0], default⟩ := rfl
@[go_sem] theorem tenv7 : tenv 7 = ⟨.st [(0, 1), (1, 1), (2, 1), (3, 1)], 4, 24, [.int .i64 0, .int .i64 0, .bool false, .int .u8 0], default⟩ := rfl
@[go_sem] theorem tenv8 : tenv 8 = ⟨.st [(0, 1), (1, 1), (2, 1), (3, 1)], 4, 24, [.int .i64 0, .int .i64 0, .bool false, .int .u8 0], default⟩ := rfl
@[go_sem] theorem tenv9 : tenv 9 = ⟨.strk, 1, 16, [.string ⟨#[]⟩], default⟩ := rfl
@[go_sem] theorem tenv10 : tenv 10 = ⟨.strk, 1, 16, [.string ⟨#[]⟩], default⟩ := rfl
@[go_sem] theorem tenv11 : tenv 11 = ⟨.strk, 1, 16, [.string ⟨#[]⟩], default⟩ := rfl
@[go_sem] theorem tenv12 : tenv 12 = ⟨.ik .u64, 1, 8, [.int .u64 0], default⟩ := rfl
@[go_sem] theorem tenv13 : tenv 13 = ⟨.st [(0, 1), (1, 1)], 2, 24, [.string ⟨#[]⟩, .int .u64 0], default⟩ := rfl
@[go_sem] theorem tenv14 : tenv 14 = ⟨.st [(0, 1), (1, 1)], 2, 24, [.string ⟨#[]⟩, .int .u64 0], default⟩ := rfl
@[go_sem] theorem tenv15 : tenv 15 = ⟨.sc, 1, 8, [.pointer none], default⟩ := rfl
@[go_sem] theorem tenv16 : tenv 16 = ⟨.sc, 1, 8, [.pointer none], default⟩ := rfl
@[go_sem] theorem tenv17 : tenv 17 = ⟨.sc, 1, 8, [.pointer none], default⟩ := rfl
@[go_sem] theorem tenv18 : tenv 18 = ⟨.st [(0, 1)], 1, 8, [.pointer none], default⟩ := rfl
@[go_sem] theorem tenv19 : tenv 19 = ⟨.st [(0, 1)], 1, 8, [.pointer none], default⟩ := rfl
@[go_sem] theorem tenv21 : tenv 21 = ⟨.ik .i32, 1, 4, [.int .i32 0], default⟩ := rfl
@[go_sem] theorem tenv22 : tenv 22 = ⟨.sli 5 1 1 [.int .u8 0], 1, 24, [.slice none 0 0], .v (.int .u8 0)⟩ := rfl
@[go_sem] theorem tenv24 : tenv 24 = ⟨.sli 2 1 8 [.int .i64 0], 1, 24, [.slice none 0 0], .v (.int .i64 0)⟩ := rfl
@[go_sem] theorem tenv25 : tenv 25 = ⟨.sli 24 1 24 [.slice none 0 0], 1, 24, [.slice none 0 0], .sl 1 (.v (.int .i64 0)) []⟩ := rfl
@[go_sem] theorem tenv26 : tenv 26 = ⟨.st [(0, 1), (1, 1), (2, 1), (3, 1), (4, 1)], 5, 104, [.int .i64 0, .slice none 0 0, .slice none 0 0, .slice none 0 0, .slice none 0 0], default⟩ := rfl
@[go_sem] theorem tenv27 : tenv 27 = ⟨.st [(0, 1), (1, 1), (2, 1), (3, 1), (4, 1)], 5, 104, [.int .i64 0, .slice none 0 0, .slice none 0 0, .slice none 0 0, .slice none 0 0], default⟩ := rfl
@[go_sem] theorem tenv32 : tenv 32 = ⟨.st [(0, 5), (5, 5), (10, 1), (11, 1)], 12, 256, [.int .i64 0, .slice none 0 0, .slice none 0 0, .slice none 0 0, .slice none 0 0, .int .i64 0, .slice none 0 0, .slice none 0 0, .slice none 0 0, .slice none 0 0, .slice none 0 0, .slice none 0 0], default⟩ := rfl
@[go_sem] theorem tenv33 : tenv 33 = ⟨.st [(0, 5), (5, 5), (10, 1), (11, 1)], 12, 256, [.int .i64 0, .slice none 0 0, .slice none 0 0, .slice none 0 0, .slice none 0 0, .int .i64 0, .slice none 0 0, .slice none 0 0, .slice none 0 0, .slice none 0 0, .slice none 0 0, .slice none 0 0], default⟩ := rfl
@[go_sem] theorem tenv44 : tenv 44 = ⟨.sc, 1, 8, [.pointer none], default⟩ := rfl
@[go_sem] theorem tenv46 : tenv 46 = ⟨.ik .u64, 1, 8, [.int .u64 0], default⟩ := rfl
@[go_sem] theorem tenv48 : tenv 48 = ⟨.sc, 1, 8, [.nilFunc], default⟩ := rfl
@[go_sem] theorem tenv53 : tenv 53 = ⟨.sli 33 12 256 [.int .i64 0, .slice none 0 0, .slice none 0 0, .slice none 0 0, .slice none 0 0, .int .i64 0, .slice none 0 0, .slice none 0 0, .slice none 0 0, .slice none 0 0, .slice none 0 0, .slice none 0 0], 1, 24, [.slice none 0 0], .v (.int .i64 0)⟩ := rfl
@[go_sem] theorem tenv69 : tenv 69 = ⟨.sc, 1, 8, [.nilFunc], default⟩ := rfl
@[go_sem] theorem tenv71 : tenv 71 = ⟨.st [(0, 12), (12, 12), (24, 1)], 25, 536, [.int .i64 0, .slice none 0 0, .slice none 0 0, .slice none 0 0, .slice none 0 0, .int .i64 0, .slice none 0 0, .slice none 0 0, .slice none 0 0, .slice none 0 0, .slice none 0 0, .slice none 0 0, .int .i64 0, .slice none 0 0, .slice none 0 0, .slice none 0 0, .slice none 0 0, .int .i64 0, .slice none 0 0, .slice none 0 0, .slice none 0 0, .slice none 0 0, .slice none 0 0, .slice none 0 0, .slice none 0 0], default⟩ := rfl
@[go_sem] theorem tenv72 : tenv 72 = ⟨.st [(0, 12), (12, 12), (24, 1)], 25, 536, [.int .i64 0, .slice none 0 0, .slice none 0 0, .slice none 0 0, .slice none 0 0, .int .i64 0, .slice none 0 0, .slice none 0 0, .slice none 0 0, .slice none 0 0, .slice none 0 0, .slice none 0 0, .int .i64 0, .slice none 0 0, .slice none 0 0, .slice none 0 0, .slice none 0 0, .int .i64 0, .slice none 0 0, .slice none 0 0, .slice none 0 0, .slice none 0 0, .slice none 0 0, .slice none 0 0, .slice none 0 0], default⟩ := rfl
@[go_sem] theorem tenv73 : tenv 73 = ⟨.st [(0, 5), (5, 1), (6, 1)], 7, 152, [.int .i64 0, .slice none 0 0, .slice none 0 0, .slice none 0 0, .slice none 0 0, .slice none 0 0, .slice none 0 0], default⟩ := rfl
@[go_sem] theorem tenv74 : tenv 74 = ⟨.st [(0, 5), (5, 1), (6, 1)], 7, 152, [.int .i64 0, .slice none 0 0, .slice none 0 0, .slice none 0 0, .slice none 0 0, .slice none 0 0, .slice none 0 0], default⟩ := rfl
@[go_sem] theorem tenv75 : tenv 75 = ⟨.st [(0, 7), (7, 7), (14, 1)], 15, 328, [.int .i64 0, .slice none 0 0, .slice none 0 0, .slice none 0 0, .slice none 0 0, .slice none 0 0, .slice none 0 0, .int .i64 0, .slice none 0 0, .slice none 0 0, .slice none 0 0, .slice none 0 0, .slice none 0 0, .slice none 0 0, .slice none 0 0], default⟩ := rfl
@[go_sem] theorem tenv76 : tenv 76 = ⟨.st [(0, 7), (7, 7), (14, 1)], 15, 328, [.int .i64 0, .slice none 0 0, .slice none 0 0, .slice none 0 0, .slice none 0 0, .slice none 0 0, .slice none 0 0, .int .i64 0, .slice none 0 0, .slice none 0 0, .slice none 0 0, .slice none 0 0, .slice none 0 0, .slice none 0 0, .slice none 0 0], default⟩ := rfl
@[go_sem] theorem tenv84 : tenv 84 = ⟨.sc, 1, 8, [.pointer none], default⟩ := rfl
@[go_sem] theorem tenv87 : tenv 87 = ⟨.sc, 1, 8, [.pointer none], default⟩ := rfl
@[go_sem] theorem tenv92 : tenv 92 = ⟨.sc, 1, 8, [.nilFunc], default⟩ := rfl
@[go_sem] theorem tenv94 : tenv 94 = ⟨.sc, 1, 8, [.nilFunc], default⟩ := rfl
@[go_sem] theorem tenv96 : tenv 96 = ⟨.sc, 1, 8, [.pointer none], default⟩ := rfl
@[go_sem] theorem tenv103 : tenv 103 = ⟨.sc, 1, 8, [.pointer none], default⟩ := rfl
@[go_sem] theorem tenv106 : tenv 106 = ⟨.sc, 1, 8, [.pointer none], default⟩ := rfl
@[go_sem] theorem tenv109 : tenv 109 = ⟨.sc, 1, 8, [.nilFunc], default⟩ := rfl
@[go_sem] theorem tenv111 : tenv 111 = ⟨.sc, 1, 8, [.nilFunc], default⟩ := rfl
@[go_sem] theorem tenv112 : tenv 112 = ⟨.sc, 1, 8, [.nilFunc], default⟩ := rfl
@[go_sem] theorem tenv114 : tenv 114 = ⟨.sc, 1, 8, [.map none], default⟩ := rfl
@[go_sem] theorem tenv115 : tenv 115 = ⟨.st [(0, 5), (5, 1), (6, 1), (7, 1)], 8, 160, [.int .i64 0, .slice none 0 0, .slice none 0 0, .slice none 0 0, .slice none 0 0, .slice none 0 0, .slice none 0 0, .map none], default⟩ := rfl
@[go_sem] theorem tenv116 : tenv 116 = ⟨.st [(0, 5), (5, 1), (6, 1), (7, 1)], 8, 160, [.int .i64 0, .slice none 0 0, .slice none 0 0, .slice none 0 0, .slice none 0 0, .slice none 0 0, .slice none 0 0, .map none], default⟩ := rfl
@[go_sem] theorem tenv117 : tenv 117 = ⟨.st [(0, 5), (5, 1), (6, 1)], 7, 152, [.int .i64 0, .slice none 0 0, .slice none 0 0, .slice none 0 0, .slice none 0 0, .slice none 0 0, .slice none 0 0], default⟩ := rfl
@[go_sem] theorem tenv118 : tenv 118 = ⟨.st [(0, 5), (5, 1), (6, 1)], 7, 152, [.int .i64 0, .slice none 0 0, .slice none 0 0, .slice none 0 0, .slice none 0 0, .slice none 0 0, .slice none 0 0], default⟩ := rfl
@[go_sem] theorem tenv125 : tenv 125 = ⟨.st [(0, 1), (1, 1), (2, 1)], 3, 40, [.slice none 0 0, .int .i64 0, .int .u64 0], default⟩ := rfl
@[go_sem] theorem tenv126 : tenv 126 = ⟨.st [(0, 1), (1, 1), (2, 1)], 3, 40, [.slice none 0 0, .int .i64 0, .int .u64 0], default⟩ := rfl
@[go_sem] theorem tenv127 : tenv 127 = ⟨.sc, 1, 8, [.nilFunc], default⟩ := rfl
@[go_sem] theorem tenv128 : tenv 128 = ⟨.ik .u64, 1, 8, [.int .u64 0], default⟩ := rfl
@[go_sem] theorem tenv133 : tenv 133 = ⟨.sli 2 1 8 [.int .i64 0], 1, 24, [.slice none 0 0], .v (.int .i64 0)⟩ := rfl
@[go_sem] theorem tenv135 : tenv 135 = ⟨.sc, 1, 8, [.nilFunc], default⟩ := rfl
@[go_sem] theorem tenv136 : tenv 136 = ⟨.sli 2 1 8 [.int .i64 0], 1, 24, [.slice none 0 0], .v (.int .i64 0)⟩ := rfl
@[go_sem] theorem tenv147 : tenv 147 = ⟨.st [(0, 1), (1, 1), (2, 1), (3, 1)], 4, 64, [.pointer none, .pointer none, .slice none 0 0, .slice none 0 0], default⟩ := rfl
@[go_sem] theorem tenv148 : tenv 148 = ⟨.st [(0, 1), (1, 1), (2, 1), (3, 1)], 4, 64, [.pointer none, .pointer none, .slice none 0 0, .slice none 0 0], default⟩ := rfl
@[go_sem] theorem tenv154 : tenv 154 = ⟨.sc, 1, 8, [.pointer none], default⟩ := rfl
@[go_sem] theorem tenv157 : tenv 157 = ⟨.sc, 1, 8, [.nilFunc], default⟩ := rfl
@[go_sem] theorem tenv163 : tenv 163 = ⟨.sc, 1, 8, [.pointer none], default⟩ := rfl
@[go_sem] theorem tenv168 : tenv 168 = ⟨.sc, 1, 8, [.nilFunc], default⟩ := rfl
@[go_sem] theorem tenv172 : tenv 172 = ⟨.st [(0, 1), (1, 1), (2, 1)], 3, 40, [.slice none 0 0, .int .i64 0, .int .u64 0], default⟩ := rfl
@[go_sem] theorem tenv173 : tenv 173 = ⟨.st [(0, 1), (1, 1), (2, 1)], 3, 40, [.slice none 0 0, .int .i64 0, .int .u64 0], default⟩ := rfl
@[go_sem] theorem tenv182 : tenv 182 = ⟨.sli 87 1 8 [.pointer none], 1, 24, [.slice none 0 0], .v (.pointer none)⟩ := rfl
@[go_sem] theorem tenv191 : tenv 191 = ⟨.sc, 1, 8, [.nilFunc], default⟩ := rfl
@[go_sem] theorem tenv193 : tenv 193 = ⟨.sli 103 1 8 [.pointer none], 1, 24, [.slice none 0 0], .v (.pointer none)⟩ := rfl
@[go_sem] theorem tenv198 : tenv 198 = ⟨.sc, 1, 8, [.nilFunc], default⟩ := rfl
@[go_sem] theorem tenv201 : tenv 201 = ⟨.sc, 1, 8, [.nilFunc], default⟩ := rfl
@[go_sem] theorem tenv202 : tenv 202 = ⟨.sc, 1, 8, [.nilFunc], default⟩ := rfl
@[go_sem] theorem tenv209 : tenv 209 = ⟨.sc, 1, 8, [.pointer none], default⟩ := rfl
@[go_sem] theorem tenv212 : tenv 212 = ⟨.sc, 1, 8, [.pointer none], default⟩ := rfl
@[go_sem] theorem tenv216 : tenv 216 = ⟨.ik .u32, 1, 4, [.int .u32 0], default⟩ := rfl
@[go_sem] theorem tenv219 : tenv 219 = ⟨.st [(0, 1), (1, 1)], 2, 8, [.int .i32 0, .int .u32 0], default⟩ := rfl
@[go_sem] theorem tenv220 : tenv 220 = ⟨.st [(0, 1), (1, 1)], 2, 8, [.int .i32 0, .int .u32 0], default⟩ := rfl
@[go_sem] theorem tenv225 : tenv 225 = ⟨.st [(0, 1), (1, 1), (2, 3), (5, 1)], 6, 56, [.pointer none, .int .i64 0, .int .u32 0, .int .i32 0, .int .u32 0, .slice none 0 0], default⟩ := rfl
@[go_sem] theorem tenv226 : tenv 226 = ⟨.st [(0, 1), (1, 1), (2, 3), (5, 1)], 6, 56, [.pointer none, .int .i64 0, .int .u32 0, .int .i32 0, .int .u32 0, .slice none 0 0], default⟩ := rfl
@[go_sem] theorem tenv234 : tenv 234 = ⟨.sli 163 1 8 [.pointer none], 1, 24, [.slice none 0 0], .v (.pointer none)⟩ := rfl
@[go_sem] theorem tenv236 : tenv 236 = ⟨.sc, 1, 8, [.nilFunc], default⟩ := rfl
@[go_sem] theorem tenv237 : tenv 237 = ⟨.st [(0, 1), (1, 1)], 2, 16, [.int .i64 0, .int .i64 0], default⟩ := rfl
@[go_sem] theorem tenv238 : tenv 238 = ⟨.st [(0, 1), (1, 1)], 2, 16, [.int .i64 0, .int .i64 0], default⟩ := rfl
@[go_sem] theorem tenv242 : tenv 242 = ⟨.sc, 1, 8, [.nilFunc], default⟩ := rfl
@[go_sem] theorem tenv243 : tenv 243 = ⟨.sc, 1, 8, [.pointer none], default⟩ := rfl
@[go_sem] theorem tenv249 : tenv 249 = ⟨.sc, 1, 8, [.pointer none], default⟩ := rfl
@[go_sem] theorem tenv250 : tenv 250 = ⟨.st [(0, 5), (5, 5), (10, 1), (11, 1), (12, 1), (13, 1)], 14, 288, [.int .i64 0, .slice none 0 0, .slice none 0 0, .slice none 0 0, .slice none 0 0, .int .i64 0, .slice none 0 0, .slice none 0 0, .slice none 0 0, .slice none 0 0, .slice none 0 0, .slice none 0 0, .int .i64 0, .slice none 0 0], default⟩ := rfl
@[go_sem] theorem tenv251 : tenv 251 = ⟨.st [(0, 5), (5, 5), (10, 1), (11, 1), (12, 1), (13, 1)], 14, 288, [.int .i64 0, .slice none 0 0, .slice none 0 0, .slice none 0 0, .slice none 0 0, .int .i64 0, .slice none 0 0, .slice none 0 0, .slice none 0 0, .slice none 0 0, .slice none 0 0, .slice none 0 0, .int .i64 0, .slice none 0 0], default⟩ := rfl
@[go_sem] theorem tenv255 : tenv 255 = ⟨.sc, 1, 8, [.map none], default⟩ := rfl
@[go_sem] theorem tenv262 : tenv 262 = ⟨.sli 25 1 24 [.slice none 0 0], 1, 24, [.slice none 0 0], .sl 1 (.sl 1 (.v (.int .i64 0)) []) []⟩ := rfl
@[go_sem] theorem tenv268 : tenv 268 = ⟨.st [(0, 1), (1, 1), (2, 1), (3, 1), (4, 1), (5, 1)], 6, 80, [.pointer none, .pointer none, .slice none 0 0, .slice none 0 0, .bool false, .nilFunc], default⟩ := rfl
@[go_sem] theorem tenv269 : tenv 269 = ⟨.st [(0, 1), (1, 1), (2, 1), (3, 1), (4, 1), (5, 1)], 6, 80, [.pointer none, .pointer none, .slice none 0 0, .slice none 0 0, .bool false, .nilFunc], default⟩ := rfl
@[go_sem] theorem tenv273 : tenv 273 = ⟨.sc, 1, 8, [.pointer none], default⟩ := rfl
@[go_sem] theorem tenv274 : tenv 274 = ⟨.st [(0, 12), (12, 12), (24, 1), (25, 1), (26, 1)], 27, 552, [.int .i64 0, .slice none 0 0, .slice none 0 0, .slice none 0 0, .slice none 0 0, .int .i64 0, .slice none 0 0, .slice none 0 0, .slice none 0 0, .slice none 0 0, .slice none 0 0, .slice none 0 0, .int .i64 0, .slice none 0 0, .slice none 0 0, .slice none 0 0, .slice none 0 0, .int .i64 0, .slice none 0 0, .slice none 0 0, .slice none 0 0, .slice none 0 0, .slice none 0 0, .slice none 0 0, .bool false, .int .i64 0, .slice none 0 0], default⟩ := rfl
@[go_sem] theorem tenv275 : tenv 275 = ⟨.st [(0, 12), (12, 12), (24, 1), (25, 1), (26, 1)], 27, 552, [.int .i64 0, .slice none 0 0, .slice none 0 0, .slice none 0 0, .slice none 0 0, .int .i64 0, .slice none 0 0, .slice none 0 0, .slice none 0 0, .slice none 0 0, .slice none 0 0, .slice none 0 0, .int .i64 0, .slice none 0 0, .slice none 0 0, .slice none 0 0, .slice none 0 0, .int .i64 0, .slice none 0 0, .slice none 0 0, .slice none 0 0, .slice none 0 0, .slice none 0 0, .slice none 0 0, .bool false, .int .i64 0, .slice none 0 0], default⟩ := rfl
@[go_sem] theorem tenv279 : tenv 279 = ⟨.sli 4 1 1 [.bool false], 1, 24, [.slice none 0 0], .v (.bool false)⟩ := rfl
@[go_sem] theorem tenv281 : tenv 281 = ⟨.sc, 1, 8, [.pointer none], default⟩ := rfl
@[go_sem] theorem tenv282 : tenv 282 = ⟨.sli 154 1 8 [.pointer none], 1, 24, [.slice none 0 0], .v (.pointer none)⟩ := rfl
@[go_sem] theorem tenv283 : tenv 283 = ⟨.sc, 1, 8, [.nilFunc], default⟩ := rfl
@[go_sem] theorem tenv284 : tenv 284 = ⟨.sc, 1, 8, [.nilFunc], default⟩ := rfl
@[go_sem] theorem tenv285 : tenv 285 = ⟨.sli 287 2 16 [.int .i64 0, .int .i64 0], 1, 24, [.slice none 0 0], .v (.int .i64 0)⟩ := rfl
@[go_sem] theorem tenv286 : tenv 286 = ⟨.st [(0, 1), (1, 1)], 2, 16, [.int .i64 0, .int .i64 0], default⟩ := rfl
@[go_sem] theorem tenv287 : tenv 287 = ⟨.st [(0, 1), (1, 1)], 2, 16, [.int .i64 0, .int .i64 0], default⟩ := rfl
@[go_sem] theorem tenv289 : tenv 289 = ⟨.sli 292 3 40 [.int .i64 0, .int .i64 0, .slice none 0 0], 1, 24, [.slice none 0 0], .v (.int .i64 0)⟩ := rfl
@[go_sem] theorem tenv291 : tenv 291 = ⟨.st [(0, 1), (1, 1), (2, 1)], 3, 40, [.int .i64 0, .int .i64 0, .slice none 0 0], default⟩ := rfl
@[go_sem] theorem tenv292 : tenv 292 = ⟨.st [(0, 1), (1, 1), (2, 1)], 3, 40, [.int .i64 0, .int .i64 0, .slice none 0 0], default⟩ := rfl
@[go_sem] theorem tenv295 : tenv 295 = ⟨.sc, 1, 8, [.nilFunc], default⟩ := rfl
@[go_sem] theorem tenv298 : tenv 298 = ⟨.sc, 1, 8, [.pointer none], default⟩ := rfl
@[go_sem] theorem tenv300 : tenv 300 = ⟨.sc, 1, 8, [.pointer none], default⟩ := rfl
@[go_sem] theorem tenv305 : tenv 305 = ⟨.sc, 1, 8, [.pointer none], default⟩ := rfl
@[go_sem] theorem tenv309 : tenv 309 = ⟨.sc, 1, 8, [.pointer none], default⟩ := rfl
@[go_sem] theorem tenv311 : tenv 311 = ⟨.sc, 1, 8, [.pointer none], default⟩ := rfl
@[go_sem] theorem tenv316 : tenv 316 = ⟨.sc, 1, 8, [.nilFunc], default⟩ := rfl
@[go_sem] theorem tenv320 : tenv 320 = ⟨.st [(0, 1), (1, 1), (2, 1), (3, 1)], 4, 40, [.pointer none, .pointer none, .pointer none, .string ⟨#[]⟩], default⟩ := rfl
@[go_sem] theorem tenv321 : tenv 321 = ⟨.st [(0, 1), (1, 1), (2, 1), (3, 1)], 4, 40, [.pointer none, .pointer none, .pointer none, .string ⟨#[]⟩], default⟩ := rfl
@[go_sem] theorem tenv326 : tenv 326 = ⟨.ik .u8, 1, 1, [.int .u8 0], default⟩ := rfl
@[go_sem] theorem tenv327 : tenv 327 = ⟨.ik .u8, 1, 1, [.int .u8 0], default⟩ := rfl
@[go_sem] theorem tenv329 : tenv 329 = ⟨.sc, 1, 8, [.pointer none], default⟩ := rfl
@[go_sem] theorem tenv330 : tenv 330 = ⟨.ik .i32, 1, 4, [.int .i32 0], default⟩ := rfl
@[go_sem] theorem tenv331 : tenv 331 = ⟨.ik .i32, 1, 4, [.int .i32 0], default⟩ := rfl
@[go_sem] theorem tenv332 : tenv 332 = ⟨.st [(0, 1), (1, 1), (2, 1), (3, 1), (4, 1), (5, 1), (6, 1), (7, 1), (8, 1), (9, 1), (10, 1)], 11, 48, [.int .u64 0, .int .u64 0, .int .u32 0, .int .u8 0, .int .u8 0, .int .u8 0, .int .u8 0, .nilFunc, .pointer none, .int .i32 0, .int .i32 0], default⟩ := rfl
@[go_sem] theorem tenv333 : tenv 333 = ⟨.st [(0, 1), (1, 1), (2, 1), (3, 1), (4, 1), (5, 1), (6, 1), (7, 1), (8, 1), (9, 1), (10, 1)], 11, 48, [.int .u64 0, .int .u64 0, .int .u32 0, .int .u8 0, .int .u8 0, .int .u8 0, .int .u8 0, .nilFunc, .pointer none, .int .i32 0, .int .i32 0], default⟩ := rfl
set_option maxRecDepth 100000 in
theorem ty2 : TiOk Tryz.prog 2 (tenv 2) := ⟨⟨_, _, Tryz.type2, rfl, rfl, rfl, rfl⟩, Tryz.underlying2⟩
set_option maxRecDepth 100000 in
theorem ty3 : TiOk Tryz.prog 3 (tenv 3) := ⟨⟨_, _, Tryz.type3, rfl, rfl, rfl, rfl⟩, Tryz.underlying3⟩
set_option maxRecDepth 100000 in
theorem ty4 : TiOk Tryz.prog 4 (tenv 4) := ⟨⟨_, _, Tryz.type4, rfl, rfl, rfl, rfl⟩, Tryz.underlying4⟩
set_option maxRecDepth 100000 in
theorem ty5 : TiOk Tryz.prog 5 (tenv 5) := ⟨⟨_, _, Tryz.type5, rfl, rfl, rfl, rfl⟩, Tryz.underlying5⟩
set_option maxRecDepth 100000 in
theorem ty6 : TiOk Tryz.prog 6 (tenv 6) := ⟨⟨_, _, Tryz.type6, rfl, rfl, rfl, rfl⟩, Tryz.underlying6⟩
set_option maxRecDepth 100000 in
theorem ty7 : TiOk Tryz.prog 7 (tenv 7) := ⟨⟨_, _, Tryz.type7, rfl, rfl, rfl, rfl⟩, _, Tryz.underlying7, rfl, by kernel_rfl, rfl⟩
set_option maxRecDepth 100000 in
theorem ty8 : TiOk Tryz.prog 8 (tenv 8) := ⟨⟨_, _, Tryz.type8, rfl, rfl, rfl, rfl⟩, _, Tryz.underlying8, rfl, by kernel_rfl, rfl⟩
set_option maxRecDepth 100000 in
theorem ty9 : TiOk Tryz.prog 9 (tenv 9) := ⟨⟨_, _, Tryz.type9, rfl, rfl, rfl, rfl⟩, Tryz.underlying9⟩
set_option maxRecDepth 100000 in
theorem ty10 : TiOk Tryz.prog 10 (tenv 10) := ⟨⟨_, _, Tryz.type10, rfl, rfl, rfl, rfl⟩, Tryz.underlying10⟩
set_option maxRecDepth 100000 in
theorem ty11 : TiOk Tryz.prog 11 (tenv 11) := ⟨⟨_, _, Tryz.type11, rfl, rfl, rfl, rfl⟩, Tryz.underlying11⟩
set_option maxRecDepth 100000 in
theorem ty12 : TiOk Tryz.prog 12 (tenv 12) := ⟨⟨_, _, Tryz.type12, rfl, rfl, rfl, rfl⟩, Tryz.underlying12⟩
set_option maxRecDepth 100000 in
theorem ty13 : TiOk Tryz.prog 13 (tenv 13) := ⟨⟨_, _, Tryz.type13, rfl, rfl, rfl, rfl⟩, _, Tryz.underlying13, rfl, by kernel_rfl, rfl⟩
set_option maxRecDepth 100000 in
theorem ty14 : TiOk Tryz.prog 14 (tenv 14) := ⟨⟨_, _, Tryz.type14, rfl, rfl, rfl, rfl⟩, _, Tryz.underlying14, rfl, by kernel_rfl, rfl⟩
set_option maxRecDepth 100000 in
theorem ty15 : TiOk Tryz.prog 15 (tenv 15) := ⟨⟨_, _, Tryz.type15, rfl, rfl, rfl, rfl⟩, _, Tryz.underlying15, trivial⟩
set_option maxRecDepth 100000 in
theorem ty16 : TiOk Tryz.prog 16 (tenv 16) := ⟨⟨_, _, Tryz.type16, rfl, rfl, rfl, rfl⟩, _, Tryz.underlying16, trivial⟩
set_option maxRecDepth 100000 in
theorem ty17 : TiOk Tryz.prog 17 (tenv 17) := ⟨⟨_, _, Tryz.type17, rfl, rfl, rfl, rfl⟩, _, Tryz.underlying17, trivial⟩
set_option maxRecDepth 100000 in
theorem ty18 : TiOk Tryz.prog 18 (tenv 18) := ⟨⟨_, _, Tryz.type18, rfl, rfl, rfl, rfl⟩, _, Tryz.underlying18, rfl, by kernel_rfl, rfl⟩
set_option maxRecDepth 100000 in
theorem ty19 : TiOk Tryz.prog 19 (tenv 19) := ⟨⟨_, _, Tryz.type19, rfl, rfl, rfl, rfl⟩, _, Tryz.underlying19, rfl, by kernel_rfl, rfl⟩
set_option maxRecDepth 100000 in
theorem ty21 : TiOk Tryz.prog 21 (tenv 21) := ⟨⟨_, _, Tryz.type21, rfl, rfl, rfl, rfl⟩, Tryz.underlying21⟩
set_option maxRecDepth 100000 in
theorem ty22 : TiOk Tryz.prog 22 (tenv 22) := ⟨⟨_, _, Tryz.type22, rfl, rfl, rfl, rfl⟩, Tryz.underlying22, ⟨_, _, Tryz.type5, rfl, rfl, rfl, rfl⟩⟩
set_option maxRecDepth 100000 in
theorem ty24 : TiOk Tryz.prog 24 (tenv 24) := ⟨⟨_, _, Tryz.type24, rfl, rfl, rfl, rfl⟩, Tryz.underlying24, ⟨_, _, Tryz.type2, rfl, rfl, rfl, rfl⟩⟩
set_option maxRecDepth 100000 in
theorem ty25 : TiOk Tryz.prog 25 (tenv 25) := ⟨⟨_, _, Tryz.type25, rfl, rfl, rfl, rfl⟩, Tryz.underlying25, ⟨_, _, Tryz.type24, rfl, rfl, rfl, rfl⟩⟩
set_option maxRecDepth 100000 in
theorem ty26 : TiOk Tryz.prog 26 (tenv 26) := ⟨⟨_, _, Tryz.type26, rfl, rfl, rfl, rfl⟩, _, Tryz.underlying26, rfl, by kernel_rfl, rfl⟩
set_option maxRecDepth 100000 in
theorem ty27 : TiOk Tryz.prog 27 (tenv 27) := ⟨⟨_, _, Tryz.type27, rfl, rfl, rfl, rfl⟩, _, Tryz.underlying27, rfl, by kernel_rfl, rfl⟩
set_option maxRecDepth 100000 in
theorem ty32 : TiOk Tryz.prog 32 (tenv 32) := ⟨⟨_, _, Tryz.type32, rfl, rfl, rfl, rfl⟩, _, Tryz.underlying32, rfl, by kernel_rfl, rfl⟩
set_option maxRecDepth 100000 in
theorem ty33 : TiOk Tryz.prog 33 (tenv 33) := ⟨⟨_, _, Tryz.type33, rfl, rfl, rfl, rfl⟩, _, Tryz.underlying33, rfl, by kernel_rfl, rfl⟩
set_option maxRecDepth 100000 in
theorem ty44 : TiOk Tryz.prog 44 (tenv 44) := ⟨⟨_, _, Tryz.type44, rfl, rfl, rfl, rfl⟩, _, Tryz.underlying44, trivial⟩
set_option maxRecDepth 100000 in
theorem ty46 : TiOk Tryz.prog 46 (tenv 46) := ⟨⟨_, _, Tryz.type46, rfl, rfl, rfl, rfl⟩, Tryz.underlying46⟩
set_option maxRecDepth 100000 in
theorem ty48 : TiOk Tryz.prog 48 (tenv 48) := ⟨⟨_, _, Tryz.type48, rfl, rfl, rfl, rfl⟩, _, Tryz.underlying48, trivial⟩
set_option maxRecDepth 100000 in
theorem ty53 : TiOk Tryz.prog 53 (tenv 53) := ⟨⟨_, _, Tryz.type53, rfl, rfl, rfl, rfl⟩, Tryz.underlying53, ⟨_, _, Tryz.type33, rfl, rfl, rfl, rfl⟩⟩
set_option maxRecDepth 100000 in
theorem ty69 : TiOk Tryz.prog 69 (tenv 69) := ⟨⟨_, _, Tryz.type69, rfl, rfl, rfl, rfl⟩, _, Tryz.underlying69, trivial⟩
set_option maxRecDepth 100000 in
theorem ty71 : TiOk Tryz.prog 71 (tenv 71) := ⟨⟨_, _, Tryz.type71, rfl, rfl, rfl, rfl⟩, _, Tryz.underlying71, rfl, by kernel_rfl, rfl⟩
set_option maxRecDepth 100000 in
theorem ty72 : TiOk Tryz.prog 72 (tenv 72) := ⟨⟨_, _, Tryz.type72, rfl, rfl, rfl, rfl⟩, _, Tryz.underlying72, rfl, by kernel_rfl, rfl⟩
set_option maxRecDepth 100000 in
theorem ty73 : TiOk Tryz.prog 73 (tenv 73) := ⟨⟨_, _, Tryz.type73, rfl, rfl, rfl, rfl⟩, _, Tryz.underlying73, rfl, by kernel_rfl, rfl⟩
set_option maxRecDepth 100000 in
theorem ty74 : TiOk Tryz.prog 74 (tenv 74) := ⟨⟨_, _, Tryz.type74, rfl, rfl, rfl, rfl⟩, _, Tryz.underlying74, rfl, by kernel_rfl, rfl⟩
set_option maxRecDepth 100000 in
theorem ty75 : TiOk Tryz.prog 75 (tenv 75) := ⟨⟨_, _, Tryz.type75, rfl, rfl, rfl, rfl⟩, _, Tryz.underlying75, rfl, by kernel_rfl, rfl⟩
set_option maxRecDepth 100000 in
theorem ty76 : TiOk Tryz.prog 76 (tenv 76) := ⟨⟨_, _, Tryz.type76, rfl, rfl, rfl, rfl⟩, _, Tryz.underlying76, rfl, by kernel_rfl, rfl⟩
set_option maxRecDepth 100000 in
theorem ty84 : TiOk Tryz.prog 84 (tenv 84) := ⟨⟨_, _, Tryz.type84, rfl, rfl, rfl, rfl⟩, _, Tryz.underlying84, trivial⟩
set_option maxRecDepth 100000 in
theorem ty87 : TiOk Tryz.prog 87 (tenv 87) := ⟨⟨_, _, Tryz.type87, rfl, rfl, rfl, rfl⟩, _, Tryz.underlying87, trivial⟩
set_option maxRecDepth 100000 in
theorem ty92 : TiOk Tryz.prog 92 (tenv 92) := ⟨⟨_, _, Tryz.type92, rfl, rfl, rfl, rfl⟩, _, Tryz.underlying92, trivial⟩
set_option maxRecDepth 100000 in
theorem ty94 : TiOk Tryz.prog 94 (tenv 94) := ⟨⟨_, _, Tryz.type94, rfl, rfl, rfl, rfl⟩, _, Tryz.underlying94, trivial⟩
set_option maxRecDepth 100000 in
theorem ty96 : TiOk Tryz.prog 96 (tenv 96) := ⟨⟨_, _, Tryz.type96, rfl, rfl, rfl, rfl⟩, _, Tryz.underlying96, trivial⟩
set_option maxRecDepth 100000 in
theorem ty103 : TiOk Tryz.prog 103 (tenv 103) := ⟨⟨_, _, Tryz.type103, rfl, rfl, rfl, rfl⟩, _, Tryz.underlying103, trivial⟩
set_option maxRecDepth 100000 in
theorem ty106 : TiOk Tryz.prog 106 (tenv 106) := ⟨⟨_, _, Tryz.type106, rfl, rfl, rfl, rfl⟩, _, Tryz.underlying106, trivial⟩
set_option maxRecDepth 100000 in
theorem ty109 : TiOk Tryz.prog 109 (tenv 109) := ⟨⟨_, _, Tryz.type109, rfl, rfl, rfl, rfl⟩, _, Tryz.underlying109, trivial⟩
set_option maxRecDepth 100000 in
theorem ty111 : TiOk Tryz.prog 111 (tenv 111) := ⟨⟨_, _, Tryz.type111, rfl, rfl, rfl, rfl⟩, _, Tryz.underlying111, trivial⟩
set_option maxRecDepth 100000 in
theorem ty112 : TiOk Tryz.prog 112 (tenv 112) := ⟨⟨_, _, Tryz.type112, rfl, rfl, rfl, rfl⟩, _, Tryz.underlying112, trivial⟩
set_option maxRecDepth 100000 in
theorem ty114 : TiOk Tryz.prog 114 (tenv 114) := ⟨⟨_, _, Tryz.type114, rfl, rfl, rfl, rfl⟩, _, Tryz.underlying114, trivial⟩
set_option maxRecDepth 100000 in
theorem ty115 : TiOk Tryz.prog 115 (tenv 115) := ⟨⟨_, _, Tryz.type115, rfl, rfl, rfl, rfl⟩, _, Tryz.underlying115, rfl, by kernel_rfl, rfl⟩
set_option maxRecDepth 100000 in
theorem ty116 : TiOk Tryz.prog 116 (tenv 116) := ⟨⟨_, _, Tryz.type116, rfl, rfl, rfl, rfl⟩, _, Tryz.underlying116, rfl, by kernel_rfl, rfl⟩
set_option maxRecDepth 100000 in
theorem ty117 : TiOk Tryz.prog 117 (tenv 117) := ⟨⟨_, _, Tryz.type117, rfl, rfl, rfl, rfl⟩, _, Tryz.underlying117, rfl, by kernel_rfl, rfl⟩
set_option maxRecDepth 100000 in
theorem ty118 : TiOk Tryz.prog 118 (tenv 118) := ⟨⟨_, _, Tryz.type118, rfl, rfl, rfl, rfl⟩, _, Tryz.underlying118, rfl, by kernel_rfl, rfl⟩
set_option maxRecDepth 100000 in
theorem ty125 : TiOk Tryz.prog 125 (tenv 125) := ⟨⟨_, _, Tryz.type125, rfl, rfl, rfl, rfl⟩, _, Tryz.underlying125, rfl, by kernel_rfl, rfl⟩
set_option maxRecDepth 100000 in
theorem ty126 : TiOk Tryz.prog 126 (tenv 126) := ⟨⟨_, _, Tryz.type126, rfl, rfl, rfl, rfl⟩, _, Tryz.underlying126, rfl, by kernel_rfl, rfl⟩
set_option maxRecDepth 100000 in
theorem ty127 : TiOk Tryz.prog 127 (tenv 127) := ⟨⟨_, _, Tryz.type127, rfl, rfl, rfl, rfl⟩, _, Tryz.underlying127, trivial⟩
set_option maxRecDepth 100000 in
theorem ty128 : TiOk Tryz.prog 128 (tenv 128) := ⟨⟨_, _, Tryz.type128, rfl, rfl, rfl, rfl⟩, Tryz.underlying128⟩
set_option maxRecDepth 100000 in
theorem ty133 : TiOk Tryz.prog 133 (tenv 133) := ⟨⟨_, _, Tryz.type133, rfl, rfl, rfl, rfl⟩, Tryz.underlying133, ⟨_, _, Tryz.type2, rfl, rfl, rfl, rfl⟩⟩
set_option maxRecDepth 100000 in
theorem ty135 : TiOk Tryz.prog 135 (tenv 135) := ⟨⟨_, _, Tryz.type135, rfl, rfl, rfl, rfl⟩, _, Tryz.underlying135, trivial⟩
set_option maxRecDepth 100000 in
theorem ty136 : TiOk Tryz.prog 136 (tenv 136) := ⟨⟨_, _, Tryz.type136, rfl, rfl, rfl, rfl⟩, Tryz.underlying136, ⟨_, _, Tryz.type2, rfl, rfl, rfl, rfl⟩⟩
set_option maxRecDepth 100000 in
theorem ty147 : TiOk Tryz.prog 147 (tenv 147) := ⟨⟨_, _, Tryz.type147, rfl, rfl, rfl, rfl⟩, _, Tryz.underlying147, rfl, by kernel_rfl, rfl⟩
set_option maxRecDepth 100000 in
theorem ty148 : TiOk Tryz.prog 148 (tenv 148) := ⟨⟨_, _, Tryz.type148, rfl, rfl, rfl, rfl⟩, _, Tryz.underlying148, rfl, by kernel_rfl, rfl⟩
set_option maxRecDepth 100000 in
theorem ty154 : TiOk Tryz.prog 154 (tenv 154) := ⟨⟨_, _, Tryz.type154, rfl, rfl, rfl, rfl⟩, _, Tryz.underlying154, trivial⟩
set_option maxRecDepth 100000 in
theorem ty157 : TiOk Tryz.prog 157 (tenv 157) := ⟨⟨_, _, Tryz.type157, rfl, rfl, rfl, rfl⟩, _, Tryz.underlying157, trivial⟩
set_option maxRecDepth 100000 in
theorem ty163 : TiOk Tryz.prog 163 (tenv 163) := ⟨⟨_, _, Tryz.type163, rfl, rfl, rfl, rfl⟩, _, Tryz.underlying163, trivial⟩
set_option maxRecDepth 100000 in
theorem ty168 : TiOk Tryz.prog 168 (tenv 168) := ⟨⟨_, _, Tryz.type168, rfl, rfl, rfl, rfl⟩, _, Tryz.underlying168, trivial⟩
set_option maxRecDepth 100000 in
theorem ty172 : TiOk Tryz.prog 172 (tenv 172) := ⟨⟨_, _, Tryz.type172, rfl, rfl, rfl, rfl⟩, _, Tryz.underlying172, rfl, by kernel_rfl, rfl⟩
set_option maxRecDepth 100000 in
theorem ty173 : TiOk Tryz.prog 173 (tenv 173) := ⟨⟨_, _, Tryz.type173, rfl, rfl, rfl, rfl⟩, _, Tryz.underlying173, rfl, by kernel_rfl, rfl⟩
set_option maxRecDepth 100000 in
theorem ty182 : TiOk Tryz.prog 182 (tenv 182) := ⟨⟨_, _, Tryz.type182, rfl, rfl, rfl, rfl⟩, Tryz.underlying182, ⟨_, _, Tryz.type87, rfl, rfl, rfl, rfl⟩⟩
set_option maxRecDepth 100000 in
theorem ty191 : TiOk Tryz.prog 191 (tenv 191) := ⟨⟨_, _, Tryz.type191, rfl, rfl, rfl, rfl⟩, _, Tryz.underlying191, trivial⟩
set_option maxRecDepth 100000 in
theorem ty193 : TiOk Tryz.prog 193 (tenv 193) := ⟨⟨_, _, Tryz.type193, rfl, rfl, rfl, rfl⟩, Tryz.underlying193, ⟨_, _, Tryz.type103, rfl, rfl, rfl, rfl⟩⟩
set_option maxRecDepth 100000 in
theorem ty198 : TiOk Tryz.prog 198 (tenv 198) := ⟨⟨_, _, Tryz.type198, rfl, rfl, rfl, rfl⟩, _, Tryz.underlying198, trivial⟩
set_option maxRecDepth 100000 in
theorem ty201 : TiOk Tryz.prog 201 (tenv 201) := ⟨⟨_, _, Tryz.type201, rfl, rfl, rfl, rfl⟩, _, Tryz.underlying201, trivial⟩
set_option maxRecDepth 100000 in
theorem ty202 : TiOk Tryz.prog 202 (tenv 202) := ⟨⟨_, _, Tryz.type202, rfl, rfl, rfl, rfl⟩, _, Tryz.underlying202, trivial⟩
set_option maxRecDepth 100000 in
theorem ty209 : TiOk Tryz.prog 209 (tenv 209) := ⟨⟨_, _, Tryz.type209, rfl, rfl, rfl, rfl⟩, _, Tryz.underlying209, trivial⟩
set_option maxRecDepth 100000 in
theorem ty212 : TiOk Tryz.prog 212 (tenv 212) := ⟨⟨_, _, Tryz.type212, rfl, rfl, rfl, rfl⟩, _, Tryz.underlying212, trivial⟩
set_option maxRecDepth 100000 in
theorem ty216 : TiOk Tryz.prog 216 (tenv 216) := ⟨⟨_, _, Tryz.type216, rfl, rfl, rfl, rfl⟩, Tryz.underlying216⟩
set_option maxRecDepth 100000 in
theorem ty219 : TiOk Tryz.prog 219 (tenv 219) := ⟨⟨_, _, Tryz.type219, rfl, rfl, rfl, rfl⟩, _, Tryz.underlying219, rfl, by kernel_rfl, rfl⟩
set_option maxRecDepth 100000 in
theorem ty220 : TiOk Tryz.prog 220 (tenv 220) := ⟨⟨_, _, Tryz.type220, rfl, rfl, rfl, rfl⟩, _, Tryz.underlying220, rfl, by kernel_rfl, rfl⟩
set_option maxRecDepth 100000 in
theorem ty225 : TiOk Tryz.prog 225 (tenv 225) := ⟨⟨_, _, Tryz.type225, rfl, rfl, rfl, rfl⟩, _, Tryz.underlying225, rfl, by kernel_rfl, rfl⟩
set_option maxRecDepth 100000 in
theorem ty226 : TiOk Tryz.prog 226 (tenv 226) := ⟨⟨_, _, Tryz.type226, rfl, rfl, rfl, rfl⟩, _, Tryz.underlying226, rfl, by kernel_rfl, rfl⟩
set_option maxRecDepth 100000 in
theorem ty234 : TiOk Tryz.prog 234 (tenv 234) := ⟨⟨_, _, Tryz.type234, rfl, rfl, rfl, rfl⟩, Tryz.underlying234, ⟨_, _, Tryz.type163, rfl, rfl, rfl, rfl⟩⟩
set_option maxRecDepth 100000 in
theorem ty236 : TiOk Tryz.prog 236 (tenv 236) := ⟨⟨_, _, Tryz.type236, rfl, rfl, rfl, rfl⟩, _, Tryz.underlying236, trivial⟩
set_option maxRecDepth 100000 in
theorem ty237 : TiOk Tryz.prog 237 (tenv 237) := ⟨⟨_, _, Tryz.type237, rfl, rfl, rfl, rfl⟩, _, Tryz.underlying237, rfl, by kernel_rfl, rfl⟩
set_option maxRecDepth 100000 in
theorem ty238 : TiOk Tryz.prog 238 (tenv 238) := ⟨⟨_, _, Tryz.type238, rfl, rfl, rfl, rfl⟩, _, Tryz.underlying238, rfl, by kernel_rfl, rfl⟩
set_option maxRecDepth 100000 in
theorem ty242 : TiOk Tryz.prog 242 (tenv 242) := ⟨⟨_, _, Tryz.type242, rfl, rfl, rfl, rfl⟩, _, Tryz.underlying242, trivial⟩
set_option maxRecDepth 100000 in
theorem ty243 : TiOk Tryz.prog 243 (tenv 243) := ⟨⟨_, _, Tryz.type243, rfl, rfl, rfl, rfl⟩, _, Tryz.underlying243, trivial⟩
set_option maxRecDepth 100000 in
theorem ty249 : TiOk Tryz.prog 249 (tenv 249) := ⟨⟨_, _, Tryz.type249, rfl, rfl, rfl, rfl⟩, _, Tryz.underlying249, trivial⟩
set_option maxRecDepth 100000 in
theorem ty250 : TiOk Tryz.prog 250 (tenv 250) := ⟨⟨_, _, Tryz.type250, rfl, rfl, rfl, rfl⟩, _, Tryz.underlying250, rfl, by kernel_rfl, rfl⟩
set_option maxRecDepth 100000 in
theorem ty251 : TiOk Tryz.prog 251 (tenv 251) := ⟨⟨_, _, Tryz.type251, rfl, rfl, rfl, rfl⟩, _, Tryz.underlying251, rfl, by kernel_rfl, rfl⟩
set_option maxRecDepth 100000 in
theorem ty255 : TiOk Tryz.prog 255 (tenv 255) := ⟨⟨_, _, Tryz.type255, rfl, rfl, rfl, rfl⟩, _, Tryz.underlying255, trivial⟩
set_option maxRecDepth 100000 in
theorem ty262 : TiOk Tryz.prog 262 (tenv 262) := ⟨⟨_, _, Tryz.type262, rfl, rfl, rfl, rfl⟩, Tryz.underlying262, ⟨_, _, Tryz.type25, rfl, rfl, rfl, rfl⟩⟩
set_option maxRecDepth 100000 in
theorem ty268 : TiOk Tryz.prog 268 (tenv 268) := ⟨⟨_, _, Tryz.type268, rfl, rfl, rfl, rfl⟩, _, Tryz.underlying268, rfl, by kernel_rfl, rfl⟩
set_option maxRecDepth 100000 in
theorem ty269 : TiOk Tryz.prog 269 (tenv 269) := ⟨⟨_, _, Tryz.type269, rfl, rfl, rfl, rfl⟩, _, Tryz.underlying269, rfl, by kernel_rfl, rfl⟩
set_option maxRecDepth 100000 in
theorem ty273 : TiOk Tryz.prog 273 (tenv 273) := ⟨⟨_, _, Tryz.type273, rfl, rfl, rfl, rfl⟩, _, Tryz.underlying273, trivial⟩
set_option maxRecDepth 100000 in
theorem ty274 : TiOk Tryz.prog 274 (tenv 274) := ⟨⟨_, _, Tryz.type274, rfl, rfl, rfl, rfl⟩, _, Tryz.underlying274, rfl, by kernel_rfl, rfl⟩
set_option maxRecDepth 100000 in
theorem ty275 : TiOk Tryz.prog 275 (tenv 275) := ⟨⟨_, _, Tryz.type275, rfl, rfl, rfl, rfl⟩, _, Tryz.underlying275, rfl, by kernel_rfl, rfl⟩
set_option maxRecDepth 100000 in
theorem ty279 : TiOk Tryz.prog 279 (tenv 279) := ⟨⟨_, _, Tryz.type279, rfl, rfl, rfl, rfl⟩, Tryz.underlying279, ⟨_, _, Tryz.type4, rfl, rfl, rfl, rfl⟩⟩
set_option maxRecDepth 100000 in
theorem ty281 : TiOk Tryz.prog 281 (tenv 281) := ⟨⟨_, _, Tryz.type281, rfl, rfl, rfl, rfl⟩, _, Tryz.underlying281, trivial⟩
set_option maxRecDepth 100000 in
theorem ty282 : TiOk Tryz.prog 282 (tenv 282) := ⟨⟨_, _, Tryz.type282, rfl, rfl, rfl, rfl⟩, Tryz.underlying282, ⟨_, _, Tryz.type154, rfl, rfl, rfl, rfl⟩⟩
set_option maxRecDepth 100000 in
theorem ty283 : TiOk Tryz.prog 283 (tenv 283) := ⟨⟨_, _, Tryz.type283, rfl, rfl, rfl, rfl⟩, _, Tryz.underlying283, trivial⟩
set_option maxRecDepth 100000 in
theorem ty284 : TiOk Tryz.prog 284 (tenv 284) := ⟨⟨_, _, Tryz.type284, rfl, rfl, rfl, rfl⟩, _, Tryz.underlying284, trivial⟩
set_option maxRecDepth 100000 in
theorem ty285 : TiOk Tryz.prog 285 (tenv 285) := ⟨⟨_, _, Tryz.type285, rfl, rfl, rfl, rfl⟩, Tryz.underlying285, ⟨_, _, Tryz.type287, rfl, rfl, rfl, rfl⟩⟩
set_option maxRecDepth 100000 in
theorem ty286 : TiOk Tryz.prog 286 (tenv 286) := ⟨⟨_, _, Tryz.type286, rfl, rfl, rfl, rfl⟩, _, Tryz.underlying286, rfl, by kernel_rfl, rfl⟩
set_option maxRecDepth 100000 in
theorem ty287 : TiOk Tryz.prog 287 (tenv 287) := ⟨⟨_, _, Tryz.type287, rfl, rfl, rfl, rfl⟩, _, Tryz.underlying287, rfl, by kernel_rfl, rfl⟩
set_option maxRecDepth 100000 in
theorem ty289 : TiOk Tryz.prog 289 (tenv 289) := ⟨⟨_, _, Tryz.type289, rfl, rfl, rfl, rfl⟩, Tryz.underlying289, ⟨_, _, Tryz.type292, rfl, rfl, rfl, rfl⟩⟩
set_option maxRecDepth 100000 in
theorem ty291 : TiOk Tryz.prog 291 (tenv 291) := ⟨⟨_, _, Tryz.type291, rfl, rfl, rfl, rfl⟩, _, Tryz.underlying291, rfl, by kernel_rfl, rfl⟩
set_option maxRecDepth 100000 in
theorem ty292 : TiOk Tryz.prog 292 (tenv 292) := ⟨⟨_, _, Tryz.type292, rfl, rfl, rfl, rfl⟩, _, Tryz.underlying292, rfl, by kernel_rfl, rfl⟩
set_option maxRecDepth 100000 in
theorem ty295 : TiOk Tryz.prog 295 (tenv 295) := ⟨⟨_, _, Tryz.type295, rfl, rfl, rfl, rfl⟩, _, Tryz.underlying295, trivial⟩
set_option maxRecDepth 100000 in
theorem ty298 : TiOk Tryz.prog 298 (tenv 298) := ⟨⟨_, _, Tryz.type298, rfl, rfl, rfl, rfl⟩, _, Tryz.underlying298, trivial⟩
set_option maxRecDepth 100000 in
theorem ty300 : TiOk Tryz.prog 300 (tenv 300) := ⟨⟨_, _, Tryz.type300, rfl, rfl, rfl, rfl⟩, _, Tryz.underlying300, trivial⟩
set_option maxRecDepth 100000 in
theorem ty305 : TiOk Tryz.prog 305 (tenv 305) := ⟨⟨_, _, Tryz.type305, rfl, rfl, rfl, rfl⟩, _, Tryz.underlying305, trivial⟩
set_option maxRecDepth 100000 in
theorem ty309 : TiOk Tryz.prog 309 (tenv 309) := ⟨⟨_, _, Tryz.type309, rfl, rfl, rfl, rfl⟩, _, Tryz.underlying309, trivial⟩
set_option maxRecDepth 100000 in
theorem ty311 : TiOk Tryz.prog 311 (tenv 311) := ⟨⟨_, _, Tryz.type311, rfl, rfl, rfl, rfl⟩, _, Tryz.underlying311, trivial⟩
set_option maxRecDepth 100000 in
theorem ty316 : TiOk Tryz.prog 316 (tenv 316) := ⟨⟨_, _, Tryz.type316, rfl, rfl, rfl, rfl⟩, _, Tryz.underlying316, trivial⟩
set_option maxRecDepth 100000 in
theorem ty320 : TiOk Tryz.prog 320 (tenv 320) := ⟨⟨_, _, Tryz.type320, rfl, rfl, rfl, rfl⟩, _, Tryz.underlying320, rfl, by kernel_rfl, rfl⟩
set_option maxRecDepth 100000 in
theorem ty321 : TiOk Tryz.prog 321 (tenv 321) := ⟨⟨_, _, Tryz.type321, rfl, rfl, rfl, rfl⟩, _, Tryz.underlying321, rfl, by kernel_rfl, rfl⟩
set_option maxRecDepth 100000 in
theorem ty326 : TiOk Tryz.prog 326 (tenv 326) := ⟨⟨_, _, Tryz.type326, rfl, rfl, rfl, rfl⟩, Tryz.underlying326⟩
set_option maxRecDepth 100000 in
theorem ty327 : TiOk Tryz.prog 327 (tenv 327) := ⟨⟨_, _, Tryz.type327, rfl, rfl, rfl, rfl⟩, Tryz.underlying327⟩
set_option maxRecDepth 100000 in
theorem ty329 : TiOk Tryz.prog 329 (tenv 329) := ⟨⟨_, _, Tryz.type329, rfl, rfl, rfl, rfl⟩, _, Tryz.underlying329, trivial⟩
set_option maxRecDepth 100000 in
theorem ty330 : TiOk Tryz.prog 330 (tenv 330) := ⟨⟨_, _, Tryz.type330, rfl, rfl, rfl, rfl⟩, Tryz.underlying330⟩
set_option maxRecDepth 100000 in
theorem ty331 : TiOk Tryz.prog 331 (tenv 331) := ⟨⟨_, _, Tryz.type331, rfl, rfl, rfl, rfl⟩, Tryz.underlying331⟩
set_option maxRecDepth 100000 in
theorem ty332 : TiOk Tryz.prog 332 (tenv 332) := ⟨⟨_, _, Tryz.type332, rfl, rfl, rfl, rfl⟩, _, Tryz.underlying332, rfl, by kernel_rfl, rfl⟩
set_option maxRecDepth 100000 in
theorem ty333 : TiOk Tryz.prog 333 (tenv 333) := ⟨⟨_, _, Tryz.type333, rfl, rfl, rfl, rfl⟩, _, Tryz.underlying333, rfl, by kernel_rfl, rfl⟩
theorem tok : ∀ t, TiOk Tryz.prog t (tenv t) := by
  intro t
  by_cases h : t ∈ [2, 3, 4, 5, 6, 7, 8, 9, 10, 11, 12, 13, 14, 15, 16, 17, 18, 19, 21, 22, 24, 25, 26, 27, 32, 33, 44, 46, 48, 53, 69, 71, 72, 73, 74, 75, 76, 84, 87, 92, 94, 96, 103, 106, 109, 111, 112, 114, 115, 116, 117, 118, 125, 126, 127, 128, 133, 135, 136, 147, 148, 154, 157, 163, 168, 172, 173, 182, 191, 193, 198, 201, 202, 209, 212, 216, 219, 220, 225, 226, 234, 236, 237, 238, 242, 243, 249, 250, 251, 255, 262, 268, 269, 273, 274, 275, 279, 281, 282, 283, 284, 285, 286, 287, 289, 291, 292, 295, 298, 300, 305, 309, 311, 316, 320, 321, 326, 327, 329, 330, 331, 332, 333]
  · simp only [List.mem_cons, List.not_mem_nil, or_false] at h
    rcases h with rfl | rfl | rfl | rfl | rfl | rfl | rfl | rfl | rfl | rfl | rfl | rfl | rfl | rfl | rfl | rfl | rfl | rfl | rfl | rfl | rfl | rfl | rfl | rfl | rfl | rfl | rfl | rfl | rfl | rfl | rfl | rfl | rfl | rfl | rfl | rfl | rfl | rfl | rfl | rfl | rfl | rfl | rfl | rfl | rfl | rfl | rfl | rfl | rfl | rfl | rfl | rfl | rfl | rfl | rfl | rfl | rfl | rfl | rfl | rfl | rfl | rfl | rfl | rfl | rfl | rfl | rfl | rfl | rfl | rfl | rfl | rfl | rfl | rfl | rfl | rfl | rfl | rfl | rfl | rfl | rfl | rfl | rfl | rfl | rfl | rfl | rfl | rfl | rfl | rfl | rfl | rfl | rfl | rfl | rfl | rfl | rfl | rfl | rfl | rfl | rfl | rfl | rfl | rfl | rfl | rfl | rfl | rfl | rfl | rfl | rfl | rfl | rfl | rfl | rfl | rfl | rfl | rfl | rfl | rfl | rfl | rfl | rfl
    · exact ty2
    · exact ty3
    · exact ty4
    · exact ty5
    · exact ty6
    · exact ty7
    · exact ty8
    · exact ty9
    · exact ty10
    · exact ty11
    · exact ty12
    · exact ty13
    · exact ty14
    · exact ty15
    · exact ty16
    · exact ty17
    · exact ty18
    · exact ty19
    · exact ty21
    · exact ty22
    · exact ty24
    · exact ty25
    · exact ty26
    · exact ty27
    · exact ty32
    · exact ty33
    · exact ty44
    · exact ty46
    · exact ty48
    · exact ty53
    · exact ty69
    · exact ty71
    · exact ty72
    · exact ty73
    · exact ty74
    · exact ty75
    · exact ty76
    · exact ty84
    · exact ty87
    · exact ty92
    · exact ty94
    · exact ty96
    · exact ty103
    · exact ty106
    · exact ty109
    · exact ty111
    · exact ty112
    · exact ty114
    · exact ty115
    · exact ty116
    · exact ty117
    · exact ty118
    · exact ty125
    · exact ty126
    · exact ty127
    · exact ty128
    · exact ty133
    · exact ty135
    · exact ty136
    · exact ty147
    · exact ty148
    · exact ty154
    · exact ty157
    · exact ty163
    · exact ty168
    · exact ty172
    · exact ty173
    · exact ty182
    · exact ty191
    · exact ty193
    · exact ty198
    · exact ty201
    · exact ty202
    · exact ty209
    · exact ty212
    · exact ty216
    · exact ty219
    · exact ty220
    · exact ty225
    · exact ty226
    · exact ty234
    · exact ty236
    · exact ty237
    · exact ty238
    · exact ty242
    · exact ty243
    · exact ty249
    · exact ty250
    · exact ty251
    · exact ty255
    · exact ty262
    · exact ty268
    · exact ty269
    · exact ty273
    · exact ty274
    · exact ty275
    · exact ty279
    · exact ty281
    · exact ty282
    · exact ty283
    · exact ty284
    · exact ty285
    · exact ty286
    · exact ty287
    · exact ty289
    · exact ty291
    · exact ty292
    · exact ty295
    · exact ty298
    · exact ty300
    · exact ty305
    · exact ty309
    · exact ty311
    · exact ty316
    · exact ty320
    · exact ty321
    · exact ty326
    · exact ty327
    · exact ty329
    · exact ty330
    · exact ty331
    · exact ty332
    · exact ty333
  · have : tenv t = Ti.no := by
      unfold tenv
      split
      all_goals first | rfl | (exfalso; apply h; decide)
    rw [this]; trivial
noncomputable def TE : Env := { P := Tryz.prog, ti := tenv, ok := tok }
@[go_sem] theorem TE_ti (t : TypeId) : TE.ti t = tenv t := rfl
@[go_sem] theorem TE_P : TE.P = Tryz.prog := rfl
end Go.Eng
