/- MADE BY PROGRAM (gentypes.py): what is known of the types of the seat. -/
import Derived.Test.YtgbjgeignbjjnaaGreatKcx
import Derived.Test.YtgbjgeignbjjnaaGreatProg
namespace Go.Eng
open Go Go.Proofs
def tenv : TypeId → Ti
  | 2=>⟨.ik .i64,1,8,[.int .i64 0],default⟩
  | 3=>⟨.ik .i64,1,8,[.int .i64 0],default⟩
  | 4=>⟨.bk,1,1,[.bool false],default⟩
  | 5=>⟨.ik .u8,1,1,[.int .u8 0],default⟩
  | 6=>⟨.ik .u8,1,1,[.int .u8 0],default⟩
  | 7=>⟨.st [(0,1),(1,1),(2,1),(3,1)],4,24,[.int .i64 0,.int .i64 0,.bool false,.int .u8 0],default⟩
  | 8=>⟨.st [(0,1),(1,1),(2,1),(3,1)],4,24,[.int .i64 0,.int .i64 0,.bool false,.int .u8 0],default⟩
  | 9=>⟨.strk,1,16,[.string ⟨#[]⟩],default⟩
  | 10=>⟨.strk,1,16,[.string ⟨#[]⟩],default⟩
  | 11=>⟨.strk,1,16,[.string ⟨#[]⟩],default⟩
  | 12=>⟨.ik .u64,1,8,[.int .u64 0],default⟩
  | 13=>⟨.st [(0,1),(1,1)],2,24,[.string ⟨#[]⟩,.int .u64 0],default⟩
  | 14=>⟨.st [(0,1),(1,1)],2,24,[.string ⟨#[]⟩,.int .u64 0],default⟩
  | 15=>⟨.sc,1,8,[.pointer none],default⟩
  | 16=>⟨.sc,1,8,[.pointer none],default⟩
  | 17=>⟨.sc,1,8,[.pointer none],default⟩
  | 18=>⟨.st [(0,1)],1,8,[.pointer none],default⟩
  | 19=>⟨.st [(0,1)],1,8,[.pointer none],default⟩
  | 21=>⟨.ik .i32,1,4,[.int .i32 0],default⟩
  | 22=>⟨.sli 2 1 8 [.int .i64 0],1,24,[.slice none 0 0],.v (.int .i64 0)⟩
  | 23=>⟨.sli 22 1 24 [.slice none 0 0],1,24,[.slice none 0 0],.sl 1 (.v (.int .i64 0)) []⟩
  | 24=>⟨.st [(0,1),(1,1),(2,1),(3,1),(4,1)],5,104,[.int .i64 0,.slice none 0 0,.slice none 0 0,.slice none 0 0,.slice none 0 0],default⟩
  | 25=>⟨.st [(0,1),(1,1),(2,1),(3,1),(4,1)],5,104,[.int .i64 0,.slice none 0 0,.slice none 0 0,.slice none 0 0,.slice none 0 0],default⟩
  | 29=>⟨.st [(0,1),(1,1),(2,1),(3,1),(4,1)],5,104,[.int .i64 0,.slice none 0 0,.slice none 0 0,.slice none 0 0,.slice none 0 0],default⟩
  | 42=>⟨.sc,1,8,[.pointer none],default⟩
  | 43=>⟨.sc,1,8,[.pointer none],default⟩
  | 47=>⟨.sli 67 3 24 [.int .i64 0,.int .i64 0,.int .i64 0],1,24,[.slice none 0 0],.v (.int .i64 0)⟩
  | 48=>⟨.st [(0,5),(5,1),(6,1)],7,152,[.int .i64 0,.slice none 0 0,.slice none 0 0,.slice none 0 0,.slice none 0 0,.slice none 0 0,.slice none 0 0],default⟩
  | 49=>⟨.st [(0,5),(5,1),(6,1)],7,152,[.int .i64 0,.slice none 0 0,.slice none 0 0,.slice none 0 0,.slice none 0 0,.slice none 0 0,.slice none 0 0],default⟩
  | 50=>⟨.sc,1,8,[.nilFunc],default⟩
  | 51=>⟨.sc,1,8,[.nilFunc],default⟩
  | 56=>⟨.sc,1,8,[.nilFunc],default⟩
  | 58=>⟨.st [(0,5),(5,5),(10,1),(11,1)],12,256,[.int .i64 0,.slice none 0 0,.slice none 0 0,.slice none 0 0,.slice none 0 0,.int .i64 0,.slice none 0 0,.slice none 0 0,.slice none 0 0,.slice none 0 0,.slice none 0 0,.slice none 0 0],default⟩
  | 59=>⟨.st [(0,5),(5,5),(10,1),(11,1)],12,256,[.int .i64 0,.slice none 0 0,.slice none 0 0,.slice none 0 0,.slice none 0 0,.int .i64 0,.slice none 0 0,.slice none 0 0,.slice none 0 0,.slice none 0 0,.slice none 0 0,.slice none 0 0],default⟩
  | 62=>⟨.sli 42 1 8 [.pointer none],1,24,[.slice none 0 0],.v (.pointer none)⟩
  | 63=>⟨.sc,1,8,[.nilFunc],default⟩
  | 66=>⟨.sc,1,8,[.nilFunc],default⟩
  | 67=>⟨.ar 3 1,3,24,[.int .i64 0,.int .i64 0,.int .i64 0],default⟩
  | 68=>⟨.sc,1,8,[.nilFunc],default⟩
  | 76=>⟨.sli 59 12 256 [.int .i64 0,.slice none 0 0,.slice none 0 0,.slice none 0 0,.slice none 0 0,.int .i64 0,.slice none 0 0,.slice none 0 0,.slice none 0 0,.slice none 0 0,.slice none 0 0,.slice none 0 0],1,24,[.slice none 0 0],.v (.int .i64 0)⟩
  | 80=>⟨.sc,1,8,[.nilFunc],default⟩
  | 83=>⟨.sc,1,8,[.nilFunc],default⟩
  | 84=>⟨.sc,1,8,[.nilFunc],default⟩
  | 85=>⟨.sc,1,8,[.nilFunc],default⟩
  | 86=>⟨.sc,1,8,[.nilFunc],default⟩
  | 87=>⟨.sc,1,8,[.nilFunc],default⟩
  | 88=>⟨.sc,1,8,[.pointer none],default⟩
  | 89=>⟨.st [(0,5),(5,5),(10,1),(11,1),(12,1),(13,1)],14,288,[.int .i64 0,.slice none 0 0,.slice none 0 0,.slice none 0 0,.slice none 0 0,.int .i64 0,.slice none 0 0,.slice none 0 0,.slice none 0 0,.slice none 0 0,.slice none 0 0,.slice none 0 0,.int .i64 0,.slice none 0 0],default⟩
  | 90=>⟨.st [(0,5),(5,5),(10,1),(11,1),(12,1),(13,1)],14,288,[.int .i64 0,.slice none 0 0,.slice none 0 0,.slice none 0 0,.slice none 0 0,.int .i64 0,.slice none 0 0,.slice none 0 0,.slice none 0 0,.slice none 0 0,.slice none 0 0,.slice none 0 0,.int .i64 0,.slice none 0 0],default⟩
  | 94=>⟨.st [(0,1),(1,1)],2,16,[.int .i64 0,.int .i64 0],default⟩
  | 95=>⟨.st [(0,1),(1,1)],2,16,[.int .i64 0,.int .i64 0],default⟩
  | 109=>⟨.sli 4 1 1 [.bool false],1,24,[.slice none 0 0],.v (.bool false)⟩
  | 111=>⟨.sli 2 1 8 [.int .i64 0],1,24,[.slice none 0 0],.v (.int .i64 0)⟩
  | 117=>⟨.sc,1,8,[.pointer none],default⟩
  | 120=>⟨.sc,1,8,[.nilFunc],default⟩
  | 121=>⟨.sli 2 1 8 [.int .i64 0],1,24,[.slice none 0 0],.v (.int .i64 0)⟩
  | 123=>⟨.sc,1,8,[.nilFunc],default⟩
  | 124=>⟨.sc,1,8,[.nilFunc],default⟩
  | 125=>⟨.st [(0,1),(1,1),(2,1),(3,1),(4,1),(5,1)],6,80,[.pointer none,.pointer none,.slice none 0 0,.slice none 0 0,.bool false,.nilFunc],default⟩
  | 126=>⟨.st [(0,1),(1,1),(2,1),(3,1),(4,1),(5,1)],6,80,[.pointer none,.pointer none,.slice none 0 0,.slice none 0 0,.bool false,.nilFunc],default⟩
  | 130=>⟨.sc,1,8,[.map none],default⟩
  | 134=>⟨.st [(0,1),(1,1),(2,1),(3,1)],4,40,[.pointer none,.pointer none,.pointer none,.string ⟨#[]⟩],default⟩
  | 135=>⟨.st [(0,1),(1,1),(2,1),(3,1)],4,40,[.pointer none,.pointer none,.pointer none,.string ⟨#[]⟩],default⟩
  | 140=>⟨.ik .u32,1,4,[.int .u32 0],default⟩
  | 141=>⟨.ik .u8,1,1,[.int .u8 0],default⟩
  | 142=>⟨.ik .u8,1,1,[.int .u8 0],default⟩
  | 144=>⟨.sc,1,8,[.pointer none],default⟩
  | 145=>⟨.ik .i32,1,4,[.int .i32 0],default⟩
  | 146=>⟨.ik .i32,1,4,[.int .i32 0],default⟩
  | 147=>⟨.st [(0,1),(1,1),(2,1),(3,1),(4,1),(5,1),(6,1),(7,1),(8,1),(9,1),(10,1)],11,48,[.int .u64 0,.int .u64 0,.int .u32 0,.int .u8 0,.int .u8 0,.int .u8 0,.int .u8 0,.nilFunc,.pointer none,.int .i32 0,.int .i32 0],default⟩
  | 148=>⟨.st [(0,1),(1,1),(2,1),(3,1),(4,1),(5,1),(6,1),(7,1),(8,1),(9,1),(10,1)],11,48,[.int .u64 0,.int .u64 0,.int .u32 0,.int .u8 0,.int .u8 0,.int .u8 0,.int .u8 0,.nilFunc,.pointer none,.int .i32 0,.int .i32 0],default⟩
  | _=>Ti.no
@[go_sem] theorem tenv2 : tenv 2 = ⟨.ik .i64,1,8,[.int .i64 0],default⟩:=rfl
@[go_sem] theorem tenv3 : tenv 3 = ⟨.ik .i64,1,8,[.int .i64 0],default⟩:=rfl
@[go_sem] theorem tenv4 : tenv 4 = ⟨.bk,1,1,[.bool false],default⟩:=rfl
@[go_sem] theorem tenv5 : tenv 5 = ⟨.ik .u8,1,1,[.int .u8 0],default⟩:=rfl
@[go_sem] theorem tenv6 : tenv 6 = ⟨.ik .u8,1,1,[.int .u8 0],default⟩:=rfl
@[go_sem] theorem tenv7 : tenv 7 = ⟨.st [(0,1),(1,1),(2,1),(3,1)],4,24,[.int .i64 0,.int .i64 0,.bool false,.int .u8 0],default⟩:=rfl
@[go_sem] theorem tenv8 : tenv 8 = ⟨.st [(0,1),(1,1),(2,1),(3,1)],4,24,[.int .i64 0,.int .i64 0,.bool false,.int .u8 0],default⟩:=rfl
@[go_sem] theorem tenv9 : tenv 9 = ⟨.strk,1,16,[.string ⟨#[]⟩],default⟩:=rfl
@[go_sem] theorem tenv10 : tenv 10 = ⟨.strk,1,16,[.string ⟨#[]⟩],default⟩:=rfl
@[go_sem] theorem tenv11 : tenv 11 = ⟨.strk,1,16,[.string ⟨#[]⟩],default⟩:=rfl
@[go_sem] theorem tenv12 : tenv 12 = ⟨.ik .u64,1,8,[.int .u64 0],default⟩:=rfl
@[go_sem] theorem tenv13 : tenv 13 = ⟨.st [(0,1),(1,1)],2,24,[.string ⟨#[]⟩,.int .u64 0],default⟩:=rfl
@[go_sem] theorem tenv14 : tenv 14 = ⟨.st [(0,1),(1,1)],2,24,[.string ⟨#[]⟩,.int .u64 0],default⟩:=rfl
@[go_sem] theorem tenv15 : tenv 15 = ⟨.sc,1,8,[.pointer none],default⟩:=rfl
@[go_sem] theorem tenv16 : tenv 16 = ⟨.sc,1,8,[.pointer none],default⟩:=rfl
@[go_sem] theorem tenv17 : tenv 17 = ⟨.sc,1,8,[.pointer none],default⟩:=rfl
@[go_sem] theorem tenv18 : tenv 18 = ⟨.st [(0,1)],1,8,[.pointer none],default⟩:=rfl
@[go_sem] theorem tenv19 : tenv 19 = ⟨.st [(0,1)],1,8,[.pointer none],default⟩:=rfl
@[go_sem] theorem tenv21 : tenv 21 = ⟨.ik .i32,1,4,[.int .i32 0],default⟩:=rfl
@[go_sem] theorem tenv22 : tenv 22 = ⟨.sli 2 1 8 [.int .i64 0],1,24,[.slice none 0 0],.v (.int .i64 0)⟩:=rfl
@[go_sem] theorem tenv23 : tenv 23 = ⟨.sli 22 1 24 [.slice none 0 0],1,24,[.slice none 0 0],.sl 1 (.v (.int .i64 0)) []⟩:=rfl
@[go_sem] theorem tenv24 : tenv 24 = ⟨.st [(0,1),(1,1),(2,1),(3,1),(4,1)],5,104,[.int .i64 0,.slice none 0 0,.slice none 0 0,.slice none 0 0,.slice none 0 0],default⟩:=rfl
@[go_sem] theorem tenv25 : tenv 25 = ⟨.st [(0,1),(1,1),(2,1),(3,1),(4,1)],5,104,[.int .i64 0,.slice none 0 0,.slice none 0 0,.slice none 0 0,.slice none 0 0],default⟩:=rfl
@[go_sem] theorem tenv29 : tenv 29 = ⟨.st [(0,1),(1,1),(2,1),(3,1),(4,1)],5,104,[.int .i64 0,.slice none 0 0,.slice none 0 0,.slice none 0 0,.slice none 0 0],default⟩:=rfl
@[go_sem] theorem tenv42 : tenv 42 = ⟨.sc,1,8,[.pointer none],default⟩:=rfl
@[go_sem] theorem tenv43 : tenv 43 = ⟨.sc,1,8,[.pointer none],default⟩:=rfl
@[go_sem] theorem tenv47 : tenv 47 = ⟨.sli 67 3 24 [.int .i64 0,.int .i64 0,.int .i64 0],1,24,[.slice none 0 0],.v (.int .i64 0)⟩:=rfl
@[go_sem] theorem tenv48 : tenv 48 = ⟨.st [(0,5),(5,1),(6,1)],7,152,[.int .i64 0,.slice none 0 0,.slice none 0 0,.slice none 0 0,.slice none 0 0,.slice none 0 0,.slice none 0 0],default⟩:=rfl
@[go_sem] theorem tenv49 : tenv 49 = ⟨.st [(0,5),(5,1),(6,1)],7,152,[.int .i64 0,.slice none 0 0,.slice none 0 0,.slice none 0 0,.slice none 0 0,.slice none 0 0,.slice none 0 0],default⟩:=rfl
@[go_sem] theorem tenv50 : tenv 50 = ⟨.sc,1,8,[.nilFunc],default⟩:=rfl
@[go_sem] theorem tenv51 : tenv 51 = ⟨.sc,1,8,[.nilFunc],default⟩:=rfl
@[go_sem] theorem tenv56 : tenv 56 = ⟨.sc,1,8,[.nilFunc],default⟩:=rfl
@[go_sem] theorem tenv58 : tenv 58 = ⟨.st [(0,5),(5,5),(10,1),(11,1)],12,256,[.int .i64 0,.slice none 0 0,.slice none 0 0,.slice none 0 0,.slice none 0 0,.int .i64 0,.slice none 0 0,.slice none 0 0,.slice none 0 0,.slice none 0 0,.slice none 0 0,.slice none 0 0],default⟩:=rfl
@[go_sem] theorem tenv59 : tenv 59 = ⟨.st [(0,5),(5,5),(10,1),(11,1)],12,256,[.int .i64 0,.slice none 0 0,.slice none 0 0,.slice none 0 0,.slice none 0 0,.int .i64 0,.slice none 0 0,.slice none 0 0,.slice none 0 0,.slice none 0 0,.slice none 0 0,.slice none 0 0],default⟩:=rfl
@[go_sem] theorem tenv62 : tenv 62 = ⟨.sli 42 1 8 [.pointer none],1,24,[.slice none 0 0],.v (.pointer none)⟩:=rfl
@[go_sem] theorem tenv63 : tenv 63 = ⟨.sc,1,8,[.nilFunc],default⟩:=rfl
@[go_sem] theorem tenv66 : tenv 66 = ⟨.sc,1,8,[.nilFunc],default⟩:=rfl
@[go_sem] theorem tenv67 : tenv 67 = ⟨.ar 3 1,3,24,[.int .i64 0,.int .i64 0,.int .i64 0],default⟩:=rfl
@[go_sem] theorem tenv68 : tenv 68 = ⟨.sc,1,8,[.nilFunc],default⟩:=rfl
@[go_sem] theorem tenv76 : tenv 76 = ⟨.sli 59 12 256 [.int .i64 0,.slice none 0 0,.slice none 0 0,.slice none 0 0,.slice none 0 0,.int .i64 0,.slice none 0 0,.slice none 0 0,.slice none 0 0,.slice none 0 0,.slice none 0 0,.slice none 0 0],1,24,[.slice none 0 0],.v (.int .i64 0)⟩:=rfl
@[go_sem] theorem tenv80 : tenv 80 = ⟨.sc,1,8,[.nilFunc],default⟩:=rfl
@[go_sem] theorem tenv83 : tenv 83 = ⟨.sc,1,8,[.nilFunc],default⟩:=rfl
@[go_sem] theorem tenv84 : tenv 84 = ⟨.sc,1,8,[.nilFunc],default⟩:=rfl
@[go_sem] theorem tenv85 : tenv 85 = ⟨.sc,1,8,[.nilFunc],default⟩:=rfl
@[go_sem] theorem tenv86 : tenv 86 = ⟨.sc,1,8,[.nilFunc],default⟩:=rfl
@[go_sem] theorem tenv87 : tenv 87 = ⟨.sc,1,8,[.nilFunc],default⟩:=rfl
@[go_sem] theorem tenv88 : tenv 88 = ⟨.sc,1,8,[.pointer none],default⟩:=rfl
@[go_sem] theorem tenv89 : tenv 89 = ⟨.st [(0,5),(5,5),(10,1),(11,1),(12,1),(13,1)],14,288,[.int .i64 0,.slice none 0 0,.slice none 0 0,.slice none 0 0,.slice none 0 0,.int .i64 0,.slice none 0 0,.slice none 0 0,.slice none 0 0,.slice none 0 0,.slice none 0 0,.slice none 0 0,.int .i64 0,.slice none 0 0],default⟩:=rfl
@[go_sem] theorem tenv90 : tenv 90 = ⟨.st [(0,5),(5,5),(10,1),(11,1),(12,1),(13,1)],14,288,[.int .i64 0,.slice none 0 0,.slice none 0 0,.slice none 0 0,.slice none 0 0,.int .i64 0,.slice none 0 0,.slice none 0 0,.slice none 0 0,.slice none 0 0,.slice none 0 0,.slice none 0 0,.int .i64 0,.slice none 0 0],default⟩:=rfl
@[go_sem] theorem tenv94 : tenv 94 = ⟨.st [(0,1),(1,1)],2,16,[.int .i64 0,.int .i64 0],default⟩:=rfl
@[go_sem] theorem tenv95 : tenv 95 = ⟨.st [(0,1),(1,1)],2,16,[.int .i64 0,.int .i64 0],default⟩:=rfl
@[go_sem] theorem tenv109 : tenv 109 = ⟨.sli 4 1 1 [.bool false],1,24,[.slice none 0 0],.v (.bool false)⟩:=rfl
@[go_sem] theorem tenv111 : tenv 111 = ⟨.sli 2 1 8 [.int .i64 0],1,24,[.slice none 0 0],.v (.int .i64 0)⟩:=rfl
@[go_sem] theorem tenv117 : tenv 117 = ⟨.sc,1,8,[.pointer none],default⟩:=rfl
@[go_sem] theorem tenv120 : tenv 120 = ⟨.sc,1,8,[.nilFunc],default⟩:=rfl
@[go_sem] theorem tenv121 : tenv 121 = ⟨.sli 2 1 8 [.int .i64 0],1,24,[.slice none 0 0],.v (.int .i64 0)⟩:=rfl
@[go_sem] theorem tenv123 : tenv 123 = ⟨.sc,1,8,[.nilFunc],default⟩:=rfl
@[go_sem] theorem tenv124 : tenv 124 = ⟨.sc,1,8,[.nilFunc],default⟩:=rfl
@[go_sem] theorem tenv125 : tenv 125 = ⟨.st [(0,1),(1,1),(2,1),(3,1),(4,1),(5,1)],6,80,[.pointer none,.pointer none,.slice none 0 0,.slice none 0 0,.bool false,.nilFunc],default⟩:=rfl
@[go_sem] theorem tenv126 : tenv 126 = ⟨.st [(0,1),(1,1),(2,1),(3,1),(4,1),(5,1)],6,80,[.pointer none,.pointer none,.slice none 0 0,.slice none 0 0,.bool false,.nilFunc],default⟩:=rfl
@[go_sem] theorem tenv130 : tenv 130 = ⟨.sc,1,8,[.map none],default⟩:=rfl
@[go_sem] theorem tenv134 : tenv 134 = ⟨.st [(0,1),(1,1),(2,1),(3,1)],4,40,[.pointer none,.pointer none,.pointer none,.string ⟨#[]⟩],default⟩:=rfl
@[go_sem] theorem tenv135 : tenv 135 = ⟨.st [(0,1),(1,1),(2,1),(3,1)],4,40,[.pointer none,.pointer none,.pointer none,.string ⟨#[]⟩],default⟩:=rfl
@[go_sem] theorem tenv140 : tenv 140 = ⟨.ik .u32,1,4,[.int .u32 0],default⟩:=rfl
@[go_sem] theorem tenv141 : tenv 141 = ⟨.ik .u8,1,1,[.int .u8 0],default⟩:=rfl
@[go_sem] theorem tenv142 : tenv 142 = ⟨.ik .u8,1,1,[.int .u8 0],default⟩:=rfl
@[go_sem] theorem tenv144 : tenv 144 = ⟨.sc,1,8,[.pointer none],default⟩:=rfl
@[go_sem] theorem tenv145 : tenv 145 = ⟨.ik .i32,1,4,[.int .i32 0],default⟩:=rfl
@[go_sem] theorem tenv146 : tenv 146 = ⟨.ik .i32,1,4,[.int .i32 0],default⟩:=rfl
@[go_sem] theorem tenv147 : tenv 147 = ⟨.st [(0,1),(1,1),(2,1),(3,1),(4,1),(5,1),(6,1),(7,1),(8,1),(9,1),(10,1)],11,48,[.int .u64 0,.int .u64 0,.int .u32 0,.int .u8 0,.int .u8 0,.int .u8 0,.int .u8 0,.nilFunc,.pointer none,.int .i32 0,.int .i32 0],default⟩:=rfl
@[go_sem] theorem tenv148 : tenv 148 = ⟨.st [(0,1),(1,1),(2,1),(3,1),(4,1),(5,1),(6,1),(7,1),(8,1),(9,1),(10,1)],11,48,[.int .u64 0,.int .u64 0,.int .u32 0,.int .u8 0,.int .u8 0,.int .u8 0,.int .u8 0,.nilFunc,.pointer none,.int .i32 0,.int .i32 0],default⟩:=rfl
set_option maxRecDepth 100000 in
theorem ty2 : TiOk Tryz.prog 2 (tenv 2):=⟨⟨_,_,Tryz.type2,rfl,rfl,rfl,rfl⟩,Tryz.underlying2⟩
set_option maxRecDepth 100000 in
theorem ty3 : TiOk Tryz.prog 3 (tenv 3):=⟨⟨_,_,Tryz.type3,rfl,rfl,rfl,rfl⟩,Tryz.underlying3⟩
set_option maxRecDepth 100000 in
theorem ty4 : TiOk Tryz.prog 4 (tenv 4):=⟨⟨_,_,Tryz.type4,rfl,rfl,rfl,rfl⟩,Tryz.underlying4⟩
set_option maxRecDepth 100000 in
theorem ty5 : TiOk Tryz.prog 5 (tenv 5):=⟨⟨_,_,Tryz.type5,rfl,rfl,rfl,rfl⟩,Tryz.underlying5⟩
set_option maxRecDepth 100000 in
theorem ty6 : TiOk Tryz.prog 6 (tenv 6):=⟨⟨_,_,Tryz.type6,rfl,rfl,rfl,rfl⟩,Tryz.underlying6⟩
set_option maxRecDepth 100000 in
theorem ty7 : TiOk Tryz.prog 7 (tenv 7):=⟨⟨_,_,Tryz.type7,rfl,rfl,rfl,rfl⟩,_,Tryz.underlying7,rfl,by kernel_rfl,rfl⟩
set_option maxRecDepth 100000 in
theorem ty8 : TiOk Tryz.prog 8 (tenv 8):=⟨⟨_,_,Tryz.type8,rfl,rfl,rfl,rfl⟩,_,Tryz.underlying8,rfl,by kernel_rfl,rfl⟩
set_option maxRecDepth 100000 in
theorem ty9 : TiOk Tryz.prog 9 (tenv 9):=⟨⟨_,_,Tryz.type9,rfl,rfl,rfl,rfl⟩,Tryz.underlying9⟩
set_option maxRecDepth 100000 in
theorem ty10 : TiOk Tryz.prog 10 (tenv 10):=⟨⟨_,_,Tryz.type10,rfl,rfl,rfl,rfl⟩,Tryz.underlying10⟩
set_option maxRecDepth 100000 in
theorem ty11 : TiOk Tryz.prog 11 (tenv 11):=⟨⟨_,_,Tryz.type11,rfl,rfl,rfl,rfl⟩,Tryz.underlying11⟩
set_option maxRecDepth 100000 in
theorem ty12 : TiOk Tryz.prog 12 (tenv 12):=⟨⟨_,_,Tryz.type12,rfl,rfl,rfl,rfl⟩,Tryz.underlying12⟩
set_option maxRecDepth 100000 in
theorem ty13 : TiOk Tryz.prog 13 (tenv 13):=⟨⟨_,_,Tryz.type13,rfl,rfl,rfl,rfl⟩,_,Tryz.underlying13,rfl,by kernel_rfl,rfl⟩
set_option maxRecDepth 100000 in
theorem ty14 : TiOk Tryz.prog 14 (tenv 14):=⟨⟨_,_,Tryz.type14,rfl,rfl,rfl,rfl⟩,_,Tryz.underlying14,rfl,by kernel_rfl,rfl⟩
set_option maxRecDepth 100000 in
theorem ty15 : TiOk Tryz.prog 15 (tenv 15):=⟨⟨_,_,Tryz.type15,rfl,rfl,rfl,rfl⟩,_,Tryz.underlying15,trivial⟩
set_option maxRecDepth 100000 in
theorem ty16 : TiOk Tryz.prog 16 (tenv 16):=⟨⟨_,_,Tryz.type16,rfl,rfl,rfl,rfl⟩,_,Tryz.underlying16,trivial⟩
set_option maxRecDepth 100000 in
theorem ty17 : TiOk Tryz.prog 17 (tenv 17):=⟨⟨_,_,Tryz.type17,rfl,rfl,rfl,rfl⟩,_,Tryz.underlying17,trivial⟩
set_option maxRecDepth 100000 in
theorem ty18 : TiOk Tryz.prog 18 (tenv 18):=⟨⟨_,_,Tryz.type18,rfl,rfl,rfl,rfl⟩,_,Tryz.underlying18,rfl,by kernel_rfl,rfl⟩
set_option maxRecDepth 100000 in
theorem ty19 : TiOk Tryz.prog 19 (tenv 19):=⟨⟨_,_,Tryz.type19,rfl,rfl,rfl,rfl⟩,_,Tryz.underlying19,rfl,by kernel_rfl,rfl⟩
set_option maxRecDepth 100000 in
theorem ty21 : TiOk Tryz.prog 21 (tenv 21):=⟨⟨_,_,Tryz.type21,rfl,rfl,rfl,rfl⟩,Tryz.underlying21⟩
set_option maxRecDepth 100000 in
theorem ty22 : TiOk Tryz.prog 22 (tenv 22):=⟨⟨_,_,Tryz.type22,rfl,rfl,rfl,rfl⟩,Tryz.underlying22,⟨_,_,Tryz.type2,rfl,rfl,rfl,rfl⟩⟩
set_option maxRecDepth 100000 in
theorem ty23 : TiOk Tryz.prog 23 (tenv 23):=⟨⟨_,_,Tryz.type23,rfl,rfl,rfl,rfl⟩,Tryz.underlying23,⟨_,_,Tryz.type22,rfl,rfl,rfl,rfl⟩⟩
set_option maxRecDepth 100000 in
theorem ty24 : TiOk Tryz.prog 24 (tenv 24):=⟨⟨_,_,Tryz.type24,rfl,rfl,rfl,rfl⟩,_,Tryz.underlying24,rfl,by kernel_rfl,rfl⟩
set_option maxRecDepth 100000 in
theorem ty25 : TiOk Tryz.prog 25 (tenv 25):=⟨⟨_,_,Tryz.type25,rfl,rfl,rfl,rfl⟩,_,Tryz.underlying25,rfl,by kernel_rfl,rfl⟩
set_option maxRecDepth 100000 in
theorem ty29 : TiOk Tryz.prog 29 (tenv 29):=⟨⟨_,_,Tryz.type29,rfl,rfl,rfl,rfl⟩,_,Tryz.underlying29,rfl,by kernel_rfl,rfl⟩
set_option maxRecDepth 100000 in
theorem ty42 : TiOk Tryz.prog 42 (tenv 42):=⟨⟨_,_,Tryz.type42,rfl,rfl,rfl,rfl⟩,_,Tryz.underlying42,trivial⟩
set_option maxRecDepth 100000 in
theorem ty43 : TiOk Tryz.prog 43 (tenv 43):=⟨⟨_,_,Tryz.type43,rfl,rfl,rfl,rfl⟩,_,Tryz.underlying43,trivial⟩
set_option maxRecDepth 100000 in
theorem ty47 : TiOk Tryz.prog 47 (tenv 47):=⟨⟨_,_,Tryz.type47,rfl,rfl,rfl,rfl⟩,Tryz.underlying47,⟨_,_,Tryz.type67,rfl,rfl,rfl,rfl⟩⟩
set_option maxRecDepth 100000 in
theorem ty48 : TiOk Tryz.prog 48 (tenv 48):=⟨⟨_,_,Tryz.type48,rfl,rfl,rfl,rfl⟩,_,Tryz.underlying48,rfl,by kernel_rfl,rfl⟩
set_option maxRecDepth 100000 in
theorem ty49 : TiOk Tryz.prog 49 (tenv 49):=⟨⟨_,_,Tryz.type49,rfl,rfl,rfl,rfl⟩,_,Tryz.underlying49,rfl,by kernel_rfl,rfl⟩
set_option maxRecDepth 100000 in
theorem ty50 : TiOk Tryz.prog 50 (tenv 50):=⟨⟨_,_,Tryz.type50,rfl,rfl,rfl,rfl⟩,_,Tryz.underlying50,trivial⟩
set_option maxRecDepth 100000 in
theorem ty51 : TiOk Tryz.prog 51 (tenv 51):=⟨⟨_,_,Tryz.type51,rfl,rfl,rfl,rfl⟩,_,Tryz.underlying51,trivial⟩
set_option maxRecDepth 100000 in
theorem ty56 : TiOk Tryz.prog 56 (tenv 56):=⟨⟨_,_,Tryz.type56,rfl,rfl,rfl,rfl⟩,_,Tryz.underlying56,trivial⟩
set_option maxRecDepth 100000 in
theorem ty58 : TiOk Tryz.prog 58 (tenv 58):=⟨⟨_,_,Tryz.type58,rfl,rfl,rfl,rfl⟩,_,Tryz.underlying58,rfl,by kernel_rfl,rfl⟩
set_option maxRecDepth 100000 in
theorem ty59 : TiOk Tryz.prog 59 (tenv 59):=⟨⟨_,_,Tryz.type59,rfl,rfl,rfl,rfl⟩,_,Tryz.underlying59,rfl,by kernel_rfl,rfl⟩
set_option maxRecDepth 100000 in
theorem ty62 : TiOk Tryz.prog 62 (tenv 62):=⟨⟨_,_,Tryz.type62,rfl,rfl,rfl,rfl⟩,Tryz.underlying62,⟨_,_,Tryz.type42,rfl,rfl,rfl,rfl⟩⟩
set_option maxRecDepth 100000 in
theorem ty63 : TiOk Tryz.prog 63 (tenv 63):=⟨⟨_,_,Tryz.type63,rfl,rfl,rfl,rfl⟩,_,Tryz.underlying63,trivial⟩
set_option maxRecDepth 100000 in
theorem ty66 : TiOk Tryz.prog 66 (tenv 66):=⟨⟨_,_,Tryz.type66,rfl,rfl,rfl,rfl⟩,_,Tryz.underlying66,trivial⟩
set_option maxRecDepth 100000 in
theorem ty67 : TiOk Tryz.prog 67 (tenv 67):=⟨⟨_,_,Tryz.type67,rfl,rfl,rfl,rfl⟩,_,_,_,Tryz.underlying67,⟨_,_,Tryz.type2,rfl,rfl,rfl,rfl⟩⟩
set_option maxRecDepth 100000 in
theorem ty68 : TiOk Tryz.prog 68 (tenv 68):=⟨⟨_,_,Tryz.type68,rfl,rfl,rfl,rfl⟩,_,Tryz.underlying68,trivial⟩
set_option maxRecDepth 100000 in
theorem ty76 : TiOk Tryz.prog 76 (tenv 76):=⟨⟨_,_,Tryz.type76,rfl,rfl,rfl,rfl⟩,Tryz.underlying76,⟨_,_,Tryz.type59,rfl,rfl,rfl,rfl⟩⟩
set_option maxRecDepth 100000 in
theorem ty80 : TiOk Tryz.prog 80 (tenv 80):=⟨⟨_,_,Tryz.type80,rfl,rfl,rfl,rfl⟩,_,Tryz.underlying80,trivial⟩
set_option maxRecDepth 100000 in
theorem ty83 : TiOk Tryz.prog 83 (tenv 83):=⟨⟨_,_,Tryz.type83,rfl,rfl,rfl,rfl⟩,_,Tryz.underlying83,trivial⟩
set_option maxRecDepth 100000 in
theorem ty84 : TiOk Tryz.prog 84 (tenv 84):=⟨⟨_,_,Tryz.type84,rfl,rfl,rfl,rfl⟩,_,Tryz.underlying84,trivial⟩
set_option maxRecDepth 100000 in
theorem ty85 : TiOk Tryz.prog 85 (tenv 85):=⟨⟨_,_,Tryz.type85,rfl,rfl,rfl,rfl⟩,_,Tryz.underlying85,trivial⟩
set_option maxRecDepth 100000 in
theorem ty86 : TiOk Tryz.prog 86 (tenv 86):=⟨⟨_,_,Tryz.type86,rfl,rfl,rfl,rfl⟩,_,Tryz.underlying86,trivial⟩
set_option maxRecDepth 100000 in
theorem ty87 : TiOk Tryz.prog 87 (tenv 87):=⟨⟨_,_,Tryz.type87,rfl,rfl,rfl,rfl⟩,_,Tryz.underlying87,trivial⟩
set_option maxRecDepth 100000 in
theorem ty88 : TiOk Tryz.prog 88 (tenv 88):=⟨⟨_,_,Tryz.type88,rfl,rfl,rfl,rfl⟩,_,Tryz.underlying88,trivial⟩
set_option maxRecDepth 100000 in
theorem ty89 : TiOk Tryz.prog 89 (tenv 89):=⟨⟨_,_,Tryz.type89,rfl,rfl,rfl,rfl⟩,_,Tryz.underlying89,rfl,by kernel_rfl,rfl⟩
set_option maxRecDepth 100000 in
theorem ty90 : TiOk Tryz.prog 90 (tenv 90):=⟨⟨_,_,Tryz.type90,rfl,rfl,rfl,rfl⟩,_,Tryz.underlying90,rfl,by kernel_rfl,rfl⟩
set_option maxRecDepth 100000 in
theorem ty94 : TiOk Tryz.prog 94 (tenv 94):=⟨⟨_,_,Tryz.type94,rfl,rfl,rfl,rfl⟩,_,Tryz.underlying94,rfl,by kernel_rfl,rfl⟩
set_option maxRecDepth 100000 in
theorem ty95 : TiOk Tryz.prog 95 (tenv 95):=⟨⟨_,_,Tryz.type95,rfl,rfl,rfl,rfl⟩,_,Tryz.underlying95,rfl,by kernel_rfl,rfl⟩
set_option maxRecDepth 100000 in
theorem ty109 : TiOk Tryz.prog 109 (tenv 109):=⟨⟨_,_,Tryz.type109,rfl,rfl,rfl,rfl⟩,Tryz.underlying109,⟨_,_,Tryz.type4,rfl,rfl,rfl,rfl⟩⟩
set_option maxRecDepth 100000 in
theorem ty111 : TiOk Tryz.prog 111 (tenv 111):=⟨⟨_,_,Tryz.type111,rfl,rfl,rfl,rfl⟩,Tryz.underlying111,⟨_,_,Tryz.type2,rfl,rfl,rfl,rfl⟩⟩
set_option maxRecDepth 100000 in
theorem ty117 : TiOk Tryz.prog 117 (tenv 117):=⟨⟨_,_,Tryz.type117,rfl,rfl,rfl,rfl⟩,_,Tryz.underlying117,trivial⟩
set_option maxRecDepth 100000 in
theorem ty120 : TiOk Tryz.prog 120 (tenv 120):=⟨⟨_,_,Tryz.type120,rfl,rfl,rfl,rfl⟩,_,Tryz.underlying120,trivial⟩
set_option maxRecDepth 100000 in
theorem ty121 : TiOk Tryz.prog 121 (tenv 121):=⟨⟨_,_,Tryz.type121,rfl,rfl,rfl,rfl⟩,Tryz.underlying121,⟨_,_,Tryz.type2,rfl,rfl,rfl,rfl⟩⟩
set_option maxRecDepth 100000 in
theorem ty123 : TiOk Tryz.prog 123 (tenv 123):=⟨⟨_,_,Tryz.type123,rfl,rfl,rfl,rfl⟩,_,Tryz.underlying123,trivial⟩
set_option maxRecDepth 100000 in
theorem ty124 : TiOk Tryz.prog 124 (tenv 124):=⟨⟨_,_,Tryz.type124,rfl,rfl,rfl,rfl⟩,_,Tryz.underlying124,trivial⟩
set_option maxRecDepth 100000 in
theorem ty125 : TiOk Tryz.prog 125 (tenv 125):=⟨⟨_,_,Tryz.type125,rfl,rfl,rfl,rfl⟩,_,Tryz.underlying125,rfl,by kernel_rfl,rfl⟩
set_option maxRecDepth 100000 in
theorem ty126 : TiOk Tryz.prog 126 (tenv 126):=⟨⟨_,_,Tryz.type126,rfl,rfl,rfl,rfl⟩,_,Tryz.underlying126,rfl,by kernel_rfl,rfl⟩
set_option maxRecDepth 100000 in
theorem ty130 : TiOk Tryz.prog 130 (tenv 130):=⟨⟨_,_,Tryz.type130,rfl,rfl,rfl,rfl⟩,_,Tryz.underlying130,trivial⟩
set_option maxRecDepth 100000 in
theorem ty134 : TiOk Tryz.prog 134 (tenv 134):=⟨⟨_,_,Tryz.type134,rfl,rfl,rfl,rfl⟩,_,Tryz.underlying134,rfl,by kernel_rfl,rfl⟩
set_option maxRecDepth 100000 in
theorem ty135 : TiOk Tryz.prog 135 (tenv 135):=⟨⟨_,_,Tryz.type135,rfl,rfl,rfl,rfl⟩,_,Tryz.underlying135,rfl,by kernel_rfl,rfl⟩
set_option maxRecDepth 100000 in
theorem ty140 : TiOk Tryz.prog 140 (tenv 140):=⟨⟨_,_,Tryz.type140,rfl,rfl,rfl,rfl⟩,Tryz.underlying140⟩
set_option maxRecDepth 100000 in
theorem ty141 : TiOk Tryz.prog 141 (tenv 141):=⟨⟨_,_,Tryz.type141,rfl,rfl,rfl,rfl⟩,Tryz.underlying141⟩
set_option maxRecDepth 100000 in
theorem ty142 : TiOk Tryz.prog 142 (tenv 142):=⟨⟨_,_,Tryz.type142,rfl,rfl,rfl,rfl⟩,Tryz.underlying142⟩
set_option maxRecDepth 100000 in
theorem ty144 : TiOk Tryz.prog 144 (tenv 144):=⟨⟨_,_,Tryz.type144,rfl,rfl,rfl,rfl⟩,_,Tryz.underlying144,trivial⟩
set_option maxRecDepth 100000 in
theorem ty145 : TiOk Tryz.prog 145 (tenv 145):=⟨⟨_,_,Tryz.type145,rfl,rfl,rfl,rfl⟩,Tryz.underlying145⟩
set_option maxRecDepth 100000 in
theorem ty146 : TiOk Tryz.prog 146 (tenv 146):=⟨⟨_,_,Tryz.type146,rfl,rfl,rfl,rfl⟩,Tryz.underlying146⟩
set_option maxRecDepth 100000 in
theorem ty147 : TiOk Tryz.prog 147 (tenv 147):=⟨⟨_,_,Tryz.type147,rfl,rfl,rfl,rfl⟩,_,Tryz.underlying147,rfl,by kernel_rfl,rfl⟩
set_option maxRecDepth 100000 in
theorem ty148 : TiOk Tryz.prog 148 (tenv 148):=⟨⟨_,_,Tryz.type148,rfl,rfl,rfl,rfl⟩,_,Tryz.underlying148,rfl,by kernel_rfl,rfl⟩
theorem tok : ∀ t,TiOk Tryz.prog t (tenv t):=by
  intro t
  by_cases h : t ∈ [2,3,4,5,6,7,8,9,10,11,12,13,14,15,16,17,18,19,21,22,23,24,25,29,42,43,47,48,49,50,51,56,58,59,62,63,66,67,68,76,80,83,84,85,86,87,88,89,90,94,95,109,111,117,120,121,123,124,125,126,130,134,135,140,141,142,144,145,146,147,148]
  · simp only [List.mem_cons,List.not_mem_nil,or_false] at h
    rcases h with rfl | rfl | rfl | rfl | rfl | rfl | rfl | rfl | rfl | rfl | rfl | rfl | rfl | rfl | rfl | rfl | rfl | rfl | rfl | rfl | rfl | rfl | rfl | rfl | rfl | rfl | rfl | rfl | rfl | rfl | rfl | rfl | rfl | rfl | rfl | rfl | rfl | rfl | rfl | rfl | rfl | rfl | rfl | rfl | rfl | rfl | rfl | rfl | rfl | rfl | rfl | rfl | rfl | rfl | rfl | rfl | rfl | rfl | rfl | rfl | rfl | rfl | rfl | rfl | rfl | rfl | rfl | rfl | rfl | rfl | rfl
    · exact ty2
    · exact ty3
    · exact ty4
    · exact ty5
    · exact ty6
    · exact ty7
    · exact ty8
    · exact ty9
    · exact ty10
    · exact ty11
    · exact ty12
    · exact ty13
    · exact ty14
    · exact ty15
    · exact ty16
    · exact ty17
    · exact ty18
    · exact ty19
    · exact ty21
    · exact ty22
    · exact ty23
    · exact ty24
    · exact ty25
    · exact ty29
    · exact ty42
    · exact ty43
    · exact ty47
    · exact ty48
    · exact ty49
    · exact ty50
    · exact ty51
    · exact ty56
    · exact ty58
    · exact ty59
    · exact ty62
    · exact ty63
    · exact ty66
    · exact ty67
    · exact ty68
    · exact ty76
    · exact ty80
    · exact ty83
    · exact ty84
    · exact ty85
    · exact ty86
    · exact ty87
    · exact ty88
    · exact ty89
    · exact ty90
    · exact ty94
    · exact ty95
    · exact ty109
    · exact ty111
    · exact ty117
    · exact ty120
    · exact ty121
    · exact ty123
    · exact ty124
    · exact ty125
    · exact ty126
    · exact ty130
    · exact ty134
    · exact ty135
    · exact ty140
    · exact ty141
    · exact ty142
    · exact ty144
    · exact ty145
    · exact ty146
    · exact ty147
    · exact ty148
  · have : tenv t = Ti.no:=by
      unfold tenv
      split
      all_goals first|rfl|(exfalso;apply h;decide)
    rw [this];trivial
noncomputable def TE : Env:={ P:=Tryz.prog,ti:=tenv,ok:=tok }
@[go_sem] theorem TE_ti (t : TypeId) : TE.ti t = tenv t:=rfl
@[go_sem] theorem TE_P : TE.P = Tryz.prog:=rfl
end Go.Eng
