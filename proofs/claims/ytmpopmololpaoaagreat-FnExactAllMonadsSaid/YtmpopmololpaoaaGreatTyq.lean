/- MADE BY PROGRAM (gentypes.py): what is known of the types of the seat. -/
import Derived.Test.YtmpopmololpaoaaGreatKcx
import Derived.Test.YtmpopmololpaoaaGreatProg
namespace Go.Eng
open Go Go.Proofs
def tenv : TypeId → Ti
  | 2=>⟨.ik .i64,1,8,[.int .i64 0],default⟩
  | 3=>⟨.ik .i64,1,8,[.int .i64 0],default⟩
  | 4=>⟨.bk,1,1,[.bool false],default⟩
  | 5=>⟨.ik .u8,1,1,[.int .u8 0],default⟩
  | 6=>⟨.ik .u8,1,1,[.int .u8 0],default⟩
  | 7=>⟨.st [(0,1),(1,1),(2,1),(3,1)],4,24,[.int .i64 0,.int .i64 0,.bool false,.int .u8 0],default⟩
  | 8=>⟨.st [(0,1),(1,1),(2,1),(3,1)],4,24,[.int .i64 0,.int .i64 0,.bool false,.int .u8 0],default⟩
  | 9=>⟨.strk,1,16,[.string ⟨#[]⟩],default⟩
  | 10=>⟨.strk,1,16,[.string ⟨#[]⟩],default⟩
  | 11=>⟨.strk,1,16,[.string ⟨#[]⟩],default⟩
  | 12=>⟨.ik .u64,1,8,[.int .u64 0],default⟩
  | 13=>⟨.st [(0,1),(1,1)],2,24,[.string ⟨#[]⟩,.int .u64 0],default⟩
  | 14=>⟨.st [(0,1),(1,1)],2,24,[.string ⟨#[]⟩,.int .u64 0],default⟩
  | 15=>⟨.sc,1,8,[.pointer none],default⟩
  | 16=>⟨.sc,1,8,[.pointer none],default⟩
  | 17=>⟨.sc,1,8,[.pointer none],default⟩
  | 18=>⟨.st [(0,1)],1,8,[.pointer none],default⟩
  | 19=>⟨.st [(0,1)],1,8,[.pointer none],default⟩
  | 21=>⟨.ik .i32,1,4,[.int .i32 0],default⟩
  | 22=>⟨.sli 2 1 8 [.int .i64 0],1,24,[.slice none 0 0],.v (.int .i64 0)⟩
  | 23=>⟨.sli 22 1 24 [.slice none 0 0],1,24,[.slice none 0 0],.sl 1 (.v (.int .i64 0)) []⟩
  | 24=>⟨.st [(0,1),(1,1),(2,1),(3,1),(4,1)],5,104,[.int .i64 0,.slice none 0 0,.slice none 0 0,.slice none 0 0,.slice none 0 0],default⟩
  | 25=>⟨.st [(0,1),(1,1),(2,1),(3,1),(4,1)],5,104,[.int .i64 0,.slice none 0 0,.slice none 0 0,.slice none 0 0,.slice none 0 0],default⟩
  | 27=>⟨.st [(0,1),(1,1),(2,1),(3,1),(4,1)],5,104,[.int .i64 0,.slice none 0 0,.slice none 0 0,.slice none 0 0,.slice none 0 0],default⟩
  | 28=>⟨.sli 40 12 256 [.int .i64 0,.slice none 0 0,.slice none 0 0,.slice none 0 0,.slice none 0 0,.int .i64 0,.slice none 0 0,.slice none 0 0,.slice none 0 0,.slice none 0 0,.slice none 0 0,.slice none 0 0],1,24,[.slice none 0 0],.v (.int .i64 0)⟩
  | 34=>⟨.sc,1,8,[.nilFunc],default⟩
  | 39=>⟨.st [(0,5),(5,5),(10,1),(11,1)],12,256,[.int .i64 0,.slice none 0 0,.slice none 0 0,.slice none 0 0,.slice none 0 0,.int .i64 0,.slice none 0 0,.slice none 0 0,.slice none 0 0,.slice none 0 0,.slice none 0 0,.slice none 0 0],default⟩
  | 40=>⟨.st [(0,5),(5,5),(10,1),(11,1)],12,256,[.int .i64 0,.slice none 0 0,.slice none 0 0,.slice none 0 0,.slice none 0 0,.int .i64 0,.slice none 0 0,.slice none 0 0,.slice none 0 0,.slice none 0 0,.slice none 0 0,.slice none 0 0],default⟩
  | 47=>⟨.st [(0,5),(5,5),(10,1),(11,1)],12,256,[.int .i64 0,.slice none 0 0,.slice none 0 0,.slice none 0 0,.slice none 0 0,.int .i64 0,.slice none 0 0,.slice none 0 0,.slice none 0 0,.slice none 0 0,.slice none 0 0,.slice none 0 0],default⟩
  | 48=>⟨.st [(0,5),(5,5),(10,1),(11,1)],12,256,[.int .i64 0,.slice none 0 0,.slice none 0 0,.slice none 0 0,.slice none 0 0,.int .i64 0,.slice none 0 0,.slice none 0 0,.slice none 0 0,.slice none 0 0,.slice none 0 0,.slice none 0 0],default⟩
  | 61=>⟨.sli 128 14 304 [.int .i64 0,.slice none 0 0,.slice none 0 0,.slice none 0 0,.slice none 0 0,.int .i64 0,.slice none 0 0,.slice none 0 0,.slice none 0 0,.slice none 0 0,.slice none 0 0,.slice none 0 0,.slice none 0 0,.slice none 0 0],1,24,[.slice none 0 0],.v (.int .i64 0)⟩
  | 69=>⟨.st [(0,5),(5,1),(6,1)],7,152,[.int .i64 0,.slice none 0 0,.slice none 0 0,.slice none 0 0,.slice none 0 0,.slice none 0 0,.slice none 0 0],default⟩
  | 70=>⟨.st [(0,5),(5,1),(6,1)],7,152,[.int .i64 0,.slice none 0 0,.slice none 0 0,.slice none 0 0,.slice none 0 0,.slice none 0 0,.slice none 0 0],default⟩
  | 76=>⟨.sc,1,8,[.pointer none],default⟩
  | 77=>⟨.sc,1,8,[.pointer none],default⟩
  | 80=>⟨.sc,1,8,[.map none],default⟩
  | 81=>⟨.st [(0,5),(5,1),(6,1),(7,1)],8,160,[.int .i64 0,.slice none 0 0,.slice none 0 0,.slice none 0 0,.slice none 0 0,.slice none 0 0,.slice none 0 0,.map none],default⟩
  | 82=>⟨.st [(0,5),(5,1),(6,1),(7,1)],8,160,[.int .i64 0,.slice none 0 0,.slice none 0 0,.slice none 0 0,.slice none 0 0,.slice none 0 0,.slice none 0 0,.map none],default⟩
  | 83=>⟨.sc,1,8,[.nilFunc],default⟩
  | 86=>⟨.sc,1,8,[.nilFunc],default⟩
  | 91=>⟨.sc,1,8,[.nilFunc],default⟩
  | 93=>⟨.sc,1,8,[.nilFunc],default⟩
  | 94=>⟨.sc,1,8,[.nilFunc],default⟩
  | 100=>⟨.sc,1,8,[.nilFunc],default⟩
  | 102=>⟨.sc,1,8,[.pointer none],default⟩
  | 109=>⟨.sc,1,8,[.nilFunc],default⟩
  | 119=>⟨.sc,1,8,[.pointer none],default⟩
  | 127=>⟨.st [(0,12),(12,1),(13,1)],14,304,[.int .i64 0,.slice none 0 0,.slice none 0 0,.slice none 0 0,.slice none 0 0,.int .i64 0,.slice none 0 0,.slice none 0 0,.slice none 0 0,.slice none 0 0,.slice none 0 0,.slice none 0 0,.slice none 0 0,.slice none 0 0],default⟩
  | 128=>⟨.st [(0,12),(12,1),(13,1)],14,304,[.int .i64 0,.slice none 0 0,.slice none 0 0,.slice none 0 0,.slice none 0 0,.int .i64 0,.slice none 0 0,.slice none 0 0,.slice none 0 0,.slice none 0 0,.slice none 0 0,.slice none 0 0,.slice none 0 0,.slice none 0 0],default⟩
  | 135=>⟨.sli 76 1 8 [.pointer none],1,24,[.slice none 0 0],.v (.pointer none)⟩
  | 144=>⟨.sc,1,8,[.nilFunc],default⟩
  | 146=>⟨.sc,1,8,[.nilFunc],default⟩
  | 148=>⟨.sli 153 2 32 [.int .i64 0,.slice none 0 0],1,24,[.slice none 0 0],.v (.int .i64 0)⟩
  | 152=>⟨.st [(0,1),(1,1)],2,32,[.int .i64 0,.slice none 0 0],default⟩
  | 153=>⟨.st [(0,1),(1,1)],2,32,[.int .i64 0,.slice none 0 0],default⟩
  | 155=>⟨.st [(0,12),(12,12),(24,1),(25,1),(26,1)],27,568,[.int .i64 0,.slice none 0 0,.slice none 0 0,.slice none 0 0,.slice none 0 0,.int .i64 0,.slice none 0 0,.slice none 0 0,.slice none 0 0,.slice none 0 0,.slice none 0 0,.slice none 0 0,.int .i64 0,.slice none 0 0,.slice none 0 0,.slice none 0 0,.slice none 0 0,.int .i64 0,.slice none 0 0,.slice none 0 0,.slice none 0 0,.slice none 0 0,.slice none 0 0,.slice none 0 0,.pointer none,.slice none 0 0,.slice none 0 0],default⟩
  | 156=>⟨.st [(0,12),(12,12),(24,1),(25,1),(26,1)],27,568,[.int .i64 0,.slice none 0 0,.slice none 0 0,.slice none 0 0,.slice none 0 0,.int .i64 0,.slice none 0 0,.slice none 0 0,.slice none 0 0,.slice none 0 0,.slice none 0 0,.slice none 0 0,.int .i64 0,.slice none 0 0,.slice none 0 0,.slice none 0 0,.slice none 0 0,.int .i64 0,.slice none 0 0,.slice none 0 0,.slice none 0 0,.slice none 0 0,.slice none 0 0,.slice none 0 0,.pointer none,.slice none 0 0,.slice none 0 0],default⟩
  | 167=>⟨.sc,1,8,[.nilFunc],default⟩
  | 171=>⟨.sc,1,8,[.pointer none],default⟩
  | 173=>⟨.sc,1,8,[.nilFunc],default⟩
  | 175=>⟨.sc,1,8,[.nilFunc],default⟩
  | 176=>⟨.sli 5 1 1 [.int .u8 0],1,24,[.slice none 0 0],.v (.int .u8 0)⟩
  | 177=>⟨.sc,1,8,[.nilFunc],default⟩
  | 178=>⟨.st [(0,1),(1,1)],2,16,[.int .i64 0,.int .i64 0],default⟩
  | 179=>⟨.st [(0,1),(1,1)],2,16,[.int .i64 0,.int .i64 0],default⟩
  | 190=>⟨.sc,1,8,[.pointer none],default⟩
  | 191=>⟨.sc,1,8,[.nilFunc],default⟩
  | 196=>⟨.sc,1,8,[.pointer none],default⟩
  | 197=>⟨.st [(0,12),(12,12),(24,1),(25,1),(26,1)],27,552,[.int .i64 0,.slice none 0 0,.slice none 0 0,.slice none 0 0,.slice none 0 0,.int .i64 0,.slice none 0 0,.slice none 0 0,.slice none 0 0,.slice none 0 0,.slice none 0 0,.slice none 0 0,.int .i64 0,.slice none 0 0,.slice none 0 0,.slice none 0 0,.slice none 0 0,.int .i64 0,.slice none 0 0,.slice none 0 0,.slice none 0 0,.slice none 0 0,.slice none 0 0,.slice none 0 0,.bool false,.int .i64 0,.slice none 0 0],default⟩
  | 198=>⟨.st [(0,12),(12,12),(24,1),(25,1),(26,1)],27,552,[.int .i64 0,.slice none 0 0,.slice none 0 0,.slice none 0 0,.slice none 0 0,.int .i64 0,.slice none 0 0,.slice none 0 0,.slice none 0 0,.slice none 0 0,.slice none 0 0,.slice none 0 0,.int .i64 0,.slice none 0 0,.slice none 0 0,.slice none 0 0,.slice none 0 0,.int .i64 0,.slice none 0 0,.slice none 0 0,.slice none 0 0,.slice none 0 0,.slice none 0 0,.slice none 0 0,.bool false,.int .i64 0,.slice none 0 0],default⟩
  | 200=>⟨.st [(0,1),(1,1),(2,1),(3,1),(4,1),(5,1)],6,80,[.pointer none,.pointer none,.slice none 0 0,.slice none 0 0,.bool false,.nilFunc],default⟩
  | 201=>⟨.st [(0,1),(1,1),(2,1),(3,1),(4,1),(5,1)],6,80,[.pointer none,.pointer none,.slice none 0 0,.slice none 0 0,.bool false,.nilFunc],default⟩
  | 207=>⟨.sc,1,8,[.nilFunc],default⟩
  | 211=>⟨.sli 4 1 1 [.bool false],1,24,[.slice none 0 0],.v (.bool false)⟩
  | 215=>⟨.st [(0,1),(1,1),(2,1),(3,1)],4,40,[.pointer none,.pointer none,.pointer none,.string ⟨#[]⟩],default⟩
  | 216=>⟨.st [(0,1),(1,1),(2,1),(3,1)],4,40,[.pointer none,.pointer none,.pointer none,.string ⟨#[]⟩],default⟩
  | 221=>⟨.ik .u32,1,4,[.int .u32 0],default⟩
  | 222=>⟨.ik .u8,1,1,[.int .u8 0],default⟩
  | 223=>⟨.ik .u8,1,1,[.int .u8 0],default⟩
  | 225=>⟨.sc,1,8,[.pointer none],default⟩
  | 226=>⟨.ik .i32,1,4,[.int .i32 0],default⟩
  | 227=>⟨.ik .i32,1,4,[.int .i32 0],default⟩
  | 228=>⟨.st [(0,1),(1,1),(2,1),(3,1),(4,1),(5,1),(6,1),(7,1),(8,1),(9,1),(10,1)],11,48,[.int .u64 0,.int .u64 0,.int .u32 0,.int .u8 0,.int .u8 0,.int .u8 0,.int .u8 0,.nilFunc,.pointer none,.int .i32 0,.int .i32 0],default⟩
  | 229=>⟨.st [(0,1),(1,1),(2,1),(3,1),(4,1),(5,1),(6,1),(7,1),(8,1),(9,1),(10,1)],11,48,[.int .u64 0,.int .u64 0,.int .u32 0,.int .u8 0,.int .u8 0,.int .u8 0,.int .u8 0,.nilFunc,.pointer none,.int .i32 0,.int .i32 0],default⟩
  | _=>Ti.no
@[go_sem] theorem tenv2 : tenv 2 = ⟨.ik .i64,1,8,[.int .i64 0],default⟩:=rfl
@[go_sem] theorem tenv3 : tenv 3 = ⟨.ik .i64,1,8,[.int .i64 0],default⟩:=rfl
@[go_sem] theorem tenv4 : tenv 4 = ⟨.bk,1,1,[.bool false],default⟩:=rfl
@[go_sem] theorem tenv5 : tenv 5 = ⟨.ik .u8,1,1,[.int .u8 0],default⟩:=rfl
@[go_sem] theorem tenv6 : tenv 6 = ⟨.ik .u8,1,1,[.int .u8 0],default⟩:=rfl
@[go_sem] theorem tenv7 : tenv 7 = ⟨.st [(0,1),(1,1),(2,1),(3,1)],4,24,[.int .i64 0,.int .i64 0,.bool false,.int .u8 0],default⟩:=rfl
@[go_sem] theorem tenv8 : tenv 8 = ⟨.st [(0,1),(1,1),(2,1),(3,1)],4,24,[.int .i64 0,.int .i64 0,.bool false,.int .u8 0],default⟩:=rfl
@[go_sem] theorem tenv9 : tenv 9 = ⟨.strk,1,16,[.string ⟨#[]⟩],default⟩:=rfl
@[go_sem] theorem tenv10 : tenv 10 = ⟨.strk,1,16,[.string ⟨#[]⟩],default⟩:=rfl
@[go_sem] theorem tenv11 : tenv 11 = ⟨.strk,1,16,[.string ⟨#[]⟩],default⟩:=rfl
@[go_sem] theorem tenv12 : tenv 12 = ⟨.ik .u64,1,8,[.int .u64 0],default⟩:=rfl
@[go_sem] theorem tenv13 : tenv 13 = ⟨.st [(0,1),(1,1)],2,24,[.string ⟨#[]⟩,.int .u64 0],default⟩:=rfl
@[go_sem] theorem tenv14 : tenv 14 = ⟨.st [(0,1),(1,1)],2,24,[.string ⟨#[]⟩,.int .u64 0],default⟩:=rfl
@[go_sem] theorem tenv15 : tenv 15 = ⟨.sc,1,8,[.pointer none],default⟩:=rfl
@[go_sem] theorem tenv16 : tenv 16 = ⟨.sc,1,8,[.pointer none],default⟩:=rfl
@[go_sem] theorem tenv17 : tenv 17 = ⟨.sc,1,8,[.pointer none],default⟩:=rfl
@[go_sem] theorem tenv18 : tenv 18 = ⟨.st [(0,1)],1,8,[.pointer none],default⟩:=rfl
@[go_sem] theorem tenv19 : tenv 19 = ⟨.st [(0,1)],1,8,[.pointer none],default⟩:=rfl
@[go_sem] theorem tenv21 : tenv 21 = ⟨.ik .i32,1,4,[.int .i32 0],default⟩:=rfl
@[go_sem] theorem tenv22 : tenv 22 = ⟨.sli 2 1 8 [.int .i64 0],1,24,[.slice none 0 0],.v (.int .i64 0)⟩:=rfl
@[go_sem] theorem tenv23 : tenv 23 = ⟨.sli 22 1 24 [.slice none 0 0],1,24,[.slice none 0 0],.sl 1 (.v (.int .i64 0)) []⟩:=rfl
@[go_sem] theorem tenv24 : tenv 24 = ⟨.st [(0,1),(1,1),(2,1),(3,1),(4,1)],5,104,[.int .i64 0,.slice none 0 0,.slice none 0 0,.slice none 0 0,.slice none 0 0],default⟩:=rfl
@[go_sem] theorem tenv25 : tenv 25 = ⟨.st [(0,1),(1,1),(2,1),(3,1),(4,1)],5,104,[.int .i64 0,.slice none 0 0,.slice none 0 0,.slice none 0 0,.slice none 0 0],default⟩:=rfl
@[go_sem] theorem tenv27 : tenv 27 = ⟨.st [(0,1),(1,1),(2,1),(3,1),(4,1)],5,104,[.int .i64 0,.slice none 0 0,.slice none 0 0,.slice none 0 0,.slice none 0 0],default⟩:=rfl
@[go_sem] theorem tenv28 : tenv 28 = ⟨.sli 40 12 256 [.int .i64 0,.slice none 0 0,.slice none 0 0,.slice none 0 0,.slice none 0 0,.int .i64 0,.slice none 0 0,.slice none 0 0,.slice none 0 0,.slice none 0 0,.slice none 0 0,.slice none 0 0],1,24,[.slice none 0 0],.v (.int .i64 0)⟩:=rfl
@[go_sem] theorem tenv34 : tenv 34 = ⟨.sc,1,8,[.nilFunc],default⟩:=rfl
@[go_sem] theorem tenv39 : tenv 39 = ⟨.st [(0,5),(5,5),(10,1),(11,1)],12,256,[.int .i64 0,.slice none 0 0,.slice none 0 0,.slice none 0 0,.slice none 0 0,.int .i64 0,.slice none 0 0,.slice none 0 0,.slice none 0 0,.slice none 0 0,.slice none 0 0,.slice none 0 0],default⟩:=rfl
@[go_sem] theorem tenv40 : tenv 40 = ⟨.st [(0,5),(5,5),(10,1),(11,1)],12,256,[.int .i64 0,.slice none 0 0,.slice none 0 0,.slice none 0 0,.slice none 0 0,.int .i64 0,.slice none 0 0,.slice none 0 0,.slice none 0 0,.slice none 0 0,.slice none 0 0,.slice none 0 0],default⟩:=rfl
@[go_sem] theorem tenv47 : tenv 47 = ⟨.st [(0,5),(5,5),(10,1),(11,1)],12,256,[.int .i64 0,.slice none 0 0,.slice none 0 0,.slice none 0 0,.slice none 0 0,.int .i64 0,.slice none 0 0,.slice none 0 0,.slice none 0 0,.slice none 0 0,.slice none 0 0,.slice none 0 0],default⟩:=rfl
@[go_sem] theorem tenv48 : tenv 48 = ⟨.st [(0,5),(5,5),(10,1),(11,1)],12,256,[.int .i64 0,.slice none 0 0,.slice none 0 0,.slice none 0 0,.slice none 0 0,.int .i64 0,.slice none 0 0,.slice none 0 0,.slice none 0 0,.slice none 0 0,.slice none 0 0,.slice none 0 0],default⟩:=rfl
@[go_sem] theorem tenv61 : tenv 61 = ⟨.sli 128 14 304 [.int .i64 0,.slice none 0 0,.slice none 0 0,.slice none 0 0,.slice none 0 0,.int .i64 0,.slice none 0 0,.slice none 0 0,.slice none 0 0,.slice none 0 0,.slice none 0 0,.slice none 0 0,.slice none 0 0,.slice none 0 0],1,24,[.slice none 0 0],.v (.int .i64 0)⟩:=rfl
@[go_sem] theorem tenv69 : tenv 69 = ⟨.st [(0,5),(5,1),(6,1)],7,152,[.int .i64 0,.slice none 0 0,.slice none 0 0,.slice none 0 0,.slice none 0 0,.slice none 0 0,.slice none 0 0],default⟩:=rfl
@[go_sem] theorem tenv70 : tenv 70 = ⟨.st [(0,5),(5,1),(6,1)],7,152,[.int .i64 0,.slice none 0 0,.slice none 0 0,.slice none 0 0,.slice none 0 0,.slice none 0 0,.slice none 0 0],default⟩:=rfl
@[go_sem] theorem tenv76 : tenv 76 = ⟨.sc,1,8,[.pointer none],default⟩:=rfl
@[go_sem] theorem tenv77 : tenv 77 = ⟨.sc,1,8,[.pointer none],default⟩:=rfl
@[go_sem] theorem tenv80 : tenv 80 = ⟨.sc,1,8,[.map none],default⟩:=rfl
@[go_sem] theorem tenv81 : tenv 81 = ⟨.st [(0,5),(5,1),(6,1),(7,1)],8,160,[.int .i64 0,.slice none 0 0,.slice none 0 0,.slice none 0 0,.slice none 0 0,.slice none 0 0,.slice none 0 0,.map none],default⟩:=rfl
@[go_sem] theorem tenv82 : tenv 82 = ⟨.st [(0,5),(5,1),(6,1),(7,1)],8,160,[.int .i64 0,.slice none 0 0,.slice none 0 0,.slice none 0 0,.slice none 0 0,.slice none 0 0,.slice none 0 0,.map none],default⟩:=rfl
@[go_sem] theorem tenv83 : tenv 83 = ⟨.sc,1,8,[.nilFunc],default⟩:=rfl
@[go_sem] theorem tenv86 : tenv 86 = ⟨.sc,1,8,[.nilFunc],default⟩:=rfl
@[go_sem] theorem tenv91 : tenv 91 = ⟨.sc,1,8,[.nilFunc],default⟩:=rfl
@[go_sem] theorem tenv93 : tenv 93 = ⟨.sc,1,8,[.nilFunc],default⟩:=rfl
@[go_sem] theorem tenv94 : tenv 94 = ⟨.sc,1,8,[.nilFunc],default⟩:=rfl
@[go_sem] theorem tenv100 : tenv 100 = ⟨.sc,1,8,[.nilFunc],default⟩:=rfl
@[go_sem] theorem tenv102 : tenv 102 = ⟨.sc,1,8,[.pointer none],default⟩:=rfl
@[go_sem] theorem tenv109 : tenv 109 = ⟨.sc,1,8,[.nilFunc],default⟩:=rfl
@[go_sem] theorem tenv119 : tenv 119 = ⟨.sc,1,8,[.pointer none],default⟩:=rfl
@[go_sem] theorem tenv127 : tenv 127 = ⟨.st [(0,12),(12,1),(13,1)],14,304,[.int .i64 0,.slice none 0 0,.slice none 0 0,.slice none 0 0,.slice none 0 0,.int .i64 0,.slice none 0 0,.slice none 0 0,.slice none 0 0,.slice none 0 0,.slice none 0 0,.slice none 0 0,.slice none 0 0,.slice none 0 0],default⟩:=rfl
@[go_sem] theorem tenv128 : tenv 128 = ⟨.st [(0,12),(12,1),(13,1)],14,304,[.int .i64 0,.slice none 0 0,.slice none 0 0,.slice none 0 0,.slice none 0 0,.int .i64 0,.slice none 0 0,.slice none 0 0,.slice none 0 0,.slice none 0 0,.slice none 0 0,.slice none 0 0,.slice none 0 0,.slice none 0 0],default⟩:=rfl
@[go_sem] theorem tenv135 : tenv 135 = ⟨.sli 76 1 8 [.pointer none],1,24,[.slice none 0 0],.v (.pointer none)⟩:=rfl
@[go_sem] theorem tenv144 : tenv 144 = ⟨.sc,1,8,[.nilFunc],default⟩:=rfl
@[go_sem] theorem tenv146 : tenv 146 = ⟨.sc,1,8,[.nilFunc],default⟩:=rfl
@[go_sem] theorem tenv148 : tenv 148 = ⟨.sli 153 2 32 [.int .i64 0,.slice none 0 0],1,24,[.slice none 0 0],.v (.int .i64 0)⟩:=rfl
@[go_sem] theorem tenv152 : tenv 152 = ⟨.st [(0,1),(1,1)],2,32,[.int .i64 0,.slice none 0 0],default⟩:=rfl
@[go_sem] theorem tenv153 : tenv 153 = ⟨.st [(0,1),(1,1)],2,32,[.int .i64 0,.slice none 0 0],default⟩:=rfl
@[go_sem] theorem tenv155 : tenv 155 = ⟨.st [(0,12),(12,12),(24,1),(25,1),(26,1)],27,568,[.int .i64 0,.slice none 0 0,.slice none 0 0,.slice none 0 0,.slice none 0 0,.int .i64 0,.slice none 0 0,.slice none 0 0,.slice none 0 0,.slice none 0 0,.slice none 0 0,.slice none 0 0,.int .i64 0,.slice none 0 0,.slice none 0 0,.slice none 0 0,.slice none 0 0,.int .i64 0,.slice none 0 0,.slice none 0 0,.slice none 0 0,.slice none 0 0,.slice none 0 0,.slice none 0 0,.pointer none,.slice none 0 0,.slice none 0 0],default⟩:=rfl
@[go_sem] theorem tenv156 : tenv 156 = ⟨.st [(0,12),(12,12),(24,1),(25,1),(26,1)],27,568,[.int .i64 0,.slice none 0 0,.slice none 0 0,.slice none 0 0,.slice none 0 0,.int .i64 0,.slice none 0 0,.slice none 0 0,.slice none 0 0,.slice none 0 0,.slice none 0 0,.slice none 0 0,.int .i64 0,.slice none 0 0,.slice none 0 0,.slice none 0 0,.slice none 0 0,.int .i64 0,.slice none 0 0,.slice none 0 0,.slice none 0 0,.slice none 0 0,.slice none 0 0,.slice none 0 0,.pointer none,.slice none 0 0,.slice none 0 0],default⟩:=rfl
@[go_sem] theorem tenv167 : tenv 167 = ⟨.sc,1,8,[.nilFunc],default⟩:=rfl
@[go_sem] theorem tenv171 : tenv 171 = ⟨.sc,1,8,[.pointer none],default⟩:=rfl
@[go_sem] theorem tenv173 : tenv 173 = ⟨.sc,1,8,[.nilFunc],default⟩:=rfl
@[go_sem] theorem tenv175 : tenv 175 = ⟨.sc,1,8,[.nilFunc],default⟩:=rfl
@[go_sem] theorem tenv176 : tenv 176 = ⟨.sli 5 1 1 [.int .u8 0],1,24,[.slice none 0 0],.v (.int .u8 0)⟩:=rfl
@[go_sem] theorem tenv177 : tenv 177 = ⟨.sc,1,8,[.nilFunc],default⟩:=rfl
@[go_sem] theorem tenv178 : tenv 178 = ⟨.st [(0,1),(1,1)],2,16,[.int .i64 0,.int .i64 0],default⟩:=rfl
@[go_sem] theorem tenv179 : tenv 179 = ⟨.st [(0,1),(1,1)],2,16,[.int .i64 0,.int .i64 0],default⟩:=rfl
@[go_sem] theorem tenv190 : tenv 190 = ⟨.sc,1,8,[.pointer none],default⟩:=rfl
@[go_sem] theorem tenv191 : tenv 191 = ⟨.sc,1,8,[.nilFunc],default⟩:=rfl
@[go_sem] theorem tenv196 : tenv 196 = ⟨.sc,1,8,[.pointer none],default⟩:=rfl
@[go_sem] theorem tenv197 : tenv 197 = ⟨.st [(0,12),(12,12),(24,1),(25,1),(26,1)],27,552,[.int .i64 0,.slice none 0 0,.slice none 0 0,.slice none 0 0,.slice none 0 0,.int .i64 0,.slice none 0 0,.slice none 0 0,.slice none 0 0,.slice none 0 0,.slice none 0 0,.slice none 0 0,.int .i64 0,.slice none 0 0,.slice none 0 0,.slice none 0 0,.slice none 0 0,.int .i64 0,.slice none 0 0,.slice none 0 0,.slice none 0 0,.slice none 0 0,.slice none 0 0,.slice none 0 0,.bool false,.int .i64 0,.slice none 0 0],default⟩:=rfl
@[go_sem] theorem tenv198 : tenv 198 = ⟨.st [(0,12),(12,12),(24,1),(25,1),(26,1)],27,552,[.int .i64 0,.slice none 0 0,.slice none 0 0,.slice none 0 0,.slice none 0 0,.int .i64 0,.slice none 0 0,.slice none 0 0,.slice none 0 0,.slice none 0 0,.slice none 0 0,.slice none 0 0,.int .i64 0,.slice none 0 0,.slice none 0 0,.slice none 0 0,.slice none 0 0,.int .i64 0,.slice none 0 0,.slice none 0 0,.slice none 0 0,.slice none 0 0,.slice none 0 0,.slice none 0 0,.bool false,.int .i64 0,.slice none 0 0],default⟩:=rfl
@[go_sem] theorem tenv200 : tenv 200 = ⟨.st [(0,1),(1,1),(2,1),(3,1),(4,1),(5,1)],6,80,[.pointer none,.pointer none,.slice none 0 0,.slice none 0 0,.bool false,.nilFunc],default⟩:=rfl
@[go_sem] theorem tenv201 : tenv 201 = ⟨.st [(0,1),(1,1),(2,1),(3,1),(4,1),(5,1)],6,80,[.pointer none,.pointer none,.slice none 0 0,.slice none 0 0,.bool false,.nilFunc],default⟩:=rfl
@[go_sem] theorem tenv207 : tenv 207 = ⟨.sc,1,8,[.nilFunc],default⟩:=rfl
@[go_sem] theorem tenv211 : tenv 211 = ⟨.sli 4 1 1 [.bool false],1,24,[.slice none 0 0],.v (.bool false)⟩:=rfl
@[go_sem] theorem tenv215 : tenv 215 = ⟨.st [(0,1),(1,1),(2,1),(3,1)],4,40,[.pointer none,.pointer none,.pointer none,.string ⟨#[]⟩],default⟩:=rfl
@[go_sem] theorem tenv216 : tenv 216 = ⟨.st [(0,1),(1,1),(2,1),(3,1)],4,40,[.pointer none,.pointer none,.pointer none,.string ⟨#[]⟩],default⟩:=rfl
@[go_sem] theorem tenv221 : tenv 221 = ⟨.ik .u32,1,4,[.int .u32 0],default⟩:=rfl
@[go_sem] theorem tenv222 : tenv 222 = ⟨.ik .u8,1,1,[.int .u8 0],default⟩:=rfl
@[go_sem] theorem tenv223 : tenv 223 = ⟨.ik .u8,1,1,[.int .u8 0],default⟩:=rfl
@[go_sem] theorem tenv225 : tenv 225 = ⟨.sc,1,8,[.pointer none],default⟩:=rfl
@[go_sem] theorem tenv226 : tenv 226 = ⟨.ik .i32,1,4,[.int .i32 0],default⟩:=rfl
@[go_sem] theorem tenv227 : tenv 227 = ⟨.ik .i32,1,4,[.int .i32 0],default⟩:=rfl
@[go_sem] theorem tenv228 : tenv 228 = ⟨.st [(0,1),(1,1),(2,1),(3,1),(4,1),(5,1),(6,1),(7,1),(8,1),(9,1),(10,1)],11,48,[.int .u64 0,.int .u64 0,.int .u32 0,.int .u8 0,.int .u8 0,.int .u8 0,.int .u8 0,.nilFunc,.pointer none,.int .i32 0,.int .i32 0],default⟩:=rfl
@[go_sem] theorem tenv229 : tenv 229 = ⟨.st [(0,1),(1,1),(2,1),(3,1),(4,1),(5,1),(6,1),(7,1),(8,1),(9,1),(10,1)],11,48,[.int .u64 0,.int .u64 0,.int .u32 0,.int .u8 0,.int .u8 0,.int .u8 0,.int .u8 0,.nilFunc,.pointer none,.int .i32 0,.int .i32 0],default⟩:=rfl
set_option maxRecDepth 100000 in
theorem ty2 : TiOk Tryz.prog 2 (tenv 2):=⟨⟨_,_,Tryz.type2,rfl,rfl,rfl,rfl⟩,Tryz.underlying2⟩
set_option maxRecDepth 100000 in
theorem ty3 : TiOk Tryz.prog 3 (tenv 3):=⟨⟨_,_,Tryz.type3,rfl,rfl,rfl,rfl⟩,Tryz.underlying3⟩
set_option maxRecDepth 100000 in
theorem ty4 : TiOk Tryz.prog 4 (tenv 4):=⟨⟨_,_,Tryz.type4,rfl,rfl,rfl,rfl⟩,Tryz.underlying4⟩
set_option maxRecDepth 100000 in
theorem ty5 : TiOk Tryz.prog 5 (tenv 5):=⟨⟨_,_,Tryz.type5,rfl,rfl,rfl,rfl⟩,Tryz.underlying5⟩
set_option maxRecDepth 100000 in
theorem ty6 : TiOk Tryz.prog 6 (tenv 6):=⟨⟨_,_,Tryz.type6,rfl,rfl,rfl,rfl⟩,Tryz.underlying6⟩
set_option maxRecDepth 100000 in
theorem ty7 : TiOk Tryz.prog 7 (tenv 7):=⟨⟨_,_,Tryz.type7,rfl,rfl,rfl,rfl⟩,_,Tryz.underlying7,rfl,by kernel_rfl,rfl⟩
set_option maxRecDepth 100000 in
theorem ty8 : TiOk Tryz.prog 8 (tenv 8):=⟨⟨_,_,Tryz.type8,rfl,rfl,rfl,rfl⟩,_,Tryz.underlying8,rfl,by kernel_rfl,rfl⟩
set_option maxRecDepth 100000 in
theorem ty9 : TiOk Tryz.prog 9 (tenv 9):=⟨⟨_,_,Tryz.type9,rfl,rfl,rfl,rfl⟩,Tryz.underlying9⟩
set_option maxRecDepth 100000 in
theorem ty10 : TiOk Tryz.prog 10 (tenv 10):=⟨⟨_,_,Tryz.type10,rfl,rfl,rfl,rfl⟩,Tryz.underlying10⟩
set_option maxRecDepth 100000 in
theorem ty11 : TiOk Tryz.prog 11 (tenv 11):=⟨⟨_,_,Tryz.type11,rfl,rfl,rfl,rfl⟩,Tryz.underlying11⟩
set_option maxRecDepth 100000 in
theorem ty12 : TiOk Tryz.prog 12 (tenv 12):=⟨⟨_,_,Tryz.type12,rfl,rfl,rfl,rfl⟩,Tryz.underlying12⟩
set_option maxRecDepth 100000 in
theorem ty13 : TiOk Tryz.prog 13 (tenv 13):=⟨⟨_,_,Tryz.type13,rfl,rfl,rfl,rfl⟩,_,Tryz.underlying13,rfl,by kernel_rfl,rfl⟩
set_option maxRecDepth 100000 in
theorem ty14 : TiOk Tryz.prog 14 (tenv 14):=⟨⟨_,_,Tryz.type14,rfl,rfl,rfl,rfl⟩,_,Tryz.underlying14,rfl,by kernel_rfl,rfl⟩
set_option maxRecDepth 100000 in
theorem ty15 : TiOk Tryz.prog 15 (tenv 15):=⟨⟨_,_,Tryz.type15,rfl,rfl,rfl,rfl⟩,_,Tryz.underlying15,trivial⟩
set_option maxRecDepth 100000 in
theorem ty16 : TiOk Tryz.prog 16 (tenv 16):=⟨⟨_,_,Tryz.type16,rfl,rfl,rfl,rfl⟩,_,Tryz.underlying16,trivial⟩
set_option maxRecDepth 100000 in
theorem ty17 : TiOk Tryz.prog 17 (tenv 17):=⟨⟨_,_,Tryz.type17,rfl,rfl,rfl,rfl⟩,_,Tryz.underlying17,trivial⟩
set_option maxRecDepth 100000 in
theorem ty18 : TiOk Tryz.prog 18 (tenv 18):=⟨⟨_,_,Tryz.type18,rfl,rfl,rfl,rfl⟩,_,Tryz.underlying18,rfl,by kernel_rfl,rfl⟩
set_option maxRecDepth 100000 in
theorem ty19 : TiOk Tryz.prog 19 (tenv 19):=⟨⟨_,_,Tryz.type19,rfl,rfl,rfl,rfl⟩,_,Tryz.underlying19,rfl,by kernel_rfl,rfl⟩
set_option maxRecDepth 100000 in
theorem ty21 : TiOk Tryz.prog 21 (tenv 21):=⟨⟨_,_,Tryz.type21,rfl,rfl,rfl,rfl⟩,Tryz.underlying21⟩
set_option maxRecDepth 100000 in
theorem ty22 : TiOk Tryz.prog 22 (tenv 22):=⟨⟨_,_,Tryz.type22,rfl,rfl,rfl,rfl⟩,Tryz.underlying22,⟨_,_,Tryz.type2,rfl,rfl,rfl,rfl⟩⟩
set_option maxRecDepth 100000 in
theorem ty23 : TiOk Tryz.prog 23 (tenv 23):=⟨⟨_,_,Tryz.type23,rfl,rfl,rfl,rfl⟩,Tryz.underlying23,⟨_,_,Tryz.type22,rfl,rfl,rfl,rfl⟩⟩
set_option maxRecDepth 100000 in
theorem ty24 : TiOk Tryz.prog 24 (tenv 24):=⟨⟨_,_,Tryz.type24,rfl,rfl,rfl,rfl⟩,_,Tryz.underlying24,rfl,by kernel_rfl,rfl⟩
set_option maxRecDepth 100000 in
theorem ty25 : TiOk Tryz.prog 25 (tenv 25):=⟨⟨_,_,Tryz.type25,rfl,rfl,rfl,rfl⟩,_,Tryz.underlying25,rfl,by kernel_rfl,rfl⟩
set_option maxRecDepth 100000 in
theorem ty27 : TiOk Tryz.prog 27 (tenv 27):=⟨⟨_,_,Tryz.type27,rfl,rfl,rfl,rfl⟩,_,Tryz.underlying27,rfl,by kernel_rfl,rfl⟩
set_option maxRecDepth 100000 in
theorem ty28 : TiOk Tryz.prog 28 (tenv 28):=⟨⟨_,_,Tryz.type28,rfl,rfl,rfl,rfl⟩,Tryz.underlying28,⟨_,_,Tryz.type40,rfl,rfl,rfl,rfl⟩⟩
set_option maxRecDepth 100000 in
theorem ty34 : TiOk Tryz.prog 34 (tenv 34):=⟨⟨_,_,Tryz.type34,rfl,rfl,rfl,rfl⟩,_,Tryz.underlying34,trivial⟩
set_option maxRecDepth 100000 in
theorem ty39 : TiOk Tryz.prog 39 (tenv 39):=⟨⟨_,_,Tryz.type39,rfl,rfl,rfl,rfl⟩,_,Tryz.underlying39,rfl,by kernel_rfl,rfl⟩
set_option maxRecDepth 100000 in
theorem ty40 : TiOk Tryz.prog 40 (tenv 40):=⟨⟨_,_,Tryz.type40,rfl,rfl,rfl,rfl⟩,_,Tryz.underlying40,rfl,by kernel_rfl,rfl⟩
set_option maxRecDepth 100000 in
theorem ty47 : TiOk Tryz.prog 47 (tenv 47):=⟨⟨_,_,Tryz.type47,rfl,rfl,rfl,rfl⟩,_,Tryz.underlying47,rfl,by kernel_rfl,rfl⟩
set_option maxRecDepth 100000 in
theorem ty48 : TiOk Tryz.prog 48 (tenv 48):=⟨⟨_,_,Tryz.type48,rfl,rfl,rfl,rfl⟩,_,Tryz.underlying48,rfl,by kernel_rfl,rfl⟩
set_option maxRecDepth 100000 in
theorem ty61 : TiOk Tryz.prog 61 (tenv 61):=⟨⟨_,_,Tryz.type61,rfl,rfl,rfl,rfl⟩,Tryz.underlying61,⟨_,_,Tryz.type128,rfl,rfl,rfl,rfl⟩⟩
set_option maxRecDepth 100000 in
theorem ty69 : TiOk Tryz.prog 69 (tenv 69):=⟨⟨_,_,Tryz.type69,rfl,rfl,rfl,rfl⟩,_,Tryz.underlying69,rfl,by kernel_rfl,rfl⟩
set_option maxRecDepth 100000 in
theorem ty70 : TiOk Tryz.prog 70 (tenv 70):=⟨⟨_,_,Tryz.type70,rfl,rfl,rfl,rfl⟩,_,Tryz.underlying70,rfl,by kernel_rfl,rfl⟩
set_option maxRecDepth 100000 in
theorem ty76 : TiOk Tryz.prog 76 (tenv 76):=⟨⟨_,_,Tryz.type76,rfl,rfl,rfl,rfl⟩,_,Tryz.underlying76,trivial⟩
set_option maxRecDepth 100000 in
theorem ty77 : TiOk Tryz.prog 77 (tenv 77):=⟨⟨_,_,Tryz.type77,rfl,rfl,rfl,rfl⟩,_,Tryz.underlying77,trivial⟩
set_option maxRecDepth 100000 in
theorem ty80 : TiOk Tryz.prog 80 (tenv 80):=⟨⟨_,_,Tryz.type80,rfl,rfl,rfl,rfl⟩,_,Tryz.underlying80,trivial⟩
set_option maxRecDepth 100000 in
theorem ty81 : TiOk Tryz.prog 81 (tenv 81):=⟨⟨_,_,Tryz.type81,rfl,rfl,rfl,rfl⟩,_,Tryz.underlying81,rfl,by kernel_rfl,rfl⟩
set_option maxRecDepth 100000 in
theorem ty82 : TiOk Tryz.prog 82 (tenv 82):=⟨⟨_,_,Tryz.type82,rfl,rfl,rfl,rfl⟩,_,Tryz.underlying82,rfl,by kernel_rfl,rfl⟩
set_option maxRecDepth 100000 in
theorem ty83 : TiOk Tryz.prog 83 (tenv 83):=⟨⟨_,_,Tryz.type83,rfl,rfl,rfl,rfl⟩,_,Tryz.underlying83,trivial⟩
set_option maxRecDepth 100000 in
theorem ty86 : TiOk Tryz.prog 86 (tenv 86):=⟨⟨_,_,Tryz.type86,rfl,rfl,rfl,rfl⟩,_,Tryz.underlying86,trivial⟩
set_option maxRecDepth 100000 in
theorem ty91 : TiOk Tryz.prog 91 (tenv 91):=⟨⟨_,_,Tryz.type91,rfl,rfl,rfl,rfl⟩,_,Tryz.underlying91,trivial⟩
set_option maxRecDepth 100000 in
theorem ty93 : TiOk Tryz.prog 93 (tenv 93):=⟨⟨_,_,Tryz.type93,rfl,rfl,rfl,rfl⟩,_,Tryz.underlying93,trivial⟩
set_option maxRecDepth 100000 in
theorem ty94 : TiOk Tryz.prog 94 (tenv 94):=⟨⟨_,_,Tryz.type94,rfl,rfl,rfl,rfl⟩,_,Tryz.underlying94,trivial⟩
set_option maxRecDepth 100000 in
theorem ty100 : TiOk Tryz.prog 100 (tenv 100):=⟨⟨_,_,Tryz.type100,rfl,rfl,rfl,rfl⟩,_,Tryz.underlying100,trivial⟩
set_option maxRecDepth 100000 in
theorem ty102 : TiOk Tryz.prog 102 (tenv 102):=⟨⟨_,_,Tryz.type102,rfl,rfl,rfl,rfl⟩,_,Tryz.underlying102,trivial⟩
set_option maxRecDepth 100000 in
theorem ty109 : TiOk Tryz.prog 109 (tenv 109):=⟨⟨_,_,Tryz.type109,rfl,rfl,rfl,rfl⟩,_,Tryz.underlying109,trivial⟩
set_option maxRecDepth 100000 in
theorem ty119 : TiOk Tryz.prog 119 (tenv 119):=⟨⟨_,_,Tryz.type119,rfl,rfl,rfl,rfl⟩,_,Tryz.underlying119,trivial⟩
set_option maxRecDepth 100000 in
theorem ty127 : TiOk Tryz.prog 127 (tenv 127):=⟨⟨_,_,Tryz.type127,rfl,rfl,rfl,rfl⟩,_,Tryz.underlying127,rfl,by kernel_rfl,rfl⟩
set_option maxRecDepth 100000 in
theorem ty128 : TiOk Tryz.prog 128 (tenv 128):=⟨⟨_,_,Tryz.type128,rfl,rfl,rfl,rfl⟩,_,Tryz.underlying128,rfl,by kernel_rfl,rfl⟩
set_option maxRecDepth 100000 in
theorem ty135 : TiOk Tryz.prog 135 (tenv 135):=⟨⟨_,_,Tryz.type135,rfl,rfl,rfl,rfl⟩,Tryz.underlying135,⟨_,_,Tryz.type76,rfl,rfl,rfl,rfl⟩⟩
set_option maxRecDepth 100000 in
theorem ty144 : TiOk Tryz.prog 144 (tenv 144):=⟨⟨_,_,Tryz.type144,rfl,rfl,rfl,rfl⟩,_,Tryz.underlying144,trivial⟩
set_option maxRecDepth 100000 in
theorem ty146 : TiOk Tryz.prog 146 (tenv 146):=⟨⟨_,_,Tryz.type146,rfl,rfl,rfl,rfl⟩,_,Tryz.underlying146,trivial⟩
set_option maxRecDepth 100000 in
theorem ty148 : TiOk Tryz.prog 148 (tenv 148):=⟨⟨_,_,Tryz.type148,rfl,rfl,rfl,rfl⟩,Tryz.underlying148,⟨_,_,Tryz.type153,rfl,rfl,rfl,rfl⟩⟩
set_option maxRecDepth 100000 in
theorem ty152 : TiOk Tryz.prog 152 (tenv 152):=⟨⟨_,_,Tryz.type152,rfl,rfl,rfl,rfl⟩,_,Tryz.underlying152,rfl,by kernel_rfl,rfl⟩
set_option maxRecDepth 100000 in
theorem ty153 : TiOk Tryz.prog 153 (tenv 153):=⟨⟨_,_,Tryz.type153,rfl,rfl,rfl,rfl⟩,_,Tryz.underlying153,rfl,by kernel_rfl,rfl⟩
set_option maxRecDepth 100000 in
theorem ty155 : TiOk Tryz.prog 155 (tenv 155):=⟨⟨_,_,Tryz.type155,rfl,rfl,rfl,rfl⟩,_,Tryz.underlying155,rfl,by kernel_rfl,rfl⟩
set_option maxRecDepth 100000 in
theorem ty156 : TiOk Tryz.prog 156 (tenv 156):=⟨⟨_,_,Tryz.type156,rfl,rfl,rfl,rfl⟩,_,Tryz.underlying156,rfl,by kernel_rfl,rfl⟩
set_option maxRecDepth 100000 in
theorem ty167 : TiOk Tryz.prog 167 (tenv 167):=⟨⟨_,_,Tryz.type167,rfl,rfl,rfl,rfl⟩,_,Tryz.underlying167,trivial⟩
set_option maxRecDepth 100000 in
theorem ty171 : TiOk Tryz.prog 171 (tenv 171):=⟨⟨_,_,Tryz.type171,rfl,rfl,rfl,rfl⟩,_,Tryz.underlying171,trivial⟩
set_option maxRecDepth 100000 in
theorem ty173 : TiOk Tryz.prog 173 (tenv 173):=⟨⟨_,_,Tryz.type173,rfl,rfl,rfl,rfl⟩,_,Tryz.underlying173,trivial⟩
set_option maxRecDepth 100000 in
theorem ty175 : TiOk Tryz.prog 175 (tenv 175):=⟨⟨_,_,Tryz.type175,rfl,rfl,rfl,rfl⟩,_,Tryz.underlying175,trivial⟩
set_option maxRecDepth 100000 in
theorem ty176 : TiOk Tryz.prog 176 (tenv 176):=⟨⟨_,_,Tryz.type176,rfl,rfl,rfl,rfl⟩,Tryz.underlying176,⟨_,_,Tryz.type5,rfl,rfl,rfl,rfl⟩⟩
set_option maxRecDepth 100000 in
theorem ty177 : TiOk Tryz.prog 177 (tenv 177):=⟨⟨_,_,Tryz.type177,rfl,rfl,rfl,rfl⟩,_,Tryz.underlying177,trivial⟩
set_option maxRecDepth 100000 in
theorem ty178 : TiOk Tryz.prog 178 (tenv 178):=⟨⟨_,_,Tryz.type178,rfl,rfl,rfl,rfl⟩,_,Tryz.underlying178,rfl,by kernel_rfl,rfl⟩
set_option maxRecDepth 100000 in
theorem ty179 : TiOk Tryz.prog 179 (tenv 179):=⟨⟨_,_,Tryz.type179,rfl,rfl,rfl,rfl⟩,_,Tryz.underlying179,rfl,by kernel_rfl,rfl⟩
set_option maxRecDepth 100000 in
theorem ty190 : TiOk Tryz.prog 190 (tenv 190):=⟨⟨_,_,Tryz.type190,rfl,rfl,rfl,rfl⟩,_,Tryz.underlying190,trivial⟩
set_option maxRecDepth 100000 in
theorem ty191 : TiOk Tryz.prog 191 (tenv 191):=⟨⟨_,_,Tryz.type191,rfl,rfl,rfl,rfl⟩,_,Tryz.underlying191,trivial⟩
set_option maxRecDepth 100000 in
theorem ty196 : TiOk Tryz.prog 196 (tenv 196):=⟨⟨_,_,Tryz.type196,rfl,rfl,rfl,rfl⟩,_,Tryz.underlying196,trivial⟩
set_option maxRecDepth 100000 in
theorem ty197 : TiOk Tryz.prog 197 (tenv 197):=⟨⟨_,_,Tryz.type197,rfl,rfl,rfl,rfl⟩,_,Tryz.underlying197,rfl,by kernel_rfl,rfl⟩
set_option maxRecDepth 100000 in
theorem ty198 : TiOk Tryz.prog 198 (tenv 198):=⟨⟨_,_,Tryz.type198,rfl,rfl,rfl,rfl⟩,_,Tryz.underlying198,rfl,by kernel_rfl,rfl⟩
set_option maxRecDepth 100000 in
theorem ty200 : TiOk Tryz.prog 200 (tenv 200):=⟨⟨_,_,Tryz.type200,rfl,rfl,rfl,rfl⟩,_,Tryz.underlying200,rfl,by kernel_rfl,rfl⟩
set_option maxRecDepth 100000 in
theorem ty201 : TiOk Tryz.prog 201 (tenv 201):=⟨⟨_,_,Tryz.type201,rfl,rfl,rfl,rfl⟩,_,Tryz.underlying201,rfl,by kernel_rfl,rfl⟩
set_option maxRecDepth 100000 in
theorem ty207 : TiOk Tryz.prog 207 (tenv 207):=⟨⟨_,_,Tryz.type207,rfl,rfl,rfl,rfl⟩,_,Tryz.underlying207,trivial⟩
set_option maxRecDepth 100000 in
theorem ty211 : TiOk Tryz.prog 211 (tenv 211):=⟨⟨_,_,Tryz.type211,rfl,rfl,rfl,rfl⟩,Tryz.underlying211,⟨_,_,Tryz.type4,rfl,rfl,rfl,rfl⟩⟩
set_option maxRecDepth 100000 in
theorem ty215 : TiOk Tryz.prog 215 (tenv 215):=⟨⟨_,_,Tryz.type215,rfl,rfl,rfl,rfl⟩,_,Tryz.underlying215,rfl,by kernel_rfl,rfl⟩
set_option maxRecDepth 100000 in
theorem ty216 : TiOk Tryz.prog 216 (tenv 216):=⟨⟨_,_,Tryz.type216,rfl,rfl,rfl,rfl⟩,_,Tryz.underlying216,rfl,by kernel_rfl,rfl⟩
set_option maxRecDepth 100000 in
theorem ty221 : TiOk Tryz.prog 221 (tenv 221):=⟨⟨_,_,Tryz.type221,rfl,rfl,rfl,rfl⟩,Tryz.underlying221⟩
set_option maxRecDepth 100000 in
theorem ty222 : TiOk Tryz.prog 222 (tenv 222):=⟨⟨_,_,Tryz.type222,rfl,rfl,rfl,rfl⟩,Tryz.underlying222⟩
set_option maxRecDepth 100000 in
theorem ty223 : TiOk Tryz.prog 223 (tenv 223):=⟨⟨_,_,Tryz.type223,rfl,rfl,rfl,rfl⟩,Tryz.underlying223⟩
set_option maxRecDepth 100000 in
theorem ty225 : TiOk Tryz.prog 225 (tenv 225):=⟨⟨_,_,Tryz.type225,rfl,rfl,rfl,rfl⟩,_,Tryz.underlying225,trivial⟩
set_option maxRecDepth 100000 in
theorem ty226 : TiOk Tryz.prog 226 (tenv 226):=⟨⟨_,_,Tryz.type226,rfl,rfl,rfl,rfl⟩,Tryz.underlying226⟩
set_option maxRecDepth 100000 in
theorem ty227 : TiOk Tryz.prog 227 (tenv 227):=⟨⟨_,_,Tryz.type227,rfl,rfl,rfl,rfl⟩,Tryz.underlying227⟩
set_option maxRecDepth 100000 in
theorem ty228 : TiOk Tryz.prog 228 (tenv 228):=⟨⟨_,_,Tryz.type228,rfl,rfl,rfl,rfl⟩,_,Tryz.underlying228,rfl,by kernel_rfl,rfl⟩
set_option maxRecDepth 100000 in
theorem ty229 : TiOk Tryz.prog 229 (tenv 229):=⟨⟨_,_,Tryz.type229,rfl,rfl,rfl,rfl⟩,_,Tryz.underlying229,rfl,by kernel_rfl,rfl⟩
theorem tok : ∀ t,TiOk Tryz.prog t (tenv t):=by
  intro t
  by_cases h : t ∈ [2,3,4,5,6,7,8,9,10,11,12,13,14,15,16,17,18,19,21,22,23,24,25,27,28,34,39,40,47,48,61,69,70,76,77,80,81,82,83,86,91,93,94,100,102,109,119,127,128,135,144,146,148,152,153,155,156,167,171,173,175,176,177,178,179,190,191,196,197,198,200,201,207,211,215,216,221,222,223,225,226,227,228,229]
  · simp only [List.mem_cons,List.not_mem_nil,or_false] at h
    rcases h with rfl | rfl | rfl | rfl | rfl | rfl | rfl | rfl | rfl | rfl | rfl | rfl | rfl | rfl | rfl | rfl | rfl | rfl | rfl | rfl | rfl | rfl | rfl | rfl | rfl | rfl | rfl | rfl | rfl | rfl | rfl | rfl | rfl | rfl | rfl | rfl | rfl | rfl | rfl | rfl | rfl | rfl | rfl | rfl | rfl | rfl | rfl | rfl | rfl | rfl | rfl | rfl | rfl | rfl | rfl | rfl | rfl | rfl | rfl | rfl | rfl | rfl | rfl | rfl | rfl | rfl | rfl | rfl | rfl | rfl | rfl | rfl | rfl | rfl | rfl | rfl | rfl | rfl | rfl | rfl | rfl | rfl | rfl | rfl
    · exact ty2
    · exact ty3
    · exact ty4
    · exact ty5
    · exact ty6
    · exact ty7
    · exact ty8
    · exact ty9
    · exact ty10
    · exact ty11
    · exact ty12
    · exact ty13
    · exact ty14
    · exact ty15
    · exact ty16
    · exact ty17
    · exact ty18
    · exact ty19
    · exact ty21
    · exact ty22
    · exact ty23
    · exact ty24
    · exact ty25
    · exact ty27
    · exact ty28
    · exact ty34
    · exact ty39
    · exact ty40
    · exact ty47
    · exact ty48
    · exact ty61
    · exact ty69
    · exact ty70
    · exact ty76
    · exact ty77
    · exact ty80
    · exact ty81
    · exact ty82
    · exact ty83
    · exact ty86
    · exact ty91
    · exact ty93
    · exact ty94
    · exact ty100
    · exact ty102
    · exact ty109
    · exact ty119
    · exact ty127
    · exact ty128
    · exact ty135
    · exact ty144
    · exact ty146
    · exact ty148
    · exact ty152
    · exact ty153
    · exact ty155
    · exact ty156
    · exact ty167
    · exact ty171
    · exact ty173
    · exact ty175
    · exact ty176
    · exact ty177
    · exact ty178
    · exact ty179
    · exact ty190
    · exact ty191
    · exact ty196
    · exact ty197
    · exact ty198
    · exact ty200
    · exact ty201
    · exact ty207
    · exact ty211
    · exact ty215
    · exact ty216
    · exact ty221
    · exact ty222
    · exact ty223
    · exact ty225
    · exact ty226
    · exact ty227
    · exact ty228
    · exact ty229
  · have : tenv t = Ti.no:=by
      unfold tenv
      split
      all_goals first|rfl|(exfalso;apply h;decide)
    rw [this];trivial
noncomputable def TE : Env:={ P:=Tryz.prog,ti:=tenv,ok:=tok }
@[go_sem] theorem TE_ti (t : TypeId) : TE.ti t = tenv t:=rfl
@[go_sem] theorem TE_P : TE.P = Tryz.prog:=rfl
end Go.Eng
