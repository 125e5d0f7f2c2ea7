/- MADE BY PROGRAM (gentypes.py): what is known of the types of the seat. -/
import Derived.Test.YtdphbdoabhidgaaGreatKcx
import Derived.Test.YtdphbdoabhidgaaGreatProg
namespace Go.Eng
open Go Go.Proofs
def tenv : TypeId → Ti
  | 2=>⟨.ik .i64,1,8,[.int .i64 0],default⟩
  | 3=>⟨.ik .i64,1,8,[.int .i64 0],default⟩
  | 4=>⟨.bk,1,1,[.bool false],default⟩
  | 5=>⟨.ik .u8,1,1,[.int .u8 0],default⟩
  | 6=>⟨.ik .u8,1,1,[.int .u8 0],default⟩
  | 7=>⟨.st [(0,1),(1,1),(2,1),(3,1)],4,24,[.int .i64 0,.int .i64 0,.bool false,.int .u8 0],default⟩
  | 8=>⟨.st [(0,1),(1,1),(2,1),(3,1)],4,24,[.int .i64 0,.int .i64 0,.bool false,.int .u8 0],default⟩
  | 9=>⟨.strk,1,16,[.string ⟨#[]⟩],default⟩
  | 10=>⟨.strk,1,16,[.string ⟨#[]⟩],default⟩
  | 11=>⟨.strk,1,16,[.string ⟨#[]⟩],default⟩
  | 12=>⟨.ik .u64,1,8,[.int .u64 0],default⟩
  | 13=>⟨.st [(0,1),(1,1)],2,24,[.string ⟨#[]⟩,.int .u64 0],default⟩
  | 14=>⟨.st [(0,1),(1,1)],2,24,[.string ⟨#[]⟩,.int .u64 0],default⟩
  | 15=>⟨.sc,1,8,[.pointer none],default⟩
  | 16=>⟨.sc,1,8,[.pointer none],default⟩
  | 17=>⟨.sc,1,8,[.pointer none],default⟩
  | 18=>⟨.st [(0,1)],1,8,[.pointer none],default⟩
  | 19=>⟨.st [(0,1)],1,8,[.pointer none],default⟩
  | 21=>⟨.ik .i32,1,4,[.int .i32 0],default⟩
  | 22=>⟨.sli 2 1 8 [.int .i64 0],1,24,[.slice none 0 0],.v (.int .i64 0)⟩
  | 23=>⟨.sli 22 1 24 [.slice none 0 0],1,24,[.slice none 0 0],.sl 1 (.v (.int .i64 0)) []⟩
  | 24=>⟨.st [(0,1),(1,1),(2,1),(3,1),(4,1)],5,104,[.int .i64 0,.slice none 0 0,.slice none 0 0,.slice none 0 0,.slice none 0 0],default⟩
  | 25=>⟨.st [(0,1),(1,1),(2,1),(3,1),(4,1)],5,104,[.int .i64 0,.slice none 0 0,.slice none 0 0,.slice none 0 0,.slice none 0 0],default⟩
  | 29=>⟨.st [(0,1),(1,1),(2,1),(3,1),(4,1)],5,104,[.int .i64 0,.slice none 0 0,.slice none 0 0,.slice none 0 0,.slice none 0 0],default⟩
  | 33=>⟨.st [(0,5),(5,5),(10,1),(11,1)],12,256,[.int .i64 0,.slice none 0 0,.slice none 0 0,.slice none 0 0,.slice none 0 0,.int .i64 0,.slice none 0 0,.slice none 0 0,.slice none 0 0,.slice none 0 0,.slice none 0 0,.slice none 0 0],default⟩
  | 34=>⟨.st [(0,5),(5,5),(10,1),(11,1)],12,256,[.int .i64 0,.slice none 0 0,.slice none 0 0,.slice none 0 0,.slice none 0 0,.int .i64 0,.slice none 0 0,.slice none 0 0,.slice none 0 0,.slice none 0 0,.slice none 0 0,.slice none 0 0],default⟩
  | 49=>⟨.sc,1,8,[.pointer none],default⟩
  | 50=>⟨.sc,1,8,[.pointer none],default⟩
  | 54=>⟨.sli 80 3 24 [.int .i64 0,.int .i64 0,.int .i64 0],1,24,[.slice none 0 0],.v (.int .i64 0)⟩
  | 55=>⟨.st [(0,5),(5,1),(6,1)],7,152,[.int .i64 0,.slice none 0 0,.slice none 0 0,.slice none 0 0,.slice none 0 0,.slice none 0 0,.slice none 0 0],default⟩
  | 56=>⟨.st [(0,5),(5,1),(6,1)],7,152,[.int .i64 0,.slice none 0 0,.slice none 0 0,.slice none 0 0,.slice none 0 0,.slice none 0 0,.slice none 0 0],default⟩
  | 57=>⟨.sc,1,8,[.nilFunc],default⟩
  | 58=>⟨.sc,1,8,[.nilFunc],default⟩
  | 70=>⟨.sc,1,8,[.pointer none],default⟩
  | 75=>⟨.sli 49 1 8 [.pointer none],1,24,[.slice none 0 0],.v (.pointer none)⟩
  | 83=>⟨.sli 34 12 256 [.int .i64 0,.slice none 0 0,.slice none 0 0,.slice none 0 0,.slice none 0 0,.int .i64 0,.slice none 0 0,.slice none 0 0,.slice none 0 0,.slice none 0 0,.slice none 0 0,.slice none 0 0],1,24,[.slice none 0 0],.v (.int .i64 0)⟩
  | 88=>⟨.sc,1,8,[.nilFunc],default⟩
  | 95=>⟨.sli 2 1 8 [.int .i64 0],1,24,[.slice none 0 0],.v (.int .i64 0)⟩
  | 102=>⟨.sc,1,8,[.pointer none],default⟩
  | 103=>⟨.st [(0,5),(5,5),(10,1),(11,1),(12,1),(13,1)],14,288,[.int .i64 0,.slice none 0 0,.slice none 0 0,.slice none 0 0,.slice none 0 0,.int .i64 0,.slice none 0 0,.slice none 0 0,.slice none 0 0,.slice none 0 0,.slice none 0 0,.slice none 0 0,.int .i64 0,.slice none 0 0],default⟩
  | 104=>⟨.st [(0,5),(5,5),(10,1),(11,1),(12,1),(13,1)],14,288,[.int .i64 0,.slice none 0 0,.slice none 0 0,.slice none 0 0,.slice none 0 0,.int .i64 0,.slice none 0 0,.slice none 0 0,.slice none 0 0,.slice none 0 0,.slice none 0 0,.slice none 0 0,.int .i64 0,.slice none 0 0],default⟩
  | 114=>⟨.sli 4 1 1 [.bool false],1,24,[.slice none 0 0],.v (.bool false)⟩
  | 117=>⟨.sli 2 1 8 [.int .i64 0],1,24,[.slice none 0 0],.v (.int .i64 0)⟩
  | 121=>⟨.sc,1,8,[.nilFunc],default⟩
  | 123=>⟨.st [(0,1),(1,1)],2,16,[.int .i64 0,.int .i64 0],default⟩
  | 124=>⟨.st [(0,1),(1,1)],2,16,[.int .i64 0,.int .i64 0],default⟩
  | 134=>⟨.sc,1,8,[.pointer none],default⟩
  | 137=>⟨.sc,1,8,[.map none],default⟩
  | 139=>⟨.st [(0,1),(1,1),(2,1),(3,1),(4,1),(5,1)],6,80,[.pointer none,.pointer none,.slice none 0 0,.slice none 0 0,.bool false,.nilFunc],default⟩
  | 140=>⟨.st [(0,1),(1,1),(2,1),(3,1),(4,1),(5,1)],6,80,[.pointer none,.pointer none,.slice none 0 0,.slice none 0 0,.bool false,.nilFunc],default⟩
  | 143=>⟨.st [(0,1),(1,1),(2,1),(3,1)],4,40,[.pointer none,.pointer none,.pointer none,.string ⟨#[]⟩],default⟩
  | 144=>⟨.st [(0,1),(1,1),(2,1),(3,1)],4,40,[.pointer none,.pointer none,.pointer none,.string ⟨#[]⟩],default⟩
  | 149=>⟨.ik .u32,1,4,[.int .u32 0],default⟩
  | 150=>⟨.ik .u8,1,1,[.int .u8 0],default⟩
  | 151=>⟨.ik .u8,1,1,[.int .u8 0],default⟩
  | 153=>⟨.sc,1,8,[.pointer none],default⟩
  | 154=>⟨.ik .i32,1,4,[.int .i32 0],default⟩
  | 155=>⟨.ik .i32,1,4,[.int .i32 0],default⟩
  | 156=>⟨.st [(0,1),(1,1),(2,1),(3,1),(4,1),(5,1),(6,1),(7,1),(8,1),(9,1),(10,1)],11,48,[.int .u64 0,.int .u64 0,.int .u32 0,.int .u8 0,.int .u8 0,.int .u8 0,.int .u8 0,.nilFunc,.pointer none,.int .i32 0,.int .i32 0],default⟩
  | 157=>⟨.st [(0,1),(1,1),(2,1),(3,1),(4,1),(5,1),(6,1),(7,1),(8,1),(9,1),(10,1)],11,48,[.int .u64 0,.int .u64 0,.int .u32 0,.int .u8 0,.int .u8 0,.int .u8 0,.int .u8 0,.nilFunc,.pointer none,.int .i32 0,.int .i32 0],default⟩
  | _=>Ti.no
@[go_sem] theorem tenv2 : tenv 2 = ⟨.ik .i64,1,8,[.int .i64 0],default⟩:=rfl
@[go_sem] theorem tenv3 : tenv 3 = ⟨.ik .i64,1,8,[.int .i64 0],default⟩:=rfl
@[go_sem] theorem tenv4 : tenv 4 = ⟨.bk,1,1,[.bool false],default⟩:=rfl
@[go_sem] theorem tenv5 : tenv 5 = ⟨.ik .u8,1,1,[.int .u8 0],default⟩:=rfl
@[go_sem] theorem tenv6 : tenv 6 = ⟨.ik .u8,1,1,[.int .u8 0],default⟩:=rfl
@[go_sem] theorem tenv7 : tenv 7 = ⟨.st [(0,1),(1,1),(2,1),(3,1)],4,24,[.int .i64 0,.int .i64 0,.bool false,.int .u8 0],default⟩:=rfl
@[go_sem] theorem tenv8 : tenv 8 = ⟨.st [(0,1),(1,1),(2,1),(3,1)],4,24,[.int .i64 0,.int .i64 0,.bool false,.int .u8 0],default⟩:=rfl
@[go_sem] theorem tenv9 : tenv 9 = ⟨.strk,1,16,[.string ⟨#[]⟩],default⟩:=rfl
@[go_sem] theorem tenv10 : tenv 10 = ⟨.strk,1,16,[.string ⟨#[]⟩],default⟩:=rfl
@[go_sem] theorem tenv11 : tenv 11 = ⟨.strk,1,16,[.string ⟨#[]⟩],default⟩:=rfl
@[go_sem] theorem tenv12 : tenv 12 = ⟨.ik .u64,1,8,[.int .u64 0],default⟩:=rfl
@[go_sem] theorem tenv13 : tenv 13 = ⟨.st [(0,1),(1,1)],2,24,[.string ⟨#[]⟩,.int .u64 0],default⟩:=rfl
@[go_sem] theorem tenv14 : tenv 14 = ⟨.st [(0,1),(1,1)],2,24,[.string ⟨#[]⟩,.int .u64 0],default⟩:=rfl
@[go_sem] theorem tenv15 : tenv 15 = ⟨.sc,1,8,[.pointer none],default⟩:=rfl
@[go_sem] theorem tenv16 : tenv 16 = ⟨.sc,1,8,[.pointer none],default⟩:=rfl
@[go_sem] theorem tenv17 : tenv 17 = ⟨.sc,1,8,[.pointer none],default⟩:=rfl
@[go_sem] theorem tenv18 : tenv 18 = ⟨.st [(0,1)],1,8,[.pointer none],default⟩:=rfl
@[go_sem] theorem tenv19 : tenv 19 = ⟨.st [(0,1)],1,8,[.pointer none],default⟩:=rfl
@[go_sem] theorem tenv21 : tenv 21 = ⟨.ik .i32,1,4,[.int .i32 0],default⟩:=rfl
@[go_sem] theorem tenv22 : tenv 22 = ⟨.sli 2 1 8 [.int .i64 0],1,24,[.slice none 0 0],.v (.int .i64 0)⟩:=rfl
@[go_sem] theorem tenv23 : tenv 23 = ⟨.sli 22 1 24 [.slice none 0 0],1,24,[.slice none 0 0],.sl 1 (.v (.int .i64 0)) []⟩:=rfl
@[go_sem] theorem tenv24 : tenv 24 = ⟨.st [(0,1),(1,1),(2,1),(3,1),(4,1)],5,104,[.int .i64 0,.slice none 0 0,.slice none 0 0,.slice none 0 0,.slice none 0 0],default⟩:=rfl
@[go_sem] theorem tenv25 : tenv 25 = ⟨.st [(0,1),(1,1),(2,1),(3,1),(4,1)],5,104,[.int .i64 0,.slice none 0 0,.slice none 0 0,.slice none 0 0,.slice none 0 0],default⟩:=rfl
@[go_sem] theorem tenv29 : tenv 29 = ⟨.st [(0,1),(1,1),(2,1),(3,1),(4,1)],5,104,[.int .i64 0,.slice none 0 0,.slice none 0 0,.slice none 0 0,.slice none 0 0],default⟩:=rfl
@[go_sem] theorem tenv33 : tenv 33 = ⟨.st [(0,5),(5,5),(10,1),(11,1)],12,256,[.int .i64 0,.slice none 0 0,.slice none 0 0,.slice none 0 0,.slice none 0 0,.int .i64 0,.slice none 0 0,.slice none 0 0,.slice none 0 0,.slice none 0 0,.slice none 0 0,.slice none 0 0],default⟩:=rfl
@[go_sem] theorem tenv34 : tenv 34 = ⟨.st [(0,5),(5,5),(10,1),(11,1)],12,256,[.int .i64 0,.slice none 0 0,.slice none 0 0,.slice none 0 0,.slice none 0 0,.int .i64 0,.slice none 0 0,.slice none 0 0,.slice none 0 0,.slice none 0 0,.slice none 0 0,.slice none 0 0],default⟩:=rfl
@[go_sem] theorem tenv49 : tenv 49 = ⟨.sc,1,8,[.pointer none],default⟩:=rfl
@[go_sem] theorem tenv50 : tenv 50 = ⟨.sc,1,8,[.pointer none],default⟩:=rfl
@[go_sem] theorem tenv54 : tenv 54 = ⟨.sli 80 3 24 [.int .i64 0,.int .i64 0,.int .i64 0],1,24,[.slice none 0 0],.v (.int .i64 0)⟩:=rfl
@[go_sem] theorem tenv55 : tenv 55 = ⟨.st [(0,5),(5,1),(6,1)],7,152,[.int .i64 0,.slice none 0 0,.slice none 0 0,.slice none 0 0,.slice none 0 0,.slice none 0 0,.slice none 0 0],default⟩:=rfl
@[go_sem] theorem tenv56 : tenv 56 = ⟨.st [(0,5),(5,1),(6,1)],7,152,[.int .i64 0,.slice none 0 0,.slice none 0 0,.slice none 0 0,.slice none 0 0,.slice none 0 0,.slice none 0 0],default⟩:=rfl
@[go_sem] theorem tenv57 : tenv 57 = ⟨.sc,1,8,[.nilFunc],default⟩:=rfl
@[go_sem] theorem tenv58 : tenv 58 = ⟨.sc,1,8,[.nilFunc],default⟩:=rfl
@[go_sem] theorem tenv70 : tenv 70 = ⟨.sc,1,8,[.pointer none],default⟩:=rfl
@[go_sem] theorem tenv75 : tenv 75 = ⟨.sli 49 1 8 [.pointer none],1,24,[.slice none 0 0],.v (.pointer none)⟩:=rfl
@[go_sem] theorem tenv83 : tenv 83 = ⟨.sli 34 12 256 [.int .i64 0,.slice none 0 0,.slice none 0 0,.slice none 0 0,.slice none 0 0,.int .i64 0,.slice none 0 0,.slice none 0 0,.slice none 0 0,.slice none 0 0,.slice none 0 0,.slice none 0 0],1,24,[.slice none 0 0],.v (.int .i64 0)⟩:=rfl
@[go_sem] theorem tenv88 : tenv 88 = ⟨.sc,1,8,[.nilFunc],default⟩:=rfl
@[go_sem] theorem tenv95 : tenv 95 = ⟨.sli 2 1 8 [.int .i64 0],1,24,[.slice none 0 0],.v (.int .i64 0)⟩:=rfl
@[go_sem] theorem tenv102 : tenv 102 = ⟨.sc,1,8,[.pointer none],default⟩:=rfl
@[go_sem] theorem tenv103 : tenv 103 = ⟨.st [(0,5),(5,5),(10,1),(11,1),(12,1),(13,1)],14,288,[.int .i64 0,.slice none 0 0,.slice none 0 0,.slice none 0 0,.slice none 0 0,.int .i64 0,.slice none 0 0,.slice none 0 0,.slice none 0 0,.slice none 0 0,.slice none 0 0,.slice none 0 0,.int .i64 0,.slice none 0 0],default⟩:=rfl
@[go_sem] theorem tenv104 : tenv 104 = ⟨.st [(0,5),(5,5),(10,1),(11,1),(12,1),(13,1)],14,288,[.int .i64 0,.slice none 0 0,.slice none 0 0,.slice none 0 0,.slice none 0 0,.int .i64 0,.slice none 0 0,.slice none 0 0,.slice none 0 0,.slice none 0 0,.slice none 0 0,.slice none 0 0,.int .i64 0,.slice none 0 0],default⟩:=rfl
@[go_sem] theorem tenv114 : tenv 114 = ⟨.sli 4 1 1 [.bool false],1,24,[.slice none 0 0],.v (.bool false)⟩:=rfl
@[go_sem] theorem tenv117 : tenv 117 = ⟨.sli 2 1 8 [.int .i64 0],1,24,[.slice none 0 0],.v (.int .i64 0)⟩:=rfl
@[go_sem] theorem tenv121 : tenv 121 = ⟨.sc,1,8,[.nilFunc],default⟩:=rfl
@[go_sem] theorem tenv123 : tenv 123 = ⟨.st [(0,1),(1,1)],2,16,[.int .i64 0,.int .i64 0],default⟩:=rfl
@[go_sem] theorem tenv124 : tenv 124 = ⟨.st [(0,1),(1,1)],2,16,[.int .i64 0,.int .i64 0],default⟩:=rfl
@[go_sem] theorem tenv134 : tenv 134 = ⟨.sc,1,8,[.pointer none],default⟩:=rfl
@[go_sem] theorem tenv137 : tenv 137 = ⟨.sc,1,8,[.map none],default⟩:=rfl
@[go_sem] theorem tenv139 : tenv 139 = ⟨.st [(0,1),(1,1),(2,1),(3,1),(4,1),(5,1)],6,80,[.pointer none,.pointer none,.slice none 0 0,.slice none 0 0,.bool false,.nilFunc],default⟩:=rfl
@[go_sem] theorem tenv140 : tenv 140 = ⟨.st [(0,1),(1,1),(2,1),(3,1),(4,1),(5,1)],6,80,[.pointer none,.pointer none,.slice none 0 0,.slice none 0 0,.bool false,.nilFunc],default⟩:=rfl
@[go_sem] theorem tenv143 : tenv 143 = ⟨.st [(0,1),(1,1),(2,1),(3,1)],4,40,[.pointer none,.pointer none,.pointer none,.string ⟨#[]⟩],default⟩:=rfl
@[go_sem] theorem tenv144 : tenv 144 = ⟨.st [(0,1),(1,1),(2,1),(3,1)],4,40,[.pointer none,.pointer none,.pointer none,.string ⟨#[]⟩],default⟩:=rfl
@[go_sem] theorem tenv149 : tenv 149 = ⟨.ik .u32,1,4,[.int .u32 0],default⟩:=rfl
@[go_sem] theorem tenv150 : tenv 150 = ⟨.ik .u8,1,1,[.int .u8 0],default⟩:=rfl
@[go_sem] theorem tenv151 : tenv 151 = ⟨.ik .u8,1,1,[.int .u8 0],default⟩:=rfl
@[go_sem] theorem tenv153 : tenv 153 = ⟨.sc,1,8,[.pointer none],default⟩:=rfl
@[go_sem] theorem tenv154 : tenv 154 = ⟨.ik .i32,1,4,[.int .i32 0],default⟩:=rfl
@[go_sem] theorem tenv155 : tenv 155 = ⟨.ik .i32,1,4,[.int .i32 0],default⟩:=rfl
@[go_sem] theorem tenv156 : tenv 156 = ⟨.st [(0,1),(1,1),(2,1),(3,1),(4,1),(5,1),(6,1),(7,1),(8,1),(9,1),(10,1)],11,48,[.int .u64 0,.int .u64 0,.int .u32 0,.int .u8 0,.int .u8 0,.int .u8 0,.int .u8 0,.nilFunc,.pointer none,.int .i32 0,.int .i32 0],default⟩:=rfl
@[go_sem] theorem tenv157 : tenv 157 = ⟨.st [(0,1),(1,1),(2,1),(3,1),(4,1),(5,1),(6,1),(7,1),(8,1),(9,1),(10,1)],11,48,[.int .u64 0,.int .u64 0,.int .u32 0,.int .u8 0,.int .u8 0,.int .u8 0,.int .u8 0,.nilFunc,.pointer none,.int .i32 0,.int .i32 0],default⟩:=rfl
set_option maxRecDepth 100000 in
theorem ty2 : TiOk Tryz.prog 2 (tenv 2):=⟨⟨_,_,Tryz.type2,rfl,rfl,rfl,rfl⟩,Tryz.underlying2⟩
set_option maxRecDepth 100000 in
theorem ty3 : TiOk Tryz.prog 3 (tenv 3):=⟨⟨_,_,Tryz.type3,rfl,rfl,rfl,rfl⟩,Tryz.underlying3⟩
set_option maxRecDepth 100000 in
theorem ty4 : TiOk Tryz.prog 4 (tenv 4):=⟨⟨_,_,Tryz.type4,rfl,rfl,rfl,rfl⟩,Tryz.underlying4⟩
set_option maxRecDepth 100000 in
theorem ty5 : TiOk Tryz.prog 5 (tenv 5):=⟨⟨_,_,Tryz.type5,rfl,rfl,rfl,rfl⟩,Tryz.underlying5⟩
set_option maxRecDepth 100000 in
theorem ty6 : TiOk Tryz.prog 6 (tenv 6):=⟨⟨_,_,Tryz.type6,rfl,rfl,rfl,rfl⟩,Tryz.underlying6⟩
set_option maxRecDepth 100000 in
theorem ty7 : TiOk Tryz.prog 7 (tenv 7):=⟨⟨_,_,Tryz.type7,rfl,rfl,rfl,rfl⟩,_,Tryz.underlying7,rfl,by kernel_rfl,rfl⟩
set_option maxRecDepth 100000 in
theorem ty8 : TiOk Tryz.prog 8 (tenv 8):=⟨⟨_,_,Tryz.type8,rfl,rfl,rfl,rfl⟩,_,Tryz.underlying8,rfl,by kernel_rfl,rfl⟩
set_option maxRecDepth 100000 in
theorem ty9 : TiOk Tryz.prog 9 (tenv 9):=⟨⟨_,_,Tryz.type9,rfl,rfl,rfl,rfl⟩,Tryz.underlying9⟩
set_option maxRecDepth 100000 in
theorem ty10 : TiOk Tryz.prog 10 (tenv 10):=⟨⟨_,_,Tryz.type10,rfl,rfl,rfl,rfl⟩,Tryz.underlying10⟩
set_option maxRecDepth 100000 in
theorem ty11 : TiOk Tryz.prog 11 (tenv 11):=⟨⟨_,_,Tryz.type11,rfl,rfl,rfl,rfl⟩,Tryz.underlying11⟩
set_option maxRecDepth 100000 in
theorem ty12 : TiOk Tryz.prog 12 (tenv 12):=⟨⟨_,_,Tryz.type12,rfl,rfl,rfl,rfl⟩,Tryz.underlying12⟩
set_option maxRecDepth 100000 in
theorem ty13 : TiOk Tryz.prog 13 (tenv 13):=⟨⟨_,_,Tryz.type13,rfl,rfl,rfl,rfl⟩,_,Tryz.underlying13,rfl,by kernel_rfl,rfl⟩
set_option maxRecDepth 100000 in
theorem ty14 : TiOk Tryz.prog 14 (tenv 14):=⟨⟨_,_,Tryz.type14,rfl,rfl,rfl,rfl⟩,_,Tryz.underlying14,rfl,by kernel_rfl,rfl⟩
set_option maxRecDepth 100000 in
theorem ty15 : TiOk Tryz.prog 15 (tenv 15):=⟨⟨_,_,Tryz.type15,rfl,rfl,rfl,rfl⟩,_,Tryz.underlying15,trivial⟩
set_option maxRecDepth 100000 in
theorem ty16 : TiOk Tryz.prog 16 (tenv 16):=⟨⟨_,_,Tryz.type16,rfl,rfl,rfl,rfl⟩,_,Tryz.underlying16,trivial⟩
set_option maxRecDepth 100000 in
theorem ty17 : TiOk Tryz.prog 17 (tenv 17):=⟨⟨_,_,Tryz.type17,rfl,rfl,rfl,rfl⟩,_,Tryz.underlying17,trivial⟩
set_option maxRecDepth 100000 in
theorem ty18 : TiOk Tryz.prog 18 (tenv 18):=⟨⟨_,_,Tryz.type18,rfl,rfl,rfl,rfl⟩,_,Tryz.underlying18,rfl,by kernel_rfl,rfl⟩
set_option maxRecDepth 100000 in
theorem ty19 : TiOk Tryz.prog 19 (tenv 19):=⟨⟨_,_,Tryz.type19,rfl,rfl,rfl,rfl⟩,_,Tryz.underlying19,rfl,by kernel_rfl,rfl⟩
set_option maxRecDepth 100000 in
theorem ty21 : TiOk Tryz.prog 21 (tenv 21):=⟨⟨_,_,Tryz.type21,rfl,rfl,rfl,rfl⟩,Tryz.underlying21⟩
set_option maxRecDepth 100000 in
theorem ty22 : TiOk Tryz.prog 22 (tenv 22):=⟨⟨_,_,Tryz.type22,rfl,rfl,rfl,rfl⟩,Tryz.underlying22,⟨_,_,Tryz.type2,rfl,rfl,rfl,rfl⟩⟩
set_option maxRecDepth 100000 in
theorem ty23 : TiOk Tryz.prog 23 (tenv 23):=⟨⟨_,_,Tryz.type23,rfl,rfl,rfl,rfl⟩,Tryz.underlying23,⟨_,_,Tryz.type22,rfl,rfl,rfl,rfl⟩⟩
set_option maxRecDepth 100000 in
theorem ty24 : TiOk Tryz.prog 24 (tenv 24):=⟨⟨_,_,Tryz.type24,rfl,rfl,rfl,rfl⟩,_,Tryz.underlying24,rfl,by kernel_rfl,rfl⟩
set_option maxRecDepth 100000 in
theorem ty25 : TiOk Tryz.prog 25 (tenv 25):=⟨⟨_,_,Tryz.type25,rfl,rfl,rfl,rfl⟩,_,Tryz.underlying25,rfl,by kernel_rfl,rfl⟩
set_option maxRecDepth 100000 in
theorem ty29 : TiOk Tryz.prog 29 (tenv 29):=⟨⟨_,_,Tryz.type29,rfl,rfl,rfl,rfl⟩,_,Tryz.underlying29,rfl,by kernel_rfl,rfl⟩
set_option maxRecDepth 100000 in
theorem ty33 : TiOk Tryz.prog 33 (tenv 33):=⟨⟨_,_,Tryz.type33,rfl,rfl,rfl,rfl⟩,_,Tryz.underlying33,rfl,by kernel_rfl,rfl⟩
set_option maxRecDepth 100000 in
theorem ty34 : TiOk Tryz.prog 34 (tenv 34):=⟨⟨_,_,Tryz.type34,rfl,rfl,rfl,rfl⟩,_,Tryz.underlying34,rfl,by kernel_rfl,rfl⟩
set_option maxRecDepth 100000 in
theorem ty49 : TiOk Tryz.prog 49 (tenv 49):=⟨⟨_,_,Tryz.type49,rfl,rfl,rfl,rfl⟩,_,Tryz.underlying49,trivial⟩
set_option maxRecDepth 100000 in
theorem ty50 : TiOk Tryz.prog 50 (tenv 50):=⟨⟨_,_,Tryz.type50,rfl,rfl,rfl,rfl⟩,_,Tryz.underlying50,trivial⟩
set_option maxRecDepth 100000 in
theorem ty54 : TiOk Tryz.prog 54 (tenv 54):=⟨⟨_,_,Tryz.type54,rfl,rfl,rfl,rfl⟩,Tryz.underlying54,⟨_,_,Tryz.type80,rfl,rfl,rfl,rfl⟩⟩
set_option maxRecDepth 100000 in
theorem ty55 : TiOk Tryz.prog 55 (tenv 55):=⟨⟨_,_,Tryz.type55,rfl,rfl,rfl,rfl⟩,_,Tryz.underlying55,rfl,by kernel_rfl,rfl⟩
set_option maxRecDepth 100000 in
theorem ty56 : TiOk Tryz.prog 56 (tenv 56):=⟨⟨_,_,Tryz.type56,rfl,rfl,rfl,rfl⟩,_,Tryz.underlying56,rfl,by kernel_rfl,rfl⟩
set_option maxRecDepth 100000 in
theorem ty57 : TiOk Tryz.prog 57 (tenv 57):=⟨⟨_,_,Tryz.type57,rfl,rfl,rfl,rfl⟩,_,Tryz.underlying57,trivial⟩
set_option maxRecDepth 100000 in
theorem ty58 : TiOk Tryz.prog 58 (tenv 58):=⟨⟨_,_,Tryz.type58,rfl,rfl,rfl,rfl⟩,_,Tryz.underlying58,trivial⟩
set_option maxRecDepth 100000 in
theorem ty70 : TiOk Tryz.prog 70 (tenv 70):=⟨⟨_,_,Tryz.type70,rfl,rfl,rfl,rfl⟩,_,Tryz.underlying70,trivial⟩
set_option maxRecDepth 100000 in
theorem ty75 : TiOk Tryz.prog 75 (tenv 75):=⟨⟨_,_,Tryz.type75,rfl,rfl,rfl,rfl⟩,Tryz.underlying75,⟨_,_,Tryz.type49,rfl,rfl,rfl,rfl⟩⟩
set_option maxRecDepth 100000 in
theorem ty83 : TiOk Tryz.prog 83 (tenv 83):=⟨⟨_,_,Tryz.type83,rfl,rfl,rfl,rfl⟩,Tryz.underlying83,⟨_,_,Tryz.type34,rfl,rfl,rfl,rfl⟩⟩
set_option maxRecDepth 100000 in
theorem ty88 : TiOk Tryz.prog 88 (tenv 88):=⟨⟨_,_,Tryz.type88,rfl,rfl,rfl,rfl⟩,_,Tryz.underlying88,trivial⟩
set_option maxRecDepth 100000 in
theorem ty95 : TiOk Tryz.prog 95 (tenv 95):=⟨⟨_,_,Tryz.type95,rfl,rfl,rfl,rfl⟩,Tryz.underlying95,⟨_,_,Tryz.type2,rfl,rfl,rfl,rfl⟩⟩
set_option maxRecDepth 100000 in
theorem ty102 : TiOk Tryz.prog 102 (tenv 102):=⟨⟨_,_,Tryz.type102,rfl,rfl,rfl,rfl⟩,_,Tryz.underlying102,trivial⟩
set_option maxRecDepth 100000 in
theorem ty103 : TiOk Tryz.prog 103 (tenv 103):=⟨⟨_,_,Tryz.type103,rfl,rfl,rfl,rfl⟩,_,Tryz.underlying103,rfl,by kernel_rfl,rfl⟩
set_option maxRecDepth 100000 in
theorem ty104 : TiOk Tryz.prog 104 (tenv 104):=⟨⟨_,_,Tryz.type104,rfl,rfl,rfl,rfl⟩,_,Tryz.underlying104,rfl,by kernel_rfl,rfl⟩
set_option maxRecDepth 100000 in
theorem ty114 : TiOk Tryz.prog 114 (tenv 114):=⟨⟨_,_,Tryz.type114,rfl,rfl,rfl,rfl⟩,Tryz.underlying114,⟨_,_,Tryz.type4,rfl,rfl,rfl,rfl⟩⟩
set_option maxRecDepth 100000 in
theorem ty117 : TiOk Tryz.prog 117 (tenv 117):=⟨⟨_,_,Tryz.type117,rfl,rfl,rfl,rfl⟩,Tryz.underlying117,⟨_,_,Tryz.type2,rfl,rfl,rfl,rfl⟩⟩
set_option maxRecDepth 100000 in
theorem ty121 : TiOk Tryz.prog 121 (tenv 121):=⟨⟨_,_,Tryz.type121,rfl,rfl,rfl,rfl⟩,_,Tryz.underlying121,trivial⟩
set_option maxRecDepth 100000 in
theorem ty123 : TiOk Tryz.prog 123 (tenv 123):=⟨⟨_,_,Tryz.type123,rfl,rfl,rfl,rfl⟩,_,Tryz.underlying123,rfl,by kernel_rfl,rfl⟩
set_option maxRecDepth 100000 in
theorem ty124 : TiOk Tryz.prog 124 (tenv 124):=⟨⟨_,_,Tryz.type124,rfl,rfl,rfl,rfl⟩,_,Tryz.underlying124,rfl,by kernel_rfl,rfl⟩
set_option maxRecDepth 100000 in
theorem ty134 : TiOk Tryz.prog 134 (tenv 134):=⟨⟨_,_,Tryz.type134,rfl,rfl,rfl,rfl⟩,_,Tryz.underlying134,trivial⟩
set_option maxRecDepth 100000 in
theorem ty137 : TiOk Tryz.prog 137 (tenv 137):=⟨⟨_,_,Tryz.type137,rfl,rfl,rfl,rfl⟩,_,Tryz.underlying137,trivial⟩
set_option maxRecDepth 100000 in
theorem ty139 : TiOk Tryz.prog 139 (tenv 139):=⟨⟨_,_,Tryz.type139,rfl,rfl,rfl,rfl⟩,_,Tryz.underlying139,rfl,by kernel_rfl,rfl⟩
set_option maxRecDepth 100000 in
theorem ty140 : TiOk Tryz.prog 140 (tenv 140):=⟨⟨_,_,Tryz.type140,rfl,rfl,rfl,rfl⟩,_,Tryz.underlying140,rfl,by kernel_rfl,rfl⟩
set_option maxRecDepth 100000 in
theorem ty143 : TiOk Tryz.prog 143 (tenv 143):=⟨⟨_,_,Tryz.type143,rfl,rfl,rfl,rfl⟩,_,Tryz.underlying143,rfl,by kernel_rfl,rfl⟩
set_option maxRecDepth 100000 in
theorem ty144 : TiOk Tryz.prog 144 (tenv 144):=⟨⟨_,_,Tryz.type144,rfl,rfl,rfl,rfl⟩,_,Tryz.underlying144,rfl,by kernel_rfl,rfl⟩
set_option maxRecDepth 100000 in
theorem ty149 : TiOk Tryz.prog 149 (tenv 149):=⟨⟨_,_,Tryz.type149,rfl,rfl,rfl,rfl⟩,Tryz.underlying149⟩
set_option maxRecDepth 100000 in
theorem ty150 : TiOk Tryz.prog 150 (tenv 150):=⟨⟨_,_,Tryz.type150,rfl,rfl,rfl,rfl⟩,Tryz.underlying150⟩
set_option maxRecDepth 100000 in
theorem ty151 : TiOk Tryz.prog 151 (tenv 151):=⟨⟨_,_,Tryz.type151,rfl,rfl,rfl,rfl⟩,Tryz.underlying151⟩
set_option maxRecDepth 100000 in
theorem ty153 : TiOk Tryz.prog 153 (tenv 153):=⟨⟨_,_,Tryz.type153,rfl,rfl,rfl,rfl⟩,_,Tryz.underlying153,trivial⟩
set_option maxRecDepth 100000 in
theorem ty154 : TiOk Tryz.prog 154 (tenv 154):=⟨⟨_,_,Tryz.type154,rfl,rfl,rfl,rfl⟩,Tryz.underlying154⟩
set_option maxRecDepth 100000 in
theorem ty155 : TiOk Tryz.prog 155 (tenv 155):=⟨⟨_,_,Tryz.type155,rfl,rfl,rfl,rfl⟩,Tryz.underlying155⟩
set_option maxRecDepth 100000 in
theorem ty156 : TiOk Tryz.prog 156 (tenv 156):=⟨⟨_,_,Tryz.type156,rfl,rfl,rfl,rfl⟩,_,Tryz.underlying156,rfl,by kernel_rfl,rfl⟩
set_option maxRecDepth 100000 in
theorem ty157 : TiOk Tryz.prog 157 (tenv 157):=⟨⟨_,_,Tryz.type157,rfl,rfl,rfl,rfl⟩,_,Tryz.underlying157,rfl,by kernel_rfl,rfl⟩
theorem tok : ∀ t,TiOk Tryz.prog t (tenv t):=by
  intro t
  by_cases h : t ∈ [2,3,4,5,6,7,8,9,10,11,12,13,14,15,16,17,18,19,21,22,23,24,25,29,33,34,49,50,54,55,56,57,58,70,75,83,88,95,102,103,104,114,117,121,123,124,134,137,139,140,143,144,149,150,151,153,154,155,156,157]
  · simp only [List.mem_cons,List.not_mem_nil,or_false] at h
    rcases h with rfl | rfl | rfl | rfl | rfl | rfl | rfl | rfl | rfl | rfl | rfl | rfl | rfl | rfl | rfl | rfl | rfl | rfl | rfl | rfl | rfl | rfl | rfl | rfl | rfl | rfl | rfl | rfl | rfl | rfl | rfl | rfl | rfl | rfl | rfl | rfl | rfl | rfl | rfl | rfl | rfl | rfl | rfl | rfl | rfl | rfl | rfl | rfl | rfl | rfl | rfl | rfl | rfl | rfl | rfl | rfl | rfl | rfl | rfl | rfl
    · exact ty2
    · exact ty3
    · exact ty4
    · exact ty5
    · exact ty6
    · exact ty7
    · exact ty8
    · exact ty9
    · exact ty10
    · exact ty11
    · exact ty12
    · exact ty13
    · exact ty14
    · exact ty15
    · exact ty16
    · exact ty17
    · exact ty18
    · exact ty19
    · exact ty21
    · exact ty22
    · exact ty23
    · exact ty24
    · exact ty25
    · exact ty29
    · exact ty33
    · exact ty34
    · exact ty49
    · exact ty50
    · exact ty54
    · exact ty55
    · exact ty56
    · exact ty57
    · exact ty58
    · exact ty70
    · exact ty75
    · exact ty83
    · exact ty88
    · exact ty95
    · exact ty102
    · exact ty103
    · exact ty104
    · exact ty114
    · exact ty117
    · exact ty121
    · exact ty123
    · exact ty124
    · exact ty134
    · exact ty137
    · exact ty139
    · exact ty140
    · exact ty143
    · exact ty144
    · exact ty149
    · exact ty150
    · exact ty151
    · exact ty153
    · exact ty154
    · exact ty155
    · exact ty156
    · exact ty157
  · have : tenv t = Ti.no:=by
      unfold tenv
      split
      all_goals first|rfl|(exfalso;apply h;decide)
    rw [this];trivial
noncomputable def TE : Env:={ P:=Tryz.prog,ti:=tenv,ok:=tok }
@[go_sem] theorem TE_ti (t : TypeId) : TE.ti t = tenv t:=rfl
@[go_sem] theorem TE_P : TE.P = Tryz.prog:=rfl
end Go.Eng
