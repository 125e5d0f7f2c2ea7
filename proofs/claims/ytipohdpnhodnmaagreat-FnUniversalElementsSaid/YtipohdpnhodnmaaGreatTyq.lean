/- MADE BY PROGRAM (gentypes.py): what is known of the types of the seat. -/
import Derived.Test.YtipohdpnhodnmaaGreatKcx
import Derived.Test.YtipohdpnhodnmaaGreatProg
namespace Go.Eng
open Go Go.Proofs
def aJ:TypeId→Ti
 |2=>⟨.ik .i64,1,8,[.int .i64 0],default⟩
 |3=>⟨.ik .i64,1,8,[.int .i64 0],default⟩
 |4=>⟨.bk,1,1,[.bool false],default⟩
 |5=>⟨.ik .u8,1,1,[.int .u8 0],default⟩
 |6=>⟨.ik .u8,1,1,[.int .u8 0],default⟩
 |7=>⟨.st [(0,1),(1,1),(2,1),(3,1)],4,24,[.int .i64 0, .int .i64 0, .bool false, .int .u8 0],default⟩
 |8=>⟨.st [(0,1),(1,1),(2,1),(3,1)],4,24,[.int .i64 0, .int .i64 0, .bool false, .int .u8 0],default⟩
 |9=>⟨.strk,1,16,[.string ⟨#[]⟩],default⟩
 |10=>⟨.strk,1,16,[.string ⟨#[]⟩],default⟩
 |11=>⟨.strk,1,16,[.string ⟨#[]⟩],default⟩
 |12=>⟨.ik .u64,1,8,[.int .u64 0],default⟩
 |13=>⟨.st [(0,1),(1,1)],2,24,[.string ⟨#[]⟩, .int .u64 0],default⟩
 |14=>⟨.st [(0,1),(1,1)],2,24,[.string ⟨#[]⟩, .int .u64 0],default⟩
 |15=>⟨.sc,1,8,[.pointer none],default⟩
 |16=>⟨.sc,1,8,[.pointer none],default⟩
 |17=>⟨.sc,1,8,[.pointer none],default⟩
 |18=>⟨.st [(0,1)],1,8,[.pointer none],default⟩
 |19=>⟨.st [(0,1)],1,8,[.pointer none],default⟩
 |21=>⟨.ik .i32,1,4,[.int .i32 0],default⟩
 |22=>⟨.sli 5 1 1 [.int .u8 0],1,24,[.slice none 0 0], .v (.int .u8 0)⟩
 |24=>⟨.sli 2 1 8 [.int .i64 0],1,24,[.slice none 0 0], .v (.int .i64 0)⟩
 |25=>⟨.sli 24 1 24 [.slice none 0 0],1,24,[.slice none 0 0], .sl 1 (.v (.int .i64 0)) []⟩
 |26=>⟨.st [(0,1),(1,1),(2,1),(3,1),(4,1)],5,104,[.int .i64 0, .slice none 0 0, .slice none 0 0, .slice none 0 0, .slice none 0 0],default⟩
 |27=>⟨.st [(0,1),(1,1),(2,1),(3,1),(4,1)],5,104,[.int .i64 0, .slice none 0 0, .slice none 0 0, .slice none 0 0, .slice none 0 0],default⟩
 |28=>⟨.st [(0,5),(5,1),(6,1)],7,152,[.int .i64 0, .slice none 0 0, .slice none 0 0, .slice none 0 0, .slice none 0 0, .slice none 0 0, .slice none 0 0],default⟩
 |29=>⟨.st [(0,5),(5,1),(6,1)],7,152,[.int .i64 0, .slice none 0 0, .slice none 0 0, .slice none 0 0, .slice none 0 0, .slice none 0 0, .slice none 0 0],default⟩
 |34=>⟨.sc,1,8,[.nilFunc],default⟩
 |35=>⟨.sli 25 1 24 [.slice none 0 0],1,24,[.slice none 0 0], .sl 1 (.sl 1 (.v (.int .i64 0)) []) []⟩
 |38=>⟨.st [(0,7),(7,7),(14,1)],15,328,[.int .i64 0, .slice none 0 0, .slice none 0 0, .slice none 0 0, .slice none 0 0, .slice none 0 0, .slice none 0 0, .int .i64 0, .slice none 0 0, .slice none 0 0, .slice none 0 0, .slice none 0 0, .slice none 0 0, .slice none 0 0, .slice none 0 0],default⟩
 |39=>⟨.st [(0,7),(7,7),(14,1)],15,328,[.int .i64 0, .slice none 0 0, .slice none 0 0, .slice none 0 0, .slice none 0 0, .slice none 0 0, .slice none 0 0, .int .i64 0, .slice none 0 0, .slice none 0 0, .slice none 0 0, .slice none 0 0, .slice none 0 0, .slice none 0 0, .slice none 0 0],default⟩
 |51=>⟨.sc,1,8,[.nilFunc],default⟩
 |55=>⟨.st [(0,5),(5,5),(10,1),(11,1)],12,256,[.int .i64 0, .slice none 0 0, .slice none 0 0, .slice none 0 0, .slice none 0 0, .int .i64 0, .slice none 0 0, .slice none 0 0, .slice none 0 0, .slice none 0 0, .slice none 0 0, .slice none 0 0],default⟩
 |56=>⟨.st [(0,5),(5,5),(10,1),(11,1)],12,256,[.int .i64 0, .slice none 0 0, .slice none 0 0, .slice none 0 0, .slice none 0 0, .int .i64 0, .slice none 0 0, .slice none 0 0, .slice none 0 0, .slice none 0 0, .slice none 0 0, .slice none 0 0],default⟩
 |67=>⟨.st [(0,12),(12,12),(24,1),(25,1)],26,560,[.int .i64 0, .slice none 0 0, .slice none 0 0, .slice none 0 0, .slice none 0 0, .int .i64 0, .slice none 0 0, .slice none 0 0, .slice none 0 0, .slice none 0 0, .slice none 0 0, .slice none 0 0, .int .i64 0, .slice none 0 0, .slice none 0 0, .slice none 0 0, .slice none 0 0, .int .i64 0, .slice none 0 0, .slice none 0 0, .slice none 0 0, .slice none 0 0, .slice none 0 0, .slice none 0 0, .slice none 0 0, .slice none 0 0],default⟩
 |68=>⟨.st [(0,12),(12,12),(24,1),(25,1)],26,560,[.int .i64 0, .slice none 0 0, .slice none 0 0, .slice none 0 0, .slice none 0 0, .int .i64 0, .slice none 0 0, .slice none 0 0, .slice none 0 0, .slice none 0 0, .slice none 0 0, .slice none 0 0, .int .i64 0, .slice none 0 0, .slice none 0 0, .slice none 0 0, .slice none 0 0, .int .i64 0, .slice none 0 0, .slice none 0 0, .slice none 0 0, .slice none 0 0, .slice none 0 0, .slice none 0 0, .slice none 0 0, .slice none 0 0],default⟩
 |71=>⟨.sli 27 5 104 [.int .i64 0, .slice none 0 0, .slice none 0 0, .slice none 0 0, .slice none 0 0],1,24,[.slice none 0 0], .v (.int .i64 0)⟩
 |74=>⟨.sli 56 12 256 [.int .i64 0, .slice none 0 0, .slice none 0 0, .slice none 0 0, .slice none 0 0, .int .i64 0, .slice none 0 0, .slice none 0 0, .slice none 0 0, .slice none 0 0, .slice none 0 0, .slice none 0 0],1,24,[.slice none 0 0], .v (.int .i64 0)⟩
 |78=>⟨.sc,1,8,[.pointer none],default⟩
 |87=>⟨.sc,1,8,[.pointer none],default⟩
 |88=>⟨.sc,1,8,[.nilFunc],default⟩
 |95=>⟨.sc,1,8,[.nilFunc],default⟩
 |99=>⟨.sc,1,8,[.pointer none],default⟩
 |107=>⟨.sc,1,8,[.nilFunc],default⟩
 |109=>⟨.sc,1,8,[.pointer none],default⟩
 |112=>⟨.sc,1,8,[.map none],default⟩
 |113=>⟨.st [(0,5),(5,1),(6,1),(7,1),(8,1)],9,168,[.int .i64 0, .slice none 0 0, .slice none 0 0, .slice none 0 0, .slice none 0 0, .slice none 0 0, .slice none 0 0, .map none, .map none],default⟩
 |114=>⟨.st [(0,5),(5,1),(6,1),(7,1),(8,1)],9,168,[.int .i64 0, .slice none 0 0, .slice none 0 0, .slice none 0 0, .slice none 0 0, .slice none 0 0, .slice none 0 0, .map none, .map none],default⟩
 |116=>⟨.sc,1,8,[.pointer none],default⟩
 |118=>⟨.sc,1,8,[.nilFunc],default⟩
 |130=>⟨.sc,1,8,[.nilFunc],default⟩
 |136=>⟨.sc,1,8,[.pointer none],default⟩
 |139=>⟨.sc,1,8,[.pointer none],default⟩
 |144=>⟨.ik .u64,1,8,[.int .u64 0],default⟩
 |145=>⟨.st [(0,1),(1,1),(2,1)],3,40,[.slice none 0 0, .int .i64 0, .int .u64 0],default⟩
 |146=>⟨.st [(0,1),(1,1),(2,1)],3,40,[.slice none 0 0, .int .i64 0, .int .u64 0],default⟩
 |151=>⟨.ik .u64,1,8,[.int .u64 0],default⟩
 |157=>⟨.sc,1,8,[.nilFunc],default⟩
 |159=>⟨.sc,1,8,[.pointer none],default⟩
 |160=>⟨.st [(0,7),(7,7),(14,1),(15,1),(16,1)],17,344,[.int .i64 0, .slice none 0 0, .slice none 0 0, .slice none 0 0, .slice none 0 0, .slice none 0 0, .slice none 0 0, .int .i64 0, .slice none 0 0, .slice none 0 0, .slice none 0 0, .slice none 0 0, .slice none 0 0, .slice none 0 0, .bool false, .int .i64 0, .slice none 0 0],default⟩
 |161=>⟨.st [(0,7),(7,7),(14,1),(15,1),(16,1)],17,344,[.int .i64 0, .slice none 0 0, .slice none 0 0, .slice none 0 0, .slice none 0 0, .slice none 0 0, .slice none 0 0, .int .i64 0, .slice none 0 0, .slice none 0 0, .slice none 0 0, .slice none 0 0, .slice none 0 0, .slice none 0 0, .bool false, .int .i64 0, .slice none 0 0],default⟩
 |166=>⟨.sli 99 1 8 [.pointer none],1,24,[.slice none 0 0], .v (.pointer none)⟩
 |172=>⟨.sc,1,8,[.nilFunc],default⟩
 |178=>⟨.sc,1,8,[.nilFunc],default⟩
 |179=>⟨.sc,1,8,[.pointer none],default⟩
 |183=>⟨.ik .u32,1,4,[.int .u32 0],default⟩
 |186=>⟨.st [(0,1),(1,1)],2,8,[.int .i32 0, .int .u32 0],default⟩
 |187=>⟨.st [(0,1),(1,1)],2,8,[.int .i32 0, .int .u32 0],default⟩
 |192=>⟨.st [(0,1),(1,1),(2,3),(5,1)],6,56,[.pointer none, .int .i64 0, .int .u32 0, .int .i32 0, .int .u32 0, .slice none 0 0],default⟩
 |193=>⟨.st [(0,1),(1,1),(2,3),(5,1)],6,56,[.pointer none, .int .i64 0, .int .u32 0, .int .i32 0, .int .u32 0, .slice none 0 0],default⟩
 |194=>⟨.sc,1,8,[.nilFunc],default⟩
 |196=>⟨.sli 116 1 8 [.pointer none],1,24,[.slice none 0 0], .v (.pointer none)⟩
 |197=>⟨.sc,1,8,[.pointer none],default⟩
 |198=>⟨.st [(0,5),(5,5),(10,1),(11,1),(12,1),(13,1)],14,288,[.int .i64 0, .slice none 0 0, .slice none 0 0, .slice none 0 0, .slice none 0 0, .int .i64 0, .slice none 0 0, .slice none 0 0, .slice none 0 0, .slice none 0 0, .slice none 0 0, .slice none 0 0, .int .i64 0, .slice none 0 0],default⟩
 |199=>⟨.st [(0,5),(5,5),(10,1),(11,1),(12,1),(13,1)],14,288,[.int .i64 0, .slice none 0 0, .slice none 0 0, .slice none 0 0, .slice none 0 0, .int .i64 0, .slice none 0 0, .slice none 0 0, .slice none 0 0, .slice none 0 0, .slice none 0 0, .slice none 0 0, .int .i64 0, .slice none 0 0],default⟩
 |204=>⟨.ar 8 1,8,64,[.int .i64 0, .int .i64 0, .int .i64 0, .int .i64 0, .int .i64 0, .int .i64 0, .int .i64 0, .int .i64 0],default⟩
 |216=>⟨.sc,1,8,[.nilFunc],default⟩
 |219=>⟨.sc,1,8,[.nilFunc],default⟩
 |226=>⟨.sli 234 2 32 [.int .i64 0, .slice none 0 0],1,24,[.slice none 0 0], .v (.int .i64 0)⟩
 |227=>⟨.st [(0,12),(12,12),(24,1),(25,1),(26,1)],27,568,[.int .i64 0, .slice none 0 0, .slice none 0 0, .slice none 0 0, .slice none 0 0, .int .i64 0, .slice none 0 0, .slice none 0 0, .slice none 0 0, .slice none 0 0, .slice none 0 0, .slice none 0 0, .int .i64 0, .slice none 0 0, .slice none 0 0, .slice none 0 0, .slice none 0 0, .int .i64 0, .slice none 0 0, .slice none 0 0, .slice none 0 0, .slice none 0 0, .slice none 0 0, .slice none 0 0, .pointer none, .slice none 0 0, .slice none 0 0],default⟩
 |228=>⟨.st [(0,12),(12,12),(24,1),(25,1),(26,1)],27,568,[.int .i64 0, .slice none 0 0, .slice none 0 0, .slice none 0 0, .slice none 0 0, .int .i64 0, .slice none 0 0, .slice none 0 0, .slice none 0 0, .slice none 0 0, .slice none 0 0, .slice none 0 0, .int .i64 0, .slice none 0 0, .slice none 0 0, .slice none 0 0, .slice none 0 0, .int .i64 0, .slice none 0 0, .slice none 0 0, .slice none 0 0, .slice none 0 0, .slice none 0 0, .slice none 0 0, .pointer none, .slice none 0 0, .slice none 0 0],default⟩
 |233=>⟨.st [(0,1),(1,1)],2,32,[.int .i64 0, .slice none 0 0],default⟩
 |234=>⟨.st [(0,1),(1,1)],2,32,[.int .i64 0, .slice none 0 0],default⟩
 |235=>⟨.sc,1,8,[.pointer none],default⟩
 |237=>⟨.sc,1,8,[.nilFunc],default⟩
 |243=>⟨.sli 87 1 8 [.pointer none],1,24,[.slice none 0 0], .v (.pointer none)⟩
 |244=>⟨.sc,1,8,[.pointer none],default⟩
 |245=>⟨.st [(0,1),(1,1),(2,1),(3,1),(4,1)],5,56,[.pointer none, .pointer none, .bool false, .slice none 0 0, .nilFunc],default⟩
 |246=>⟨.st [(0,1),(1,1),(2,1),(3,1),(4,1)],5,56,[.pointer none, .pointer none, .bool false, .slice none 0 0, .nilFunc],default⟩
 |249=>⟨.sli 4 1 1 [.bool false],1,24,[.slice none 0 0], .v (.bool false)⟩
 |251=>⟨.sc,1,8,[.nilFunc],default⟩
 |252=>⟨.sc,1,8,[.nilFunc],default⟩
 |253=>⟨.sc,1,8,[.nilFunc],default⟩
 |255=>⟨.st [(0,1),(1,1)],2,16,[.int .i64 0, .int .i64 0],default⟩
 |256=>⟨.st [(0,1),(1,1)],2,16,[.int .i64 0, .int .i64 0],default⟩
 |267=>⟨.sc,1,8,[.pointer none],default⟩
 |280=>⟨.st [(0,1),(1,1),(2,1),(3,1),(4,1),(5,1)],6,80,[.pointer none, .pointer none, .slice none 0 0, .slice none 0 0, .bool false, .nilFunc],default⟩
 |281=>⟨.st [(0,1),(1,1),(2,1),(3,1),(4,1),(5,1)],6,80,[.pointer none, .pointer none, .slice none 0 0, .slice none 0 0, .bool false, .nilFunc],default⟩
 |287=>⟨.sli 291 2 16 [.int .i64 0, .int .i64 0],1,24,[.slice none 0 0], .v (.int .i64 0)⟩
 |289=>⟨.sc,1,8,[.pointer none],default⟩
 |290=>⟨.st [(0,1),(1,1)],2,16,[.int .i64 0, .int .i64 0],default⟩
 |291=>⟨.st [(0,1),(1,1)],2,16,[.int .i64 0, .int .i64 0],default⟩
 |292=>⟨.sc,1,8,[.pointer none],default⟩
 |293=>⟨.sc,1,8,[.nilFunc],default⟩
 |299=>⟨.sc,1,8,[.map none],default⟩
 |302=>⟨.sli 139 1 8 [.pointer none],1,24,[.slice none 0 0], .v (.pointer none)⟩
 |306=>⟨.sc,1,8,[.pointer none],default⟩
 |308=>⟨.sc,1,8,[.pointer none],default⟩
 |312=>⟨.sli 315 3 40 [.int .i64 0, .int .i64 0, .slice none 0 0],1,24,[.slice none 0 0], .v (.int .i64 0)⟩
 |314=>⟨.st [(0,1),(1,1),(2,1)],3,40,[.int .i64 0, .int .i64 0, .slice none 0 0],default⟩
 |315=>⟨.st [(0,1),(1,1),(2,1)],3,40,[.int .i64 0, .int .i64 0, .slice none 0 0],default⟩
 |316=>⟨.sc,1,8,[.pointer none],default⟩
 |322=>⟨.sc,1,8,[.pointer none],default⟩
 |324=>⟨.sc,1,8,[.pointer none],default⟩
 |329=>⟨.sc,1,8,[.nilFunc],default⟩
 |333=>⟨.st [(0,1),(1,1),(2,1),(3,1)],4,40,[.pointer none, .pointer none, .pointer none, .string ⟨#[]⟩],default⟩
 |334=>⟨.st [(0,1),(1,1),(2,1),(3,1)],4,40,[.pointer none, .pointer none, .pointer none, .string ⟨#[]⟩],default⟩
 |339=>⟨.ik .u8,1,1,[.int .u8 0],default⟩
 |340=>⟨.ik .u8,1,1,[.int .u8 0],default⟩
 |342=>⟨.sc,1,8,[.pointer none],default⟩
 |343=>⟨.ik .i32,1,4,[.int .i32 0],default⟩
 |344=>⟨.ik .i32,1,4,[.int .i32 0],default⟩
 |345=>⟨.st [(0,1),(1,1),(2,1),(3,1),(4,1),(5,1),(6,1),(7,1),(8,1),(9,1),(10,1)],11,48,[.int .u64 0, .int .u64 0, .int .u32 0, .int .u8 0, .int .u8 0, .int .u8 0, .int .u8 0, .nilFunc, .pointer none, .int .i32 0, .int .i32 0],default⟩
 |346=>⟨.st [(0,1),(1,1),(2,1),(3,1),(4,1),(5,1),(6,1),(7,1),(8,1),(9,1),(10,1)],11,48,[.int .u64 0, .int .u64 0, .int .u32 0, .int .u8 0, .int .u8 0, .int .u8 0, .int .u8 0, .nilFunc, .pointer none, .int .i32 0, .int .i32 0],default⟩
 |_=>Ti.no
@[go_sem] theorem aXP:aJ 2=⟨.ik .i64,1,8,[.int .i64 0],default⟩:=rfl
@[go_sem] theorem aXQ:aJ 3=⟨.ik .i64,1,8,[.int .i64 0],default⟩:=rfl
@[go_sem] theorem aXR:aJ 4=⟨.bk,1,1,[.bool false],default⟩:=rfl
@[go_sem] theorem aXS:aJ 5=⟨.ik .u8,1,1,[.int .u8 0],default⟩:=rfl
@[go_sem] theorem aXT:aJ 6=⟨.ik .u8,1,1,[.int .u8 0],default⟩:=rfl
@[go_sem] theorem aXU:aJ 7=⟨.st [(0,1),(1,1),(2,1),(3,1)],4,24,[.int .i64 0, .int .i64 0, .bool false, .int .u8 0],default⟩:=rfl
@[go_sem] theorem aXV:aJ 8=⟨.st [(0,1),(1,1),(2,1),(3,1)],4,24,[.int .i64 0, .int .i64 0, .bool false, .int .u8 0],default⟩:=rfl
@[go_sem] theorem aXW:aJ 9=⟨.strk,1,16,[.string ⟨#[]⟩],default⟩:=rfl
@[go_sem] theorem aWq:aJ 10=⟨.strk,1,16,[.string ⟨#[]⟩],default⟩:=rfl
@[go_sem] theorem aWr:aJ 11=⟨.strk,1,16,[.string ⟨#[]⟩],default⟩:=rfl
@[go_sem] theorem aWs:aJ 12=⟨.ik .u64,1,8,[.int .u64 0],default⟩:=rfl
@[go_sem] theorem aWt:aJ 13=⟨.st [(0,1),(1,1)],2,24,[.string ⟨#[]⟩, .int .u64 0],default⟩:=rfl
@[go_sem] theorem aWu:aJ 14=⟨.st [(0,1),(1,1)],2,24,[.string ⟨#[]⟩, .int .u64 0],default⟩:=rfl
@[go_sem] theorem aWv:aJ 15=⟨.sc,1,8,[.pointer none],default⟩:=rfl
@[go_sem] theorem aWw:aJ 16=⟨.sc,1,8,[.pointer none],default⟩:=rfl
@[go_sem] theorem aWx:aJ 17=⟨.sc,1,8,[.pointer none],default⟩:=rfl
@[go_sem] theorem aWy:aJ 18=⟨.st [(0,1)],1,8,[.pointer none],default⟩:=rfl
@[go_sem] theorem aWz:aJ 19=⟨.st [(0,1)],1,8,[.pointer none],default⟩:=rfl
@[go_sem] theorem aWA:aJ 21=⟨.ik .i32,1,4,[.int .i32 0],default⟩:=rfl
@[go_sem] theorem aWB:aJ 22=⟨.sli 5 1 1 [.int .u8 0],1,24,[.slice none 0 0], .v (.int .u8 0)⟩:=rfl
@[go_sem] theorem aWC:aJ 24=⟨.sli 2 1 8 [.int .i64 0],1,24,[.slice none 0 0], .v (.int .i64 0)⟩:=rfl
@[go_sem] theorem aWD:aJ 25=⟨.sli 24 1 24 [.slice none 0 0],1,24,[.slice none 0 0], .sl 1 (.v (.int .i64 0)) []⟩:=rfl
@[go_sem] theorem aWE:aJ 26=⟨.st [(0,1),(1,1),(2,1),(3,1),(4,1)],5,104,[.int .i64 0, .slice none 0 0, .slice none 0 0, .slice none 0 0, .slice none 0 0],default⟩:=rfl
@[go_sem] theorem aWF:aJ 27=⟨.st [(0,1),(1,1),(2,1),(3,1),(4,1)],5,104,[.int .i64 0, .slice none 0 0, .slice none 0 0, .slice none 0 0, .slice none 0 0],default⟩:=rfl
@[go_sem] theorem aWG:aJ 28=⟨.st [(0,5),(5,1),(6,1)],7,152,[.int .i64 0, .slice none 0 0, .slice none 0 0, .slice none 0 0, .slice none 0 0, .slice none 0 0, .slice none 0 0],default⟩:=rfl
@[go_sem] theorem aWH:aJ 29=⟨.st [(0,5),(5,1),(6,1)],7,152,[.int .i64 0, .slice none 0 0, .slice none 0 0, .slice none 0 0, .slice none 0 0, .slice none 0 0, .slice none 0 0],default⟩:=rfl
@[go_sem] theorem aWI:aJ 34=⟨.sc,1,8,[.nilFunc],default⟩:=rfl
@[go_sem] theorem aWJ:aJ 35=⟨.sli 25 1 24 [.slice none 0 0],1,24,[.slice none 0 0], .sl 1 (.sl 1 (.v (.int .i64 0)) []) []⟩:=rfl
@[go_sem] theorem aWK:aJ 38=⟨.st [(0,7),(7,7),(14,1)],15,328,[.int .i64 0, .slice none 0 0, .slice none 0 0, .slice none 0 0, .slice none 0 0, .slice none 0 0, .slice none 0 0, .int .i64 0, .slice none 0 0, .slice none 0 0, .slice none 0 0, .slice none 0 0, .slice none 0 0, .slice none 0 0, .slice none 0 0],default⟩:=rfl
@[go_sem] theorem aWL:aJ 39=⟨.st [(0,7),(7,7),(14,1)],15,328,[.int .i64 0, .slice none 0 0, .slice none 0 0, .slice none 0 0, .slice none 0 0, .slice none 0 0, .slice none 0 0, .int .i64 0, .slice none 0 0, .slice none 0 0, .slice none 0 0, .slice none 0 0, .slice none 0 0, .slice none 0 0, .slice none 0 0],default⟩:=rfl
@[go_sem] theorem aWM:aJ 51=⟨.sc,1,8,[.nilFunc],default⟩:=rfl
@[go_sem] theorem aWN:aJ 55=⟨.st [(0,5),(5,5),(10,1),(11,1)],12,256,[.int .i64 0, .slice none 0 0, .slice none 0 0, .slice none 0 0, .slice none 0 0, .int .i64 0, .slice none 0 0, .slice none 0 0, .slice none 0 0, .slice none 0 0, .slice none 0 0, .slice none 0 0],default⟩:=rfl
@[go_sem] theorem aWO:aJ 56=⟨.st [(0,5),(5,5),(10,1),(11,1)],12,256,[.int .i64 0, .slice none 0 0, .slice none 0 0, .slice none 0 0, .slice none 0 0, .int .i64 0, .slice none 0 0, .slice none 0 0, .slice none 0 0, .slice none 0 0, .slice none 0 0, .slice none 0 0],default⟩:=rfl
@[go_sem] theorem aWP:aJ 67=⟨.st [(0,12),(12,12),(24,1),(25,1)],26,560,[.int .i64 0, .slice none 0 0, .slice none 0 0, .slice none 0 0, .slice none 0 0, .int .i64 0, .slice none 0 0, .slice none 0 0, .slice none 0 0, .slice none 0 0, .slice none 0 0, .slice none 0 0, .int .i64 0, .slice none 0 0, .slice none 0 0, .slice none 0 0, .slice none 0 0, .int .i64 0, .slice none 0 0, .slice none 0 0, .slice none 0 0, .slice none 0 0, .slice none 0 0, .slice none 0 0, .slice none 0 0, .slice none 0 0],default⟩:=rfl
@[go_sem] theorem aWQ:aJ 68=⟨.st [(0,12),(12,12),(24,1),(25,1)],26,560,[.int .i64 0, .slice none 0 0, .slice none 0 0, .slice none 0 0, .slice none 0 0, .int .i64 0, .slice none 0 0, .slice none 0 0, .slice none 0 0, .slice none 0 0, .slice none 0 0, .slice none 0 0, .int .i64 0, .slice none 0 0, .slice none 0 0, .slice none 0 0, .slice none 0 0, .int .i64 0, .slice none 0 0, .slice none 0 0, .slice none 0 0, .slice none 0 0, .slice none 0 0, .slice none 0 0, .slice none 0 0, .slice none 0 0],default⟩:=rfl
@[go_sem] theorem aWR:aJ 71=⟨.sli 27 5 104 [.int .i64 0, .slice none 0 0, .slice none 0 0, .slice none 0 0, .slice none 0 0],1,24,[.slice none 0 0], .v (.int .i64 0)⟩:=rfl
@[go_sem] theorem aWS:aJ 74=⟨.sli 56 12 256 [.int .i64 0, .slice none 0 0, .slice none 0 0, .slice none 0 0, .slice none 0 0, .int .i64 0, .slice none 0 0, .slice none 0 0, .slice none 0 0, .slice none 0 0, .slice none 0 0, .slice none 0 0],1,24,[.slice none 0 0], .v (.int .i64 0)⟩:=rfl
@[go_sem] theorem aWT:aJ 78=⟨.sc,1,8,[.pointer none],default⟩:=rfl
@[go_sem] theorem aWU:aJ 87=⟨.sc,1,8,[.pointer none],default⟩:=rfl
@[go_sem] theorem aWV:aJ 88=⟨.sc,1,8,[.nilFunc],default⟩:=rfl
@[go_sem] theorem aWW:aJ 95=⟨.sc,1,8,[.nilFunc],default⟩:=rfl
@[go_sem] theorem aWX:aJ 99=⟨.sc,1,8,[.pointer none],default⟩:=rfl
@[go_sem] theorem aUn:aJ 107=⟨.sc,1,8,[.nilFunc],default⟩:=rfl
@[go_sem] theorem aUo:aJ 109=⟨.sc,1,8,[.pointer none],default⟩:=rfl
@[go_sem] theorem aUp:aJ 112=⟨.sc,1,8,[.map none],default⟩:=rfl
@[go_sem] theorem aUq:aJ 113=⟨.st [(0,5),(5,1),(6,1),(7,1),(8,1)],9,168,[.int .i64 0, .slice none 0 0, .slice none 0 0, .slice none 0 0, .slice none 0 0, .slice none 0 0, .slice none 0 0, .map none, .map none],default⟩:=rfl
@[go_sem] theorem aUr:aJ 114=⟨.st [(0,5),(5,1),(6,1),(7,1),(8,1)],9,168,[.int .i64 0, .slice none 0 0, .slice none 0 0, .slice none 0 0, .slice none 0 0, .slice none 0 0, .slice none 0 0, .map none, .map none],default⟩:=rfl
@[go_sem] theorem aUs:aJ 116=⟨.sc,1,8,[.pointer none],default⟩:=rfl
@[go_sem] theorem aUt:aJ 118=⟨.sc,1,8,[.nilFunc],default⟩:=rfl
@[go_sem] theorem aUu:aJ 130=⟨.sc,1,8,[.nilFunc],default⟩:=rfl
@[go_sem] theorem aUv:aJ 136=⟨.sc,1,8,[.pointer none],default⟩:=rfl
@[go_sem] theorem aUw:aJ 139=⟨.sc,1,8,[.pointer none],default⟩:=rfl
@[go_sem] theorem aUx:aJ 144=⟨.ik .u64,1,8,[.int .u64 0],default⟩:=rfl
@[go_sem] theorem aUy:aJ 145=⟨.st [(0,1),(1,1),(2,1)],3,40,[.slice none 0 0, .int .i64 0, .int .u64 0],default⟩:=rfl
@[go_sem] theorem aUz:aJ 146=⟨.st [(0,1),(1,1),(2,1)],3,40,[.slice none 0 0, .int .i64 0, .int .u64 0],default⟩:=rfl
@[go_sem] theorem aUA:aJ 151=⟨.ik .u64,1,8,[.int .u64 0],default⟩:=rfl
@[go_sem] theorem aUB:aJ 157=⟨.sc,1,8,[.nilFunc],default⟩:=rfl
@[go_sem] theorem aUC:aJ 159=⟨.sc,1,8,[.pointer none],default⟩:=rfl
@[go_sem] theorem aUD:aJ 160=⟨.st [(0,7),(7,7),(14,1),(15,1),(16,1)],17,344,[.int .i64 0, .slice none 0 0, .slice none 0 0, .slice none 0 0, .slice none 0 0, .slice none 0 0, .slice none 0 0, .int .i64 0, .slice none 0 0, .slice none 0 0, .slice none 0 0, .slice none 0 0, .slice none 0 0, .slice none 0 0, .bool false, .int .i64 0, .slice none 0 0],default⟩:=rfl
@[go_sem] theorem aUE:aJ 161=⟨.st [(0,7),(7,7),(14,1),(15,1),(16,1)],17,344,[.int .i64 0, .slice none 0 0, .slice none 0 0, .slice none 0 0, .slice none 0 0, .slice none 0 0, .slice none 0 0, .int .i64 0, .slice none 0 0, .slice none 0 0, .slice none 0 0, .slice none 0 0, .slice none 0 0, .slice none 0 0, .bool false, .int .i64 0, .slice none 0 0],default⟩:=rfl
@[go_sem] theorem aUF:aJ 166=⟨.sli 99 1 8 [.pointer none],1,24,[.slice none 0 0], .v (.pointer none)⟩:=rfl
@[go_sem] theorem aUG:aJ 172=⟨.sc,1,8,[.nilFunc],default⟩:=rfl
@[go_sem] theorem aUH:aJ 178=⟨.sc,1,8,[.nilFunc],default⟩:=rfl
@[go_sem] theorem aUI:aJ 179=⟨.sc,1,8,[.pointer none],default⟩:=rfl
@[go_sem] theorem aUJ:aJ 183=⟨.ik .u32,1,4,[.int .u32 0],default⟩:=rfl
@[go_sem] theorem aUK:aJ 186=⟨.st [(0,1),(1,1)],2,8,[.int .i32 0, .int .u32 0],default⟩:=rfl
@[go_sem] theorem aUL:aJ 187=⟨.st [(0,1),(1,1)],2,8,[.int .i32 0, .int .u32 0],default⟩:=rfl
@[go_sem] theorem aUM:aJ 192=⟨.st [(0,1),(1,1),(2,3),(5,1)],6,56,[.pointer none, .int .i64 0, .int .u32 0, .int .i32 0, .int .u32 0, .slice none 0 0],default⟩:=rfl
@[go_sem] theorem aUN:aJ 193=⟨.st [(0,1),(1,1),(2,3),(5,1)],6,56,[.pointer none, .int .i64 0, .int .u32 0, .int .i32 0, .int .u32 0, .slice none 0 0],default⟩:=rfl
@[go_sem] theorem aUO:aJ 194=⟨.sc,1,8,[.nilFunc],default⟩:=rfl
@[go_sem] theorem aUP:aJ 196=⟨.sli 116 1 8 [.pointer none],1,24,[.slice none 0 0], .v (.pointer none)⟩:=rfl
@[go_sem] theorem aUQ:aJ 197=⟨.sc,1,8,[.pointer none],default⟩:=rfl
@[go_sem] theorem aUR:aJ 198=⟨.st [(0,5),(5,5),(10,1),(11,1),(12,1),(13,1)],14,288,[.int .i64 0, .slice none 0 0, .slice none 0 0, .slice none 0 0, .slice none 0 0, .int .i64 0, .slice none 0 0, .slice none 0 0, .slice none 0 0, .slice none 0 0, .slice none 0 0, .slice none 0 0, .int .i64 0, .slice none 0 0],default⟩:=rfl
@[go_sem] theorem aUS:aJ 199=⟨.st [(0,5),(5,5),(10,1),(11,1),(12,1),(13,1)],14,288,[.int .i64 0, .slice none 0 0, .slice none 0 0, .slice none 0 0, .slice none 0 0, .int .i64 0, .slice none 0 0, .slice none 0 0, .slice none 0 0, .slice none 0 0, .slice none 0 0, .slice none 0 0, .int .i64 0, .slice none 0 0],default⟩:=rfl
@[go_sem] theorem aUT:aJ 204=⟨.ar 8 1,8,64,[.int .i64 0, .int .i64 0, .int .i64 0, .int .i64 0, .int .i64 0, .int .i64 0, .int .i64 0, .int .i64 0],default⟩:=rfl
@[go_sem] theorem aUU:aJ 216=⟨.sc,1,8,[.nilFunc],default⟩:=rfl
@[go_sem] theorem aUV:aJ 219=⟨.sc,1,8,[.nilFunc],default⟩:=rfl
@[go_sem] theorem aUW:aJ 226=⟨.sli 234 2 32 [.int .i64 0, .slice none 0 0],1,24,[.slice none 0 0], .v (.int .i64 0)⟩:=rfl
@[go_sem] theorem aUX:aJ 227=⟨.st [(0,12),(12,12),(24,1),(25,1),(26,1)],27,568,[.int .i64 0, .slice none 0 0, .slice none 0 0, .slice none 0 0, .slice none 0 0, .int .i64 0, .slice none 0 0, .slice none 0 0, .slice none 0 0, .slice none 0 0, .slice none 0 0, .slice none 0 0, .int .i64 0, .slice none 0 0, .slice none 0 0, .slice none 0 0, .slice none 0 0, .int .i64 0, .slice none 0 0, .slice none 0 0, .slice none 0 0, .slice none 0 0, .slice none 0 0, .slice none 0 0, .pointer none, .slice none 0 0, .slice none 0 0],default⟩:=rfl
@[go_sem] theorem aUY:aJ 228=⟨.st [(0,12),(12,12),(24,1),(25,1),(26,1)],27,568,[.int .i64 0, .slice none 0 0, .slice none 0 0, .slice none 0 0, .slice none 0 0, .int .i64 0, .slice none 0 0, .slice none 0 0, .slice none 0 0, .slice none 0 0, .slice none 0 0, .slice none 0 0, .int .i64 0, .slice none 0 0, .slice none 0 0, .slice none 0 0, .slice none 0 0, .int .i64 0, .slice none 0 0, .slice none 0 0, .slice none 0 0, .slice none 0 0, .slice none 0 0, .slice none 0 0, .pointer none, .slice none 0 0, .slice none 0 0],default⟩:=rfl
@[go_sem] theorem aUZ:aJ 233=⟨.st [(0,1),(1,1)],2,32,[.int .i64 0, .slice none 0 0],default⟩:=rfl
@[go_sem] theorem aU0:aJ 234=⟨.st [(0,1),(1,1)],2,32,[.int .i64 0, .slice none 0 0],default⟩:=rfl
@[go_sem] theorem aU1:aJ 235=⟨.sc,1,8,[.pointer none],default⟩:=rfl
@[go_sem] theorem aU2:aJ 237=⟨.sc,1,8,[.nilFunc],default⟩:=rfl
@[go_sem] theorem aU3:aJ 243=⟨.sli 87 1 8 [.pointer none],1,24,[.slice none 0 0], .v (.pointer none)⟩:=rfl
@[go_sem] theorem aU4:aJ 244=⟨.sc,1,8,[.pointer none],default⟩:=rfl
@[go_sem] theorem aU5:aJ 245=⟨.st [(0,1),(1,1),(2,1),(3,1),(4,1)],5,56,[.pointer none, .pointer none, .bool false, .slice none 0 0, .nilFunc],default⟩:=rfl
@[go_sem] theorem aU6:aJ 246=⟨.st [(0,1),(1,1),(2,1),(3,1),(4,1)],5,56,[.pointer none, .pointer none, .bool false, .slice none 0 0, .nilFunc],default⟩:=rfl
@[go_sem] theorem aU7:aJ 249=⟨.sli 4 1 1 [.bool false],1,24,[.slice none 0 0], .v (.bool false)⟩:=rfl
@[go_sem] theorem aU8:aJ 251=⟨.sc,1,8,[.nilFunc],default⟩:=rfl
@[go_sem] theorem aU9:aJ 252=⟨.sc,1,8,[.nilFunc],default⟩:=rfl
@[go_sem] theorem aVa:aJ 253=⟨.sc,1,8,[.nilFunc],default⟩:=rfl
@[go_sem] theorem aVb:aJ 255=⟨.st [(0,1),(1,1)],2,16,[.int .i64 0, .int .i64 0],default⟩:=rfl
@[go_sem] theorem aVc:aJ 256=⟨.st [(0,1),(1,1)],2,16,[.int .i64 0, .int .i64 0],default⟩:=rfl
@[go_sem] theorem aVd:aJ 267=⟨.sc,1,8,[.pointer none],default⟩:=rfl
@[go_sem] theorem aVe:aJ 280=⟨.st [(0,1),(1,1),(2,1),(3,1),(4,1),(5,1)],6,80,[.pointer none, .pointer none, .slice none 0 0, .slice none 0 0, .bool false, .nilFunc],default⟩:=rfl
@[go_sem] theorem aVf:aJ 281=⟨.st [(0,1),(1,1),(2,1),(3,1),(4,1),(5,1)],6,80,[.pointer none, .pointer none, .slice none 0 0, .slice none 0 0, .bool false, .nilFunc],default⟩:=rfl
@[go_sem] theorem aVg:aJ 287=⟨.sli 291 2 16 [.int .i64 0, .int .i64 0],1,24,[.slice none 0 0], .v (.int .i64 0)⟩:=rfl
@[go_sem] theorem aVi:aJ 289=⟨.sc,1,8,[.pointer none],default⟩:=rfl
@[go_sem] theorem aVj:aJ 290=⟨.st [(0,1),(1,1)],2,16,[.int .i64 0, .int .i64 0],default⟩:=rfl
@[go_sem] theorem aVk:aJ 291=⟨.st [(0,1),(1,1)],2,16,[.int .i64 0, .int .i64 0],default⟩:=rfl
@[go_sem] theorem aVl:aJ 292=⟨.sc,1,8,[.pointer none],default⟩:=rfl
@[go_sem] theorem aVm:aJ 293=⟨.sc,1,8,[.nilFunc],default⟩:=rfl
@[go_sem] theorem aVn:aJ 299=⟨.sc,1,8,[.map none],default⟩:=rfl
@[go_sem] theorem aVo:aJ 302=⟨.sli 139 1 8 [.pointer none],1,24,[.slice none 0 0], .v (.pointer none)⟩:=rfl
@[go_sem] theorem aVp:aJ 306=⟨.sc,1,8,[.pointer none],default⟩:=rfl
@[go_sem] theorem aVq:aJ 308=⟨.sc,1,8,[.pointer none],default⟩:=rfl
@[go_sem] theorem aVr:aJ 312=⟨.sli 315 3 40 [.int .i64 0, .int .i64 0, .slice none 0 0],1,24,[.slice none 0 0], .v (.int .i64 0)⟩:=rfl
@[go_sem] theorem aVs:aJ 314=⟨.st [(0,1),(1,1),(2,1)],3,40,[.int .i64 0, .int .i64 0, .slice none 0 0],default⟩:=rfl
@[go_sem] theorem aVt:aJ 315=⟨.st [(0,1),(1,1),(2,1)],3,40,[.int .i64 0, .int .i64 0, .slice none 0 0],default⟩:=rfl
@[go_sem] theorem aVu:aJ 316=⟨.sc,1,8,[.pointer none],default⟩:=rfl
@[go_sem] theorem aVv:aJ 322=⟨.sc,1,8,[.pointer none],default⟩:=rfl
@[go_sem] theorem aVw:aJ 324=⟨.sc,1,8,[.pointer none],default⟩:=rfl
@[go_sem] theorem aVx:aJ 329=⟨.sc,1,8,[.nilFunc],default⟩:=rfl
@[go_sem] theorem aVy:aJ 333=⟨.st [(0,1),(1,1),(2,1),(3,1)],4,40,[.pointer none, .pointer none, .pointer none, .string ⟨#[]⟩],default⟩:=rfl
@[go_sem] theorem aVz:aJ 334=⟨.st [(0,1),(1,1),(2,1),(3,1)],4,40,[.pointer none, .pointer none, .pointer none, .string ⟨#[]⟩],default⟩:=rfl
@[go_sem] theorem aVA:aJ 339=⟨.ik .u8,1,1,[.int .u8 0],default⟩:=rfl
@[go_sem] theorem aVB:aJ 340=⟨.ik .u8,1,1,[.int .u8 0],default⟩:=rfl
@[go_sem] theorem aVC:aJ 342=⟨.sc,1,8,[.pointer none],default⟩:=rfl
@[go_sem] theorem aVD:aJ 343=⟨.ik .i32,1,4,[.int .i32 0],default⟩:=rfl
@[go_sem] theorem aVE:aJ 344=⟨.ik .i32,1,4,[.int .i32 0],default⟩:=rfl
@[go_sem] theorem aVF:aJ 345=⟨.st [(0,1),(1,1),(2,1),(3,1),(4,1),(5,1),(6,1),(7,1),(8,1),(9,1),(10,1)],11,48,[.int .u64 0, .int .u64 0, .int .u32 0, .int .u8 0, .int .u8 0, .int .u8 0, .int .u8 0, .nilFunc, .pointer none, .int .i32 0, .int .i32 0],default⟩:=rfl
@[go_sem] theorem aVG:aJ 346=⟨.st [(0,1),(1,1),(2,1),(3,1),(4,1),(5,1),(6,1),(7,1),(8,1),(9,1),(10,1)],11,48,[.int .u64 0, .int .u64 0, .int .u32 0, .int .u8 0, .int .u8 0, .int .u8 0, .int .u8 0, .nilFunc, .pointer none, .int .i32 0, .int .i32 0],default⟩:=rfl
set_option maxRecDepth 100000 in
theorem ty2:aR Tryz.prog 2 (aJ 2):=⟨⟨_,_,Tryz.type2,rfl,rfl,rfl,rfl⟩,Tryz.underlying2⟩
set_option maxRecDepth 100000 in
theorem ty3:aR Tryz.prog 3 (aJ 3):=⟨⟨_,_,Tryz.type3,rfl,rfl,rfl,rfl⟩,Tryz.underlying3⟩
set_option maxRecDepth 100000 in
theorem ty4:aR Tryz.prog 4 (aJ 4):=⟨⟨_,_,Tryz.type4,rfl,rfl,rfl,rfl⟩,Tryz.underlying4⟩
set_option maxRecDepth 100000 in
theorem ty5:aR Tryz.prog 5 (aJ 5):=⟨⟨_,_,Tryz.type5,rfl,rfl,rfl,rfl⟩,Tryz.underlying5⟩
set_option maxRecDepth 100000 in
theorem ty6:aR Tryz.prog 6 (aJ 6):=⟨⟨_,_,Tryz.type6,rfl,rfl,rfl,rfl⟩,Tryz.underlying6⟩
set_option maxRecDepth 100000 in
theorem ty7:aR Tryz.prog 7 (aJ 7):=⟨⟨_,_,Tryz.type7,rfl,rfl,rfl,rfl⟩,_,Tryz.underlying7,rfl,by kernel_rfl,rfl⟩
set_option maxRecDepth 100000 in
theorem ty8:aR Tryz.prog 8 (aJ 8):=⟨⟨_,_,Tryz.type8,rfl,rfl,rfl,rfl⟩,_,Tryz.underlying8,rfl,by kernel_rfl,rfl⟩
set_option maxRecDepth 100000 in
theorem ty9:aR Tryz.prog 9 (aJ 9):=⟨⟨_,_,Tryz.type9,rfl,rfl,rfl,rfl⟩,Tryz.underlying9⟩
set_option maxRecDepth 100000 in
theorem aWY:aR Tryz.prog 10 (aJ 10):=⟨⟨_,_,Tryz.type10,rfl,rfl,rfl,rfl⟩,Tryz.underlying10⟩
set_option maxRecDepth 100000 in
theorem aWZ:aR Tryz.prog 11 (aJ 11):=⟨⟨_,_,Tryz.type11,rfl,rfl,rfl,rfl⟩,Tryz.underlying11⟩
set_option maxRecDepth 100000 in
theorem aW0:aR Tryz.prog 12 (aJ 12):=⟨⟨_,_,Tryz.type12,rfl,rfl,rfl,rfl⟩,Tryz.underlying12⟩
set_option maxRecDepth 100000 in
theorem aW1:aR Tryz.prog 13 (aJ 13):=⟨⟨_,_,Tryz.type13,rfl,rfl,rfl,rfl⟩,_,Tryz.underlying13,rfl,by kernel_rfl,rfl⟩
set_option maxRecDepth 100000 in
theorem aW2:aR Tryz.prog 14 (aJ 14):=⟨⟨_,_,Tryz.type14,rfl,rfl,rfl,rfl⟩,_,Tryz.underlying14,rfl,by kernel_rfl,rfl⟩
set_option maxRecDepth 100000 in
theorem aW3:aR Tryz.prog 15 (aJ 15):=⟨⟨_,_,Tryz.type15,rfl,rfl,rfl,rfl⟩,_,Tryz.underlying15,trivial⟩
set_option maxRecDepth 100000 in
theorem aW4:aR Tryz.prog 16 (aJ 16):=⟨⟨_,_,Tryz.type16,rfl,rfl,rfl,rfl⟩,_,Tryz.underlying16,trivial⟩
set_option maxRecDepth 100000 in
theorem aW5:aR Tryz.prog 17 (aJ 17):=⟨⟨_,_,Tryz.type17,rfl,rfl,rfl,rfl⟩,_,Tryz.underlying17,trivial⟩
set_option maxRecDepth 100000 in
theorem aW6:aR Tryz.prog 18 (aJ 18):=⟨⟨_,_,Tryz.type18,rfl,rfl,rfl,rfl⟩,_,Tryz.underlying18,rfl,by kernel_rfl,rfl⟩
set_option maxRecDepth 100000 in
theorem aW7:aR Tryz.prog 19 (aJ 19):=⟨⟨_,_,Tryz.type19,rfl,rfl,rfl,rfl⟩,_,Tryz.underlying19,rfl,by kernel_rfl,rfl⟩
set_option maxRecDepth 100000 in
theorem aW8:aR Tryz.prog 21 (aJ 21):=⟨⟨_,_,Tryz.type21,rfl,rfl,rfl,rfl⟩,Tryz.underlying21⟩
set_option maxRecDepth 100000 in
theorem aW9:aR Tryz.prog 22 (aJ 22):=⟨⟨_,_,Tryz.type22,rfl,rfl,rfl,rfl⟩,Tryz.underlying22,⟨_,_,Tryz.type5,rfl,rfl,rfl,rfl⟩⟩
set_option maxRecDepth 100000 in
theorem aXa:aR Tryz.prog 24 (aJ 24):=⟨⟨_,_,Tryz.type24,rfl,rfl,rfl,rfl⟩,Tryz.underlying24,⟨_,_,Tryz.type2,rfl,rfl,rfl,rfl⟩⟩
set_option maxRecDepth 100000 in
theorem aXb:aR Tryz.prog 25 (aJ 25):=⟨⟨_,_,Tryz.type25,rfl,rfl,rfl,rfl⟩,Tryz.underlying25,⟨_,_,Tryz.type24,rfl,rfl,rfl,rfl⟩⟩
set_option maxRecDepth 100000 in
theorem aXc:aR Tryz.prog 26 (aJ 26):=⟨⟨_,_,Tryz.type26,rfl,rfl,rfl,rfl⟩,_,Tryz.underlying26,rfl,by kernel_rfl,rfl⟩
set_option maxRecDepth 100000 in
theorem aXd:aR Tryz.prog 27 (aJ 27):=⟨⟨_,_,Tryz.type27,rfl,rfl,rfl,rfl⟩,_,Tryz.underlying27,rfl,by kernel_rfl,rfl⟩
set_option maxRecDepth 100000 in
theorem aXe:aR Tryz.prog 28 (aJ 28):=⟨⟨_,_,Tryz.type28,rfl,rfl,rfl,rfl⟩,_,Tryz.underlying28,rfl,by kernel_rfl,rfl⟩
set_option maxRecDepth 100000 in
theorem aXf:aR Tryz.prog 29 (aJ 29):=⟨⟨_,_,Tryz.type29,rfl,rfl,rfl,rfl⟩,_,Tryz.underlying29,rfl,by kernel_rfl,rfl⟩
set_option maxRecDepth 100000 in
theorem aXg:aR Tryz.prog 34 (aJ 34):=⟨⟨_,_,Tryz.type34,rfl,rfl,rfl,rfl⟩,_,Tryz.underlying34,trivial⟩
set_option maxRecDepth 100000 in
theorem aXi:aR Tryz.prog 35 (aJ 35):=⟨⟨_,_,Tryz.type35,rfl,rfl,rfl,rfl⟩,Tryz.underlying35,⟨_,_,Tryz.type25,rfl,rfl,rfl,rfl⟩⟩
set_option maxRecDepth 100000 in
theorem aXj:aR Tryz.prog 38 (aJ 38):=⟨⟨_,_,Tryz.type38,rfl,rfl,rfl,rfl⟩,_,Tryz.underlying38,rfl,by kernel_rfl,rfl⟩
set_option maxRecDepth 100000 in
theorem aXk:aR Tryz.prog 39 (aJ 39):=⟨⟨_,_,Tryz.type39,rfl,rfl,rfl,rfl⟩,_,Tryz.underlying39,rfl,by kernel_rfl,rfl⟩
set_option maxRecDepth 100000 in
theorem aXl:aR Tryz.prog 51 (aJ 51):=⟨⟨_,_,Tryz.type51,rfl,rfl,rfl,rfl⟩,_,Tryz.underlying51,trivial⟩
set_option maxRecDepth 100000 in
theorem aXm:aR Tryz.prog 55 (aJ 55):=⟨⟨_,_,Tryz.type55,rfl,rfl,rfl,rfl⟩,_,Tryz.underlying55,rfl,by kernel_rfl,rfl⟩
set_option maxRecDepth 100000 in
theorem aXn:aR Tryz.prog 56 (aJ 56):=⟨⟨_,_,Tryz.type56,rfl,rfl,rfl,rfl⟩,_,Tryz.underlying56,rfl,by kernel_rfl,rfl⟩
set_option maxRecDepth 100000 in
theorem aXo:aR Tryz.prog 67 (aJ 67):=⟨⟨_,_,Tryz.type67,rfl,rfl,rfl,rfl⟩,_,Tryz.underlying67,rfl,by kernel_rfl,rfl⟩
set_option maxRecDepth 100000 in
theorem aXp:aR Tryz.prog 68 (aJ 68):=⟨⟨_,_,Tryz.type68,rfl,rfl,rfl,rfl⟩,_,Tryz.underlying68,rfl,by kernel_rfl,rfl⟩
set_option maxRecDepth 100000 in
theorem aXq:aR Tryz.prog 71 (aJ 71):=⟨⟨_,_,Tryz.type71,rfl,rfl,rfl,rfl⟩,Tryz.underlying71,⟨_,_,Tryz.type27,rfl,rfl,rfl,rfl⟩⟩
set_option maxRecDepth 100000 in
theorem aXr:aR Tryz.prog 74 (aJ 74):=⟨⟨_,_,Tryz.type74,rfl,rfl,rfl,rfl⟩,Tryz.underlying74,⟨_,_,Tryz.type56,rfl,rfl,rfl,rfl⟩⟩
set_option maxRecDepth 100000 in
theorem aXs:aR Tryz.prog 78 (aJ 78):=⟨⟨_,_,Tryz.type78,rfl,rfl,rfl,rfl⟩,_,Tryz.underlying78,trivial⟩
set_option maxRecDepth 100000 in
theorem aXt:aR Tryz.prog 87 (aJ 87):=⟨⟨_,_,Tryz.type87,rfl,rfl,rfl,rfl⟩,_,Tryz.underlying87,trivial⟩
set_option maxRecDepth 100000 in
theorem aXu:aR Tryz.prog 88 (aJ 88):=⟨⟨_,_,Tryz.type88,rfl,rfl,rfl,rfl⟩,_,Tryz.underlying88,trivial⟩
set_option maxRecDepth 100000 in
theorem aXv:aR Tryz.prog 95 (aJ 95):=⟨⟨_,_,Tryz.type95,rfl,rfl,rfl,rfl⟩,_,Tryz.underlying95,trivial⟩
set_option maxRecDepth 100000 in
theorem aXw:aR Tryz.prog 99 (aJ 99):=⟨⟨_,_,Tryz.type99,rfl,rfl,rfl,rfl⟩,_,Tryz.underlying99,trivial⟩
set_option maxRecDepth 100000 in
theorem aSb:aR Tryz.prog 107 (aJ 107):=⟨⟨_,_,Tryz.type107,rfl,rfl,rfl,rfl⟩,_,Tryz.underlying107,trivial⟩
set_option maxRecDepth 100000 in
theorem aSc:aR Tryz.prog 109 (aJ 109):=⟨⟨_,_,Tryz.type109,rfl,rfl,rfl,rfl⟩,_,Tryz.underlying109,trivial⟩
set_option maxRecDepth 100000 in
theorem aSd:aR Tryz.prog 112 (aJ 112):=⟨⟨_,_,Tryz.type112,rfl,rfl,rfl,rfl⟩,_,Tryz.underlying112,trivial⟩
set_option maxRecDepth 100000 in
theorem aSe:aR Tryz.prog 113 (aJ 113):=⟨⟨_,_,Tryz.type113,rfl,rfl,rfl,rfl⟩,_,Tryz.underlying113,rfl,by kernel_rfl,rfl⟩
set_option maxRecDepth 100000 in
theorem aSf:aR Tryz.prog 114 (aJ 114):=⟨⟨_,_,Tryz.type114,rfl,rfl,rfl,rfl⟩,_,Tryz.underlying114,rfl,by kernel_rfl,rfl⟩
set_option maxRecDepth 100000 in
theorem aSg:aR Tryz.prog 116 (aJ 116):=⟨⟨_,_,Tryz.type116,rfl,rfl,rfl,rfl⟩,_,Tryz.underlying116,trivial⟩
set_option maxRecDepth 100000 in
theorem aSi:aR Tryz.prog 118 (aJ 118):=⟨⟨_,_,Tryz.type118,rfl,rfl,rfl,rfl⟩,_,Tryz.underlying118,trivial⟩
set_option maxRecDepth 100000 in
theorem aSj:aR Tryz.prog 130 (aJ 130):=⟨⟨_,_,Tryz.type130,rfl,rfl,rfl,rfl⟩,_,Tryz.underlying130,trivial⟩
set_option maxRecDepth 100000 in
theorem aSk:aR Tryz.prog 136 (aJ 136):=⟨⟨_,_,Tryz.type136,rfl,rfl,rfl,rfl⟩,_,Tryz.underlying136,trivial⟩
set_option maxRecDepth 100000 in
theorem aSl:aR Tryz.prog 139 (aJ 139):=⟨⟨_,_,Tryz.type139,rfl,rfl,rfl,rfl⟩,_,Tryz.underlying139,trivial⟩
set_option maxRecDepth 100000 in
theorem aSm:aR Tryz.prog 144 (aJ 144):=⟨⟨_,_,Tryz.type144,rfl,rfl,rfl,rfl⟩,Tryz.underlying144⟩
set_option maxRecDepth 100000 in
theorem aSn:aR Tryz.prog 145 (aJ 145):=⟨⟨_,_,Tryz.type145,rfl,rfl,rfl,rfl⟩,_,Tryz.underlying145,rfl,by kernel_rfl,rfl⟩
set_option maxRecDepth 100000 in
theorem aSo:aR Tryz.prog 146 (aJ 146):=⟨⟨_,_,Tryz.type146,rfl,rfl,rfl,rfl⟩,_,Tryz.underlying146,rfl,by kernel_rfl,rfl⟩
set_option maxRecDepth 100000 in
theorem aSp:aR Tryz.prog 151 (aJ 151):=⟨⟨_,_,Tryz.type151,rfl,rfl,rfl,rfl⟩,Tryz.underlying151⟩
set_option maxRecDepth 100000 in
theorem aSq:aR Tryz.prog 157 (aJ 157):=⟨⟨_,_,Tryz.type157,rfl,rfl,rfl,rfl⟩,_,Tryz.underlying157,trivial⟩
set_option maxRecDepth 100000 in
theorem aSr:aR Tryz.prog 159 (aJ 159):=⟨⟨_,_,Tryz.type159,rfl,rfl,rfl,rfl⟩,_,Tryz.underlying159,trivial⟩
set_option maxRecDepth 100000 in
theorem aSs:aR Tryz.prog 160 (aJ 160):=⟨⟨_,_,Tryz.type160,rfl,rfl,rfl,rfl⟩,_,Tryz.underlying160,rfl,by kernel_rfl,rfl⟩
set_option maxRecDepth 100000 in
theorem aSt:aR Tryz.prog 161 (aJ 161):=⟨⟨_,_,Tryz.type161,rfl,rfl,rfl,rfl⟩,_,Tryz.underlying161,rfl,by kernel_rfl,rfl⟩
set_option maxRecDepth 100000 in
theorem aSu:aR Tryz.prog 166 (aJ 166):=⟨⟨_,_,Tryz.type166,rfl,rfl,rfl,rfl⟩,Tryz.underlying166,⟨_,_,Tryz.type99,rfl,rfl,rfl,rfl⟩⟩
set_option maxRecDepth 100000 in
theorem aSv:aR Tryz.prog 172 (aJ 172):=⟨⟨_,_,Tryz.type172,rfl,rfl,rfl,rfl⟩,_,Tryz.underlying172,trivial⟩
set_option maxRecDepth 100000 in
theorem aSw:aR Tryz.prog 178 (aJ 178):=⟨⟨_,_,Tryz.type178,rfl,rfl,rfl,rfl⟩,_,Tryz.underlying178,trivial⟩
set_option maxRecDepth 100000 in
theorem aSx:aR Tryz.prog 179 (aJ 179):=⟨⟨_,_,Tryz.type179,rfl,rfl,rfl,rfl⟩,_,Tryz.underlying179,trivial⟩
set_option maxRecDepth 100000 in
theorem aSy:aR Tryz.prog 183 (aJ 183):=⟨⟨_,_,Tryz.type183,rfl,rfl,rfl,rfl⟩,Tryz.underlying183⟩
set_option maxRecDepth 100000 in
theorem aSz:aR Tryz.prog 186 (aJ 186):=⟨⟨_,_,Tryz.type186,rfl,rfl,rfl,rfl⟩,_,Tryz.underlying186,rfl,by kernel_rfl,rfl⟩
set_option maxRecDepth 100000 in
theorem aSA:aR Tryz.prog 187 (aJ 187):=⟨⟨_,_,Tryz.type187,rfl,rfl,rfl,rfl⟩,_,Tryz.underlying187,rfl,by kernel_rfl,rfl⟩
set_option maxRecDepth 100000 in
theorem aSB:aR Tryz.prog 192 (aJ 192):=⟨⟨_,_,Tryz.type192,rfl,rfl,rfl,rfl⟩,_,Tryz.underlying192,rfl,by kernel_rfl,rfl⟩
set_option maxRecDepth 100000 in
theorem aSC:aR Tryz.prog 193 (aJ 193):=⟨⟨_,_,Tryz.type193,rfl,rfl,rfl,rfl⟩,_,Tryz.underlying193,rfl,by kernel_rfl,rfl⟩
set_option maxRecDepth 100000 in
theorem aSD:aR Tryz.prog 194 (aJ 194):=⟨⟨_,_,Tryz.type194,rfl,rfl,rfl,rfl⟩,_,Tryz.underlying194,trivial⟩
set_option maxRecDepth 100000 in
theorem aSE:aR Tryz.prog 196 (aJ 196):=⟨⟨_,_,Tryz.type196,rfl,rfl,rfl,rfl⟩,Tryz.underlying196,⟨_,_,Tryz.type116,rfl,rfl,rfl,rfl⟩⟩
set_option maxRecDepth 100000 in
theorem aSF:aR Tryz.prog 197 (aJ 197):=⟨⟨_,_,Tryz.type197,rfl,rfl,rfl,rfl⟩,_,Tryz.underlying197,trivial⟩
set_option maxRecDepth 100000 in
theorem aSG:aR Tryz.prog 198 (aJ 198):=⟨⟨_,_,Tryz.type198,rfl,rfl,rfl,rfl⟩,_,Tryz.underlying198,rfl,by kernel_rfl,rfl⟩
set_option maxRecDepth 100000 in
theorem aSH:aR Tryz.prog 199 (aJ 199):=⟨⟨_,_,Tryz.type199,rfl,rfl,rfl,rfl⟩,_,Tryz.underlying199,rfl,by kernel_rfl,rfl⟩
set_option maxRecDepth 100000 in
theorem aSI:aR Tryz.prog 204 (aJ 204):=⟨⟨_,_,Tryz.type204,rfl,rfl,rfl,rfl⟩,_,_,_,Tryz.underlying204,⟨_,_,Tryz.type2,rfl,rfl,rfl,rfl⟩⟩
set_option maxRecDepth 100000 in
theorem aSJ:aR Tryz.prog 216 (aJ 216):=⟨⟨_,_,Tryz.type216,rfl,rfl,rfl,rfl⟩,_,Tryz.underlying216,trivial⟩
set_option maxRecDepth 100000 in
theorem aSK:aR Tryz.prog 219 (aJ 219):=⟨⟨_,_,Tryz.type219,rfl,rfl,rfl,rfl⟩,_,Tryz.underlying219,trivial⟩
set_option maxRecDepth 100000 in
theorem aSL:aR Tryz.prog 226 (aJ 226):=⟨⟨_,_,Tryz.type226,rfl,rfl,rfl,rfl⟩,Tryz.underlying226,⟨_,_,Tryz.type234,rfl,rfl,rfl,rfl⟩⟩
set_option maxRecDepth 100000 in
theorem aSM:aR Tryz.prog 227 (aJ 227):=⟨⟨_,_,Tryz.type227,rfl,rfl,rfl,rfl⟩,_,Tryz.underlying227,rfl,by kernel_rfl,rfl⟩
set_option maxRecDepth 100000 in
theorem aSN:aR Tryz.prog 228 (aJ 228):=⟨⟨_,_,Tryz.type228,rfl,rfl,rfl,rfl⟩,_,Tryz.underlying228,rfl,by kernel_rfl,rfl⟩
set_option maxRecDepth 100000 in
theorem aSO:aR Tryz.prog 233 (aJ 233):=⟨⟨_,_,Tryz.type233,rfl,rfl,rfl,rfl⟩,_,Tryz.underlying233,rfl,by kernel_rfl,rfl⟩
set_option maxRecDepth 100000 in
theorem aSP:aR Tryz.prog 234 (aJ 234):=⟨⟨_,_,Tryz.type234,rfl,rfl,rfl,rfl⟩,_,Tryz.underlying234,rfl,by kernel_rfl,rfl⟩
set_option maxRecDepth 100000 in
theorem aSQ:aR Tryz.prog 235 (aJ 235):=⟨⟨_,_,Tryz.type235,rfl,rfl,rfl,rfl⟩,_,Tryz.underlying235,trivial⟩
set_option maxRecDepth 100000 in
theorem aSR:aR Tryz.prog 237 (aJ 237):=⟨⟨_,_,Tryz.type237,rfl,rfl,rfl,rfl⟩,_,Tryz.underlying237,trivial⟩
set_option maxRecDepth 100000 in
theorem aSS:aR Tryz.prog 243 (aJ 243):=⟨⟨_,_,Tryz.type243,rfl,rfl,rfl,rfl⟩,Tryz.underlying243,⟨_,_,Tryz.type87,rfl,rfl,rfl,rfl⟩⟩
set_option maxRecDepth 100000 in
theorem aST:aR Tryz.prog 244 (aJ 244):=⟨⟨_,_,Tryz.type244,rfl,rfl,rfl,rfl⟩,_,Tryz.underlying244,trivial⟩
set_option maxRecDepth 100000 in
theorem aSU:aR Tryz.prog 245 (aJ 245):=⟨⟨_,_,Tryz.type245,rfl,rfl,rfl,rfl⟩,_,Tryz.underlying245,rfl,by kernel_rfl,rfl⟩
set_option maxRecDepth 100000 in
theorem aSV:aR Tryz.prog 246 (aJ 246):=⟨⟨_,_,Tryz.type246,rfl,rfl,rfl,rfl⟩,_,Tryz.underlying246,rfl,by kernel_rfl,rfl⟩
set_option maxRecDepth 100000 in
theorem aSW:aR Tryz.prog 249 (aJ 249):=⟨⟨_,_,Tryz.type249,rfl,rfl,rfl,rfl⟩,Tryz.underlying249,⟨_,_,Tryz.type4,rfl,rfl,rfl,rfl⟩⟩
set_option maxRecDepth 100000 in
theorem aSX:aR Tryz.prog 251 (aJ 251):=⟨⟨_,_,Tryz.type251,rfl,rfl,rfl,rfl⟩,_,Tryz.underlying251,trivial⟩
set_option maxRecDepth 100000 in
theorem aSY:aR Tryz.prog 252 (aJ 252):=⟨⟨_,_,Tryz.type252,rfl,rfl,rfl,rfl⟩,_,Tryz.underlying252,trivial⟩
set_option maxRecDepth 100000 in
theorem aSZ:aR Tryz.prog 253 (aJ 253):=⟨⟨_,_,Tryz.type253,rfl,rfl,rfl,rfl⟩,_,Tryz.underlying253,trivial⟩
set_option maxRecDepth 100000 in
theorem aS0:aR Tryz.prog 255 (aJ 255):=⟨⟨_,_,Tryz.type255,rfl,rfl,rfl,rfl⟩,_,Tryz.underlying255,rfl,by kernel_rfl,rfl⟩
set_option maxRecDepth 100000 in
theorem aS1:aR Tryz.prog 256 (aJ 256):=⟨⟨_,_,Tryz.type256,rfl,rfl,rfl,rfl⟩,_,Tryz.underlying256,rfl,by kernel_rfl,rfl⟩
set_option maxRecDepth 100000 in
theorem aS2:aR Tryz.prog 267 (aJ 267):=⟨⟨_,_,Tryz.type267,rfl,rfl,rfl,rfl⟩,_,Tryz.underlying267,trivial⟩
set_option maxRecDepth 100000 in
theorem aS3:aR Tryz.prog 280 (aJ 280):=⟨⟨_,_,Tryz.type280,rfl,rfl,rfl,rfl⟩,_,Tryz.underlying280,rfl,by kernel_rfl,rfl⟩
set_option maxRecDepth 100000 in
theorem aS4:aR Tryz.prog 281 (aJ 281):=⟨⟨_,_,Tryz.type281,rfl,rfl,rfl,rfl⟩,_,Tryz.underlying281,rfl,by kernel_rfl,rfl⟩
set_option maxRecDepth 100000 in
theorem aS5:aR Tryz.prog 287 (aJ 287):=⟨⟨_,_,Tryz.type287,rfl,rfl,rfl,rfl⟩,Tryz.underlying287,⟨_,_,Tryz.type291,rfl,rfl,rfl,rfl⟩⟩
set_option maxRecDepth 100000 in
theorem aS6:aR Tryz.prog 289 (aJ 289):=⟨⟨_,_,Tryz.type289,rfl,rfl,rfl,rfl⟩,_,Tryz.underlying289,trivial⟩
set_option maxRecDepth 100000 in
theorem aS7:aR Tryz.prog 290 (aJ 290):=⟨⟨_,_,Tryz.type290,rfl,rfl,rfl,rfl⟩,_,Tryz.underlying290,rfl,by kernel_rfl,rfl⟩
set_option maxRecDepth 100000 in
theorem aS8:aR Tryz.prog 291 (aJ 291):=⟨⟨_,_,Tryz.type291,rfl,rfl,rfl,rfl⟩,_,Tryz.underlying291,rfl,by kernel_rfl,rfl⟩
set_option maxRecDepth 100000 in
theorem aS9:aR Tryz.prog 292 (aJ 292):=⟨⟨_,_,Tryz.type292,rfl,rfl,rfl,rfl⟩,_,Tryz.underlying292,trivial⟩
set_option maxRecDepth 100000 in
theorem aTa:aR Tryz.prog 293 (aJ 293):=⟨⟨_,_,Tryz.type293,rfl,rfl,rfl,rfl⟩,_,Tryz.underlying293,trivial⟩
set_option maxRecDepth 100000 in
theorem aTb:aR Tryz.prog 299 (aJ 299):=⟨⟨_,_,Tryz.type299,rfl,rfl,rfl,rfl⟩,_,Tryz.underlying299,trivial⟩
set_option maxRecDepth 100000 in
theorem aTc:aR Tryz.prog 302 (aJ 302):=⟨⟨_,_,Tryz.type302,rfl,rfl,rfl,rfl⟩,Tryz.underlying302,⟨_,_,Tryz.type139,rfl,rfl,rfl,rfl⟩⟩
set_option maxRecDepth 100000 in
theorem aTd:aR Tryz.prog 306 (aJ 306):=⟨⟨_,_,Tryz.type306,rfl,rfl,rfl,rfl⟩,_,Tryz.underlying306,trivial⟩
set_option maxRecDepth 100000 in
theorem aTe:aR Tryz.prog 308 (aJ 308):=⟨⟨_,_,Tryz.type308,rfl,rfl,rfl,rfl⟩,_,Tryz.underlying308,trivial⟩
set_option maxRecDepth 100000 in
theorem aTf:aR Tryz.prog 312 (aJ 312):=⟨⟨_,_,Tryz.type312,rfl,rfl,rfl,rfl⟩,Tryz.underlying312,⟨_,_,Tryz.type315,rfl,rfl,rfl,rfl⟩⟩
set_option maxRecDepth 100000 in
theorem aTg:aR Tryz.prog 314 (aJ 314):=⟨⟨_,_,Tryz.type314,rfl,rfl,rfl,rfl⟩,_,Tryz.underlying314,rfl,by kernel_rfl,rfl⟩
set_option maxRecDepth 100000 in
theorem aTi:aR Tryz.prog 315 (aJ 315):=⟨⟨_,_,Tryz.type315,rfl,rfl,rfl,rfl⟩,_,Tryz.underlying315,rfl,by kernel_rfl,rfl⟩
set_option maxRecDepth 100000 in
theorem aTj:aR Tryz.prog 316 (aJ 316):=⟨⟨_,_,Tryz.type316,rfl,rfl,rfl,rfl⟩,_,Tryz.underlying316,trivial⟩
set_option maxRecDepth 100000 in
theorem aTk:aR Tryz.prog 322 (aJ 322):=⟨⟨_,_,Tryz.type322,rfl,rfl,rfl,rfl⟩,_,Tryz.underlying322,trivial⟩
set_option maxRecDepth 100000 in
theorem aTl:aR Tryz.prog 324 (aJ 324):=⟨⟨_,_,Tryz.type324,rfl,rfl,rfl,rfl⟩,_,Tryz.underlying324,trivial⟩
set_option maxRecDepth 100000 in
theorem aTm:aR Tryz.prog 329 (aJ 329):=⟨⟨_,_,Tryz.type329,rfl,rfl,rfl,rfl⟩,_,Tryz.underlying329,trivial⟩
set_option maxRecDepth 100000 in
theorem aTn:aR Tryz.prog 333 (aJ 333):=⟨⟨_,_,Tryz.type333,rfl,rfl,rfl,rfl⟩,_,Tryz.underlying333,rfl,by kernel_rfl,rfl⟩
set_option maxRecDepth 100000 in
theorem aTo:aR Tryz.prog 334 (aJ 334):=⟨⟨_,_,Tryz.type334,rfl,rfl,rfl,rfl⟩,_,Tryz.underlying334,rfl,by kernel_rfl,rfl⟩
set_option maxRecDepth 100000 in
theorem aTp:aR Tryz.prog 339 (aJ 339):=⟨⟨_,_,Tryz.type339,rfl,rfl,rfl,rfl⟩,Tryz.underlying339⟩
set_option maxRecDepth 100000 in
theorem aTq:aR Tryz.prog 340 (aJ 340):=⟨⟨_,_,Tryz.type340,rfl,rfl,rfl,rfl⟩,Tryz.underlying340⟩
set_option maxRecDepth 100000 in
theorem aTr:aR Tryz.prog 342 (aJ 342):=⟨⟨_,_,Tryz.type342,rfl,rfl,rfl,rfl⟩,_,Tryz.underlying342,trivial⟩
set_option maxRecDepth 100000 in
theorem aTs:aR Tryz.prog 343 (aJ 343):=⟨⟨_,_,Tryz.type343,rfl,rfl,rfl,rfl⟩,Tryz.underlying343⟩
set_option maxRecDepth 100000 in
theorem aTt:aR Tryz.prog 344 (aJ 344):=⟨⟨_,_,Tryz.type344,rfl,rfl,rfl,rfl⟩,Tryz.underlying344⟩
set_option maxRecDepth 100000 in
theorem aTu:aR Tryz.prog 345 (aJ 345):=⟨⟨_,_,Tryz.type345,rfl,rfl,rfl,rfl⟩,_,Tryz.underlying345,rfl,by kernel_rfl,rfl⟩
set_option maxRecDepth 100000 in
theorem aTv:aR Tryz.prog 346 (aJ 346):=⟨⟨_,_,Tryz.type346,rfl,rfl,rfl,rfl⟩,_,Tryz.underlying346,rfl,by kernel_rfl,rfl⟩
theorem tok:∀t,aR Tryz.prog t (aJ t):=by
 intro t
 by_cases h:t∈[2,3,4,5,6,7,8,9,10,11,12,13,14,15,16,17,18,19,21,22,24,25,26,27,28,29,34,35,38,39,51,55,56,67,68,71,74,78,87,88,95,99,107,109,112,113,114,116,118,130,136,139,144,145,146,151,157,159,160,161,166,172,178,179,183,186,187,192,193,194,196,197,198,199,204,216,219,226,227,228,233,234,235,237,243,244,245,246,249,251,252,253,255,256,267,280,281,287,289,290,291,292,293,299,302,306,308,312,314,315,316,322,324,329,333,334,339,340,342,343,344,345,346]
 ·simp only [List.mem_cons,List.not_mem_nil,or_false]at h
  rcases h with rfl|rfl|rfl|rfl|rfl|rfl|rfl|rfl|rfl|rfl|rfl|rfl|rfl|rfl|rfl|rfl|rfl|rfl|rfl|rfl|rfl|rfl|rfl|rfl|rfl|rfl|rfl|rfl|rfl|rfl|rfl|rfl|rfl|rfl|rfl|rfl|rfl|rfl|rfl|rfl|rfl|rfl|rfl|rfl|rfl|rfl|rfl|rfl|rfl|rfl|rfl|rfl|rfl|rfl|rfl|rfl|rfl|rfl|rfl|rfl|rfl|rfl|rfl|rfl|rfl|rfl|rfl|rfl|rfl|rfl|rfl|rfl|rfl|rfl|rfl|rfl|rfl|rfl|rfl|rfl|rfl|rfl|rfl|rfl|rfl|rfl|rfl|rfl|rfl|rfl|rfl|rfl|rfl|rfl|rfl|rfl|rfl|rfl|rfl|rfl|rfl|rfl|rfl|rfl|rfl|rfl|rfl|rfl|rfl|rfl|rfl|rfl|rfl|rfl|rfl|rfl|rfl|rfl|rfl|rfl|rfl|rfl|rfl
  ·exact ty2
  ·exact ty3
  ·exact ty4
  ·exact ty5
  ·exact ty6
  ·exact ty7
  ·exact ty8
  ·exact ty9
  ·exact aWY
  ·exact aWZ
  ·exact aW0
  ·exact aW1
  ·exact aW2
  ·exact aW3
  ·exact aW4
  ·exact aW5
  ·exact aW6
  ·exact aW7
  ·exact aW8
  ·exact aW9
  ·exact aXa
  ·exact aXb
  ·exact aXc
  ·exact aXd
  ·exact aXe
  ·exact aXf
  ·exact aXg
  ·exact aXi
  ·exact aXj
  ·exact aXk
  ·exact aXl
  ·exact aXm
  ·exact aXn
  ·exact aXo
  ·exact aXp
  ·exact aXq
  ·exact aXr
  ·exact aXs
  ·exact aXt
  ·exact aXu
  ·exact aXv
  ·exact aXw
  ·exact aSb
  ·exact aSc
  ·exact aSd
  ·exact aSe
  ·exact aSf
  ·exact aSg
  ·exact aSi
  ·exact aSj
  ·exact aSk
  ·exact aSl
  ·exact aSm
  ·exact aSn
  ·exact aSo
  ·exact aSp
  ·exact aSq
  ·exact aSr
  ·exact aSs
  ·exact aSt
  ·exact aSu
  ·exact aSv
  ·exact aSw
  ·exact aSx
  ·exact aSy
  ·exact aSz
  ·exact aSA
  ·exact aSB
  ·exact aSC
  ·exact aSD
  ·exact aSE
  ·exact aSF
  ·exact aSG
  ·exact aSH
  ·exact aSI
  ·exact aSJ
  ·exact aSK
  ·exact aSL
  ·exact aSM
  ·exact aSN
  ·exact aSO
  ·exact aSP
  ·exact aSQ
  ·exact aSR
  ·exact aSS
  ·exact aST
  ·exact aSU
  ·exact aSV
  ·exact aSW
  ·exact aSX
  ·exact aSY
  ·exact aSZ
  ·exact aS0
  ·exact aS1
  ·exact aS2
  ·exact aS3
  ·exact aS4
  ·exact aS5
  ·exact aS6
  ·exact aS7
  ·exact aS8
  ·exact aS9
  ·exact aTa
  ·exact aTb
  ·exact aTc
  ·exact aTd
  ·exact aTe
  ·exact aTf
  ·exact aTg
  ·exact aTi
  ·exact aTj
  ·exact aTk
  ·exact aTl
  ·exact aTm
  ·exact aTn
  ·exact aTo
  ·exact aTp
  ·exact aTq
  ·exact aTr
  ·exact aTs
  ·exact aTt
  ·exact aTu
  ·exact aTv
 ·have:aJ t=Ti.no:=by
   unfold aJ
   split
   all_goals first|rfl|(exfalso;apply h;decide)
  rw [this];trivial
noncomputable def TE:Env:={P:=Tryz.prog,ti:=aJ,ok:=tok}
@[go_sem] theorem aXz (t:TypeId):TE.ti t=aJ t:=rfl
@[go_sem] theorem aVK:TE.P=Tryz.prog:=rfl
end Go.Eng
