/- MADE BY PROGRAM (gentypes.py): what is known of the types of the seat. -/
import Derived.Test.YtbflkfamigcncaaGreatKcx
import Derived.Test.YtbflkfamigcncaaGreatProg
namespace Go.Eng
open Go Go.Proofs
def aJ:TypeId→Ti
 |2=>⟨.ik .i64,1,8,[.int .i64 0],default⟩
 |3=>⟨.ik .i64,1,8,[.int .i64 0],default⟩
 |4=>⟨.bk,1,1,[.bool false],default⟩
 |5=>⟨.ik .u8,1,1,[.int .u8 0],default⟩
 |6=>⟨.ik .u8,1,1,[.int .u8 0],default⟩
 |7=>⟨.st [(0,1),(1,1),(2,1),(3,1)],4,24,[.int .i64 0, .int .i64 0, .bool false, .int .u8 0],default⟩
 |8=>⟨.st [(0,1),(1,1),(2,1),(3,1)],4,24,[.int .i64 0, .int .i64 0, .bool false, .int .u8 0],default⟩
 |9=>⟨.strk,1,16,[.string ⟨#[]⟩],default⟩
 |10=>⟨.strk,1,16,[.string ⟨#[]⟩],default⟩
 |11=>⟨.strk,1,16,[.string ⟨#[]⟩],default⟩
 |12=>⟨.ik .u64,1,8,[.int .u64 0],default⟩
 |13=>⟨.st [(0,1),(1,1)],2,24,[.string ⟨#[]⟩, .int .u64 0],default⟩
 |14=>⟨.st [(0,1),(1,1)],2,24,[.string ⟨#[]⟩, .int .u64 0],default⟩
 |15=>⟨.sc,1,8,[.pointer none],default⟩
 |16=>⟨.sc,1,8,[.pointer none],default⟩
 |17=>⟨.sc,1,8,[.pointer none],default⟩
 |18=>⟨.st [(0,1)],1,8,[.pointer none],default⟩
 |19=>⟨.st [(0,1)],1,8,[.pointer none],default⟩
 |21=>⟨.ik .i32,1,4,[.int .i32 0],default⟩
 |22=>⟨.sli 5 1 1 [.int .u8 0],1,24,[.slice none 0 0], .v (.int .u8 0)⟩
 |24=>⟨.sli 2 1 8 [.int .i64 0],1,24,[.slice none 0 0], .v (.int .i64 0)⟩
 |25=>⟨.sli 24 1 24 [.slice none 0 0],1,24,[.slice none 0 0], .sl 1 (.v (.int .i64 0)) []⟩
 |26=>⟨.st [(0,1),(1,1),(2,1),(3,1),(4,1)],5,104,[.int .i64 0, .slice none 0 0, .slice none 0 0, .slice none 0 0, .slice none 0 0],default⟩
 |27=>⟨.st [(0,1),(1,1),(2,1),(3,1),(4,1)],5,104,[.int .i64 0, .slice none 0 0, .slice none 0 0, .slice none 0 0, .slice none 0 0],default⟩
 |32=>⟨.st [(0,5),(5,5),(10,1),(11,1)],12,256,[.int .i64 0, .slice none 0 0, .slice none 0 0, .slice none 0 0, .slice none 0 0, .int .i64 0, .slice none 0 0, .slice none 0 0, .slice none 0 0, .slice none 0 0, .slice none 0 0, .slice none 0 0],default⟩
 |33=>⟨.st [(0,5),(5,5),(10,1),(11,1)],12,256,[.int .i64 0, .slice none 0 0, .slice none 0 0, .slice none 0 0, .slice none 0 0, .int .i64 0, .slice none 0 0, .slice none 0 0, .slice none 0 0, .slice none 0 0, .slice none 0 0, .slice none 0 0],default⟩
 |44=>⟨.sc,1,8,[.pointer none],default⟩
 |46=>⟨.ik .u64,1,8,[.int .u64 0],default⟩
 |48=>⟨.sc,1,8,[.nilFunc],default⟩
 |53=>⟨.sli 33 12 256 [.int .i64 0, .slice none 0 0, .slice none 0 0, .slice none 0 0, .slice none 0 0, .int .i64 0, .slice none 0 0, .slice none 0 0, .slice none 0 0, .slice none 0 0, .slice none 0 0, .slice none 0 0],1,24,[.slice none 0 0], .v (.int .i64 0)⟩
 |69=>⟨.sc,1,8,[.nilFunc],default⟩
 |71=>⟨.st [(0,12),(12,12),(24,1)],25,536,[.int .i64 0, .slice none 0 0, .slice none 0 0, .slice none 0 0, .slice none 0 0, .int .i64 0, .slice none 0 0, .slice none 0 0, .slice none 0 0, .slice none 0 0, .slice none 0 0, .slice none 0 0, .int .i64 0, .slice none 0 0, .slice none 0 0, .slice none 0 0, .slice none 0 0, .int .i64 0, .slice none 0 0, .slice none 0 0, .slice none 0 0, .slice none 0 0, .slice none 0 0, .slice none 0 0, .slice none 0 0],default⟩
 |72=>⟨.st [(0,12),(12,12),(24,1)],25,536,[.int .i64 0, .slice none 0 0, .slice none 0 0, .slice none 0 0, .slice none 0 0, .int .i64 0, .slice none 0 0, .slice none 0 0, .slice none 0 0, .slice none 0 0, .slice none 0 0, .slice none 0 0, .int .i64 0, .slice none 0 0, .slice none 0 0, .slice none 0 0, .slice none 0 0, .int .i64 0, .slice none 0 0, .slice none 0 0, .slice none 0 0, .slice none 0 0, .slice none 0 0, .slice none 0 0, .slice none 0 0],default⟩
 |73=>⟨.st [(0,5),(5,1),(6,1)],7,152,[.int .i64 0, .slice none 0 0, .slice none 0 0, .slice none 0 0, .slice none 0 0, .slice none 0 0, .slice none 0 0],default⟩
 |74=>⟨.st [(0,5),(5,1),(6,1)],7,152,[.int .i64 0, .slice none 0 0, .slice none 0 0, .slice none 0 0, .slice none 0 0, .slice none 0 0, .slice none 0 0],default⟩
 |75=>⟨.st [(0,7),(7,7),(14,1)],15,328,[.int .i64 0, .slice none 0 0, .slice none 0 0, .slice none 0 0, .slice none 0 0, .slice none 0 0, .slice none 0 0, .int .i64 0, .slice none 0 0, .slice none 0 0, .slice none 0 0, .slice none 0 0, .slice none 0 0, .slice none 0 0, .slice none 0 0],default⟩
 |76=>⟨.st [(0,7),(7,7),(14,1)],15,328,[.int .i64 0, .slice none 0 0, .slice none 0 0, .slice none 0 0, .slice none 0 0, .slice none 0 0, .slice none 0 0, .int .i64 0, .slice none 0 0, .slice none 0 0, .slice none 0 0, .slice none 0 0, .slice none 0 0, .slice none 0 0, .slice none 0 0],default⟩
 |84=>⟨.sc,1,8,[.pointer none],default⟩
 |87=>⟨.sc,1,8,[.pointer none],default⟩
 |92=>⟨.sc,1,8,[.nilFunc],default⟩
 |94=>⟨.sc,1,8,[.nilFunc],default⟩
 |96=>⟨.sc,1,8,[.pointer none],default⟩
 |103=>⟨.sc,1,8,[.pointer none],default⟩
 |106=>⟨.sc,1,8,[.pointer none],default⟩
 |109=>⟨.sc,1,8,[.nilFunc],default⟩
 |111=>⟨.sc,1,8,[.nilFunc],default⟩
 |112=>⟨.sc,1,8,[.nilFunc],default⟩
 |114=>⟨.sc,1,8,[.map none],default⟩
 |115=>⟨.st [(0,5),(5,1),(6,1),(7,1)],8,160,[.int .i64 0, .slice none 0 0, .slice none 0 0, .slice none 0 0, .slice none 0 0, .slice none 0 0, .slice none 0 0, .map none],default⟩
 |116=>⟨.st [(0,5),(5,1),(6,1),(7,1)],8,160,[.int .i64 0, .slice none 0 0, .slice none 0 0, .slice none 0 0, .slice none 0 0, .slice none 0 0, .slice none 0 0, .map none],default⟩
 |117=>⟨.st [(0,5),(5,1),(6,1)],7,152,[.int .i64 0, .slice none 0 0, .slice none 0 0, .slice none 0 0, .slice none 0 0, .slice none 0 0, .slice none 0 0],default⟩
 |118=>⟨.st [(0,5),(5,1),(6,1)],7,152,[.int .i64 0, .slice none 0 0, .slice none 0 0, .slice none 0 0, .slice none 0 0, .slice none 0 0, .slice none 0 0],default⟩
 |125=>⟨.st [(0,1),(1,1),(2,1)],3,40,[.slice none 0 0, .int .i64 0, .int .u64 0],default⟩
 |126=>⟨.st [(0,1),(1,1),(2,1)],3,40,[.slice none 0 0, .int .i64 0, .int .u64 0],default⟩
 |127=>⟨.sc,1,8,[.nilFunc],default⟩
 |128=>⟨.ik .u64,1,8,[.int .u64 0],default⟩
 |133=>⟨.sli 2 1 8 [.int .i64 0],1,24,[.slice none 0 0], .v (.int .i64 0)⟩
 |135=>⟨.sc,1,8,[.nilFunc],default⟩
 |136=>⟨.sli 2 1 8 [.int .i64 0],1,24,[.slice none 0 0], .v (.int .i64 0)⟩
 |147=>⟨.st [(0,1),(1,1),(2,1),(3,1)],4,64,[.pointer none, .pointer none, .slice none 0 0, .slice none 0 0],default⟩
 |148=>⟨.st [(0,1),(1,1),(2,1),(3,1)],4,64,[.pointer none, .pointer none, .slice none 0 0, .slice none 0 0],default⟩
 |154=>⟨.sc,1,8,[.pointer none],default⟩
 |157=>⟨.sc,1,8,[.nilFunc],default⟩
 |163=>⟨.sc,1,8,[.pointer none],default⟩
 |168=>⟨.sc,1,8,[.nilFunc],default⟩
 |172=>⟨.st [(0,1),(1,1),(2,1)],3,40,[.slice none 0 0, .int .i64 0, .int .u64 0],default⟩
 |173=>⟨.st [(0,1),(1,1),(2,1)],3,40,[.slice none 0 0, .int .i64 0, .int .u64 0],default⟩
 |182=>⟨.sli 87 1 8 [.pointer none],1,24,[.slice none 0 0], .v (.pointer none)⟩
 |191=>⟨.sc,1,8,[.nilFunc],default⟩
 |193=>⟨.sli 103 1 8 [.pointer none],1,24,[.slice none 0 0], .v (.pointer none)⟩
 |198=>⟨.sc,1,8,[.nilFunc],default⟩
 |201=>⟨.sc,1,8,[.nilFunc],default⟩
 |202=>⟨.sc,1,8,[.nilFunc],default⟩
 |209=>⟨.sc,1,8,[.pointer none],default⟩
 |212=>⟨.sc,1,8,[.pointer none],default⟩
 |216=>⟨.ik .u32,1,4,[.int .u32 0],default⟩
 |219=>⟨.st [(0,1),(1,1)],2,8,[.int .i32 0, .int .u32 0],default⟩
 |220=>⟨.st [(0,1),(1,1)],2,8,[.int .i32 0, .int .u32 0],default⟩
 |225=>⟨.st [(0,1),(1,1),(2,3),(5,1)],6,56,[.pointer none, .int .i64 0, .int .u32 0, .int .i32 0, .int .u32 0, .slice none 0 0],default⟩
 |226=>⟨.st [(0,1),(1,1),(2,3),(5,1)],6,56,[.pointer none, .int .i64 0, .int .u32 0, .int .i32 0, .int .u32 0, .slice none 0 0],default⟩
 |234=>⟨.sli 163 1 8 [.pointer none],1,24,[.slice none 0 0], .v (.pointer none)⟩
 |236=>⟨.sc,1,8,[.nilFunc],default⟩
 |237=>⟨.st [(0,1),(1,1)],2,16,[.int .i64 0, .int .i64 0],default⟩
 |238=>⟨.st [(0,1),(1,1)],2,16,[.int .i64 0, .int .i64 0],default⟩
 |242=>⟨.sc,1,8,[.nilFunc],default⟩
 |243=>⟨.sc,1,8,[.pointer none],default⟩
 |249=>⟨.sc,1,8,[.pointer none],default⟩
 |250=>⟨.st [(0,5),(5,5),(10,1),(11,1),(12,1),(13,1)],14,288,[.int .i64 0, .slice none 0 0, .slice none 0 0, .slice none 0 0, .slice none 0 0, .int .i64 0, .slice none 0 0, .slice none 0 0, .slice none 0 0, .slice none 0 0, .slice none 0 0, .slice none 0 0, .int .i64 0, .slice none 0 0],default⟩
 |251=>⟨.st [(0,5),(5,5),(10,1),(11,1),(12,1),(13,1)],14,288,[.int .i64 0, .slice none 0 0, .slice none 0 0, .slice none 0 0, .slice none 0 0, .int .i64 0, .slice none 0 0, .slice none 0 0, .slice none 0 0, .slice none 0 0, .slice none 0 0, .slice none 0 0, .int .i64 0, .slice none 0 0],default⟩
 |255=>⟨.sc,1,8,[.map none],default⟩
 |262=>⟨.sli 25 1 24 [.slice none 0 0],1,24,[.slice none 0 0], .sl 1 (.sl 1 (.v (.int .i64 0)) []) []⟩
 |268=>⟨.st [(0,1),(1,1),(2,1),(3,1),(4,1),(5,1)],6,80,[.pointer none, .pointer none, .slice none 0 0, .slice none 0 0, .bool false, .nilFunc],default⟩
 |269=>⟨.st [(0,1),(1,1),(2,1),(3,1),(4,1),(5,1)],6,80,[.pointer none, .pointer none, .slice none 0 0, .slice none 0 0, .bool false, .nilFunc],default⟩
 |273=>⟨.sc,1,8,[.pointer none],default⟩
 |274=>⟨.st [(0,12),(12,12),(24,1),(25,1),(26,1)],27,552,[.int .i64 0, .slice none 0 0, .slice none 0 0, .slice none 0 0, .slice none 0 0, .int .i64 0, .slice none 0 0, .slice none 0 0, .slice none 0 0, .slice none 0 0, .slice none 0 0, .slice none 0 0, .int .i64 0, .slice none 0 0, .slice none 0 0, .slice none 0 0, .slice none 0 0, .int .i64 0, .slice none 0 0, .slice none 0 0, .slice none 0 0, .slice none 0 0, .slice none 0 0, .slice none 0 0, .bool false, .int .i64 0, .slice none 0 0],default⟩
 |275=>⟨.st [(0,12),(12,12),(24,1),(25,1),(26,1)],27,552,[.int .i64 0, .slice none 0 0, .slice none 0 0, .slice none 0 0, .slice none 0 0, .int .i64 0, .slice none 0 0, .slice none 0 0, .slice none 0 0, .slice none 0 0, .slice none 0 0, .slice none 0 0, .int .i64 0, .slice none 0 0, .slice none 0 0, .slice none 0 0, .slice none 0 0, .int .i64 0, .slice none 0 0, .slice none 0 0, .slice none 0 0, .slice none 0 0, .slice none 0 0, .slice none 0 0, .bool false, .int .i64 0, .slice none 0 0],default⟩
 |279=>⟨.sli 4 1 1 [.bool false],1,24,[.slice none 0 0], .v (.bool false)⟩
 |281=>⟨.sc,1,8,[.pointer none],default⟩
 |282=>⟨.sli 154 1 8 [.pointer none],1,24,[.slice none 0 0], .v (.pointer none)⟩
 |283=>⟨.sc,1,8,[.nilFunc],default⟩
 |284=>⟨.sc,1,8,[.nilFunc],default⟩
 |285=>⟨.sli 287 2 16 [.int .i64 0, .int .i64 0],1,24,[.slice none 0 0], .v (.int .i64 0)⟩
 |286=>⟨.st [(0,1),(1,1)],2,16,[.int .i64 0, .int .i64 0],default⟩
 |287=>⟨.st [(0,1),(1,1)],2,16,[.int .i64 0, .int .i64 0],default⟩
 |289=>⟨.sli 292 3 40 [.int .i64 0, .int .i64 0, .slice none 0 0],1,24,[.slice none 0 0], .v (.int .i64 0)⟩
 |291=>⟨.st [(0,1),(1,1),(2,1)],3,40,[.int .i64 0, .int .i64 0, .slice none 0 0],default⟩
 |292=>⟨.st [(0,1),(1,1),(2,1)],3,40,[.int .i64 0, .int .i64 0, .slice none 0 0],default⟩
 |295=>⟨.sc,1,8,[.nilFunc],default⟩
 |298=>⟨.sc,1,8,[.pointer none],default⟩
 |300=>⟨.sc,1,8,[.pointer none],default⟩
 |305=>⟨.sc,1,8,[.pointer none],default⟩
 |309=>⟨.sc,1,8,[.pointer none],default⟩
 |311=>⟨.sc,1,8,[.pointer none],default⟩
 |316=>⟨.sc,1,8,[.nilFunc],default⟩
 |320=>⟨.st [(0,1),(1,1),(2,1),(3,1)],4,40,[.pointer none, .pointer none, .pointer none, .string ⟨#[]⟩],default⟩
 |321=>⟨.st [(0,1),(1,1),(2,1),(3,1)],4,40,[.pointer none, .pointer none, .pointer none, .string ⟨#[]⟩],default⟩
 |326=>⟨.ik .u8,1,1,[.int .u8 0],default⟩
 |327=>⟨.ik .u8,1,1,[.int .u8 0],default⟩
 |329=>⟨.sc,1,8,[.pointer none],default⟩
 |330=>⟨.ik .i32,1,4,[.int .i32 0],default⟩
 |331=>⟨.ik .i32,1,4,[.int .i32 0],default⟩
 |332=>⟨.st [(0,1),(1,1),(2,1),(3,1),(4,1),(5,1),(6,1),(7,1),(8,1),(9,1),(10,1)],11,48,[.int .u64 0, .int .u64 0, .int .u32 0, .int .u8 0, .int .u8 0, .int .u8 0, .int .u8 0, .nilFunc, .pointer none, .int .i32 0, .int .i32 0],default⟩
 |333=>⟨.st [(0,1),(1,1),(2,1),(3,1),(4,1),(5,1),(6,1),(7,1),(8,1),(9,1),(10,1)],11,48,[.int .u64 0, .int .u64 0, .int .u32 0, .int .u8 0, .int .u8 0, .int .u8 0, .int .u8 0, .nilFunc, .pointer none, .int .i32 0, .int .i32 0],default⟩
 |_=>Ti.no
@[go_sem] theorem aWx:aJ 2=⟨.ik .i64,1,8,[.int .i64 0],default⟩:=rfl
@[go_sem] theorem aWy:aJ 3=⟨.ik .i64,1,8,[.int .i64 0],default⟩:=rfl
@[go_sem] theorem aWz:aJ 4=⟨.bk,1,1,[.bool false],default⟩:=rfl
@[go_sem] theorem aWA:aJ 5=⟨.ik .u8,1,1,[.int .u8 0],default⟩:=rfl
@[go_sem] theorem aWB:aJ 6=⟨.ik .u8,1,1,[.int .u8 0],default⟩:=rfl
@[go_sem] theorem aWC:aJ 7=⟨.st [(0,1),(1,1),(2,1),(3,1)],4,24,[.int .i64 0, .int .i64 0, .bool false, .int .u8 0],default⟩:=rfl
@[go_sem] theorem aWD:aJ 8=⟨.st [(0,1),(1,1),(2,1),(3,1)],4,24,[.int .i64 0, .int .i64 0, .bool false, .int .u8 0],default⟩:=rfl
@[go_sem] theorem aWE:aJ 9=⟨.strk,1,16,[.string ⟨#[]⟩],default⟩:=rfl
@[go_sem] theorem aVk:aJ 10=⟨.strk,1,16,[.string ⟨#[]⟩],default⟩:=rfl
@[go_sem] theorem aVl:aJ 11=⟨.strk,1,16,[.string ⟨#[]⟩],default⟩:=rfl
@[go_sem] theorem aVm:aJ 12=⟨.ik .u64,1,8,[.int .u64 0],default⟩:=rfl
@[go_sem] theorem aVn:aJ 13=⟨.st [(0,1),(1,1)],2,24,[.string ⟨#[]⟩, .int .u64 0],default⟩:=rfl
@[go_sem] theorem aVo:aJ 14=⟨.st [(0,1),(1,1)],2,24,[.string ⟨#[]⟩, .int .u64 0],default⟩:=rfl
@[go_sem] theorem aVp:aJ 15=⟨.sc,1,8,[.pointer none],default⟩:=rfl
@[go_sem] theorem aVq:aJ 16=⟨.sc,1,8,[.pointer none],default⟩:=rfl
@[go_sem] theorem aVr:aJ 17=⟨.sc,1,8,[.pointer none],default⟩:=rfl
@[go_sem] theorem aVs:aJ 18=⟨.st [(0,1)],1,8,[.pointer none],default⟩:=rfl
@[go_sem] theorem aVt:aJ 19=⟨.st [(0,1)],1,8,[.pointer none],default⟩:=rfl
@[go_sem] theorem aVu:aJ 21=⟨.ik .i32,1,4,[.int .i32 0],default⟩:=rfl
@[go_sem] theorem aVv:aJ 22=⟨.sli 5 1 1 [.int .u8 0],1,24,[.slice none 0 0], .v (.int .u8 0)⟩:=rfl
@[go_sem] theorem aVw:aJ 24=⟨.sli 2 1 8 [.int .i64 0],1,24,[.slice none 0 0], .v (.int .i64 0)⟩:=rfl
@[go_sem] theorem aVx:aJ 25=⟨.sli 24 1 24 [.slice none 0 0],1,24,[.slice none 0 0], .sl 1 (.v (.int .i64 0)) []⟩:=rfl
@[go_sem] theorem aVy:aJ 26=⟨.st [(0,1),(1,1),(2,1),(3,1),(4,1)],5,104,[.int .i64 0, .slice none 0 0, .slice none 0 0, .slice none 0 0, .slice none 0 0],default⟩:=rfl
@[go_sem] theorem aVz:aJ 27=⟨.st [(0,1),(1,1),(2,1),(3,1),(4,1)],5,104,[.int .i64 0, .slice none 0 0, .slice none 0 0, .slice none 0 0, .slice none 0 0],default⟩:=rfl
@[go_sem] theorem aVA:aJ 32=⟨.st [(0,5),(5,5),(10,1),(11,1)],12,256,[.int .i64 0, .slice none 0 0, .slice none 0 0, .slice none 0 0, .slice none 0 0, .int .i64 0, .slice none 0 0, .slice none 0 0, .slice none 0 0, .slice none 0 0, .slice none 0 0, .slice none 0 0],default⟩:=rfl
@[go_sem] theorem aVB:aJ 33=⟨.st [(0,5),(5,5),(10,1),(11,1)],12,256,[.int .i64 0, .slice none 0 0, .slice none 0 0, .slice none 0 0, .slice none 0 0, .int .i64 0, .slice none 0 0, .slice none 0 0, .slice none 0 0, .slice none 0 0, .slice none 0 0, .slice none 0 0],default⟩:=rfl
@[go_sem] theorem aVC:aJ 44=⟨.sc,1,8,[.pointer none],default⟩:=rfl
@[go_sem] theorem aVD:aJ 46=⟨.ik .u64,1,8,[.int .u64 0],default⟩:=rfl
@[go_sem] theorem aVE:aJ 48=⟨.sc,1,8,[.nilFunc],default⟩:=rfl
@[go_sem] theorem aVF:aJ 53=⟨.sli 33 12 256 [.int .i64 0, .slice none 0 0, .slice none 0 0, .slice none 0 0, .slice none 0 0, .int .i64 0, .slice none 0 0, .slice none 0 0, .slice none 0 0, .slice none 0 0, .slice none 0 0, .slice none 0 0],1,24,[.slice none 0 0], .v (.int .i64 0)⟩:=rfl
@[go_sem] theorem aVG:aJ 69=⟨.sc,1,8,[.nilFunc],default⟩:=rfl
@[go_sem] theorem aVH:aJ 71=⟨.st [(0,12),(12,12),(24,1)],25,536,[.int .i64 0, .slice none 0 0, .slice none 0 0, .slice none 0 0, .slice none 0 0, .int .i64 0, .slice none 0 0, .slice none 0 0, .slice none 0 0, .slice none 0 0, .slice none 0 0, .slice none 0 0, .int .i64 0, .slice none 0 0, .slice none 0 0, .slice none 0 0, .slice none 0 0, .int .i64 0, .slice none 0 0, .slice none 0 0, .slice none 0 0, .slice none 0 0, .slice none 0 0, .slice none 0 0, .slice none 0 0],default⟩:=rfl
@[go_sem] theorem aVI:aJ 72=⟨.st [(0,12),(12,12),(24,1)],25,536,[.int .i64 0, .slice none 0 0, .slice none 0 0, .slice none 0 0, .slice none 0 0, .int .i64 0, .slice none 0 0, .slice none 0 0, .slice none 0 0, .slice none 0 0, .slice none 0 0, .slice none 0 0, .int .i64 0, .slice none 0 0, .slice none 0 0, .slice none 0 0, .slice none 0 0, .int .i64 0, .slice none 0 0, .slice none 0 0, .slice none 0 0, .slice none 0 0, .slice none 0 0, .slice none 0 0, .slice none 0 0],default⟩:=rfl
@[go_sem] theorem aVJ:aJ 73=⟨.st [(0,5),(5,1),(6,1)],7,152,[.int .i64 0, .slice none 0 0, .slice none 0 0, .slice none 0 0, .slice none 0 0, .slice none 0 0, .slice none 0 0],default⟩:=rfl
@[go_sem] theorem aVK:aJ 74=⟨.st [(0,5),(5,1),(6,1)],7,152,[.int .i64 0, .slice none 0 0, .slice none 0 0, .slice none 0 0, .slice none 0 0, .slice none 0 0, .slice none 0 0],default⟩:=rfl
@[go_sem] theorem aVL:aJ 75=⟨.st [(0,7),(7,7),(14,1)],15,328,[.int .i64 0, .slice none 0 0, .slice none 0 0, .slice none 0 0, .slice none 0 0, .slice none 0 0, .slice none 0 0, .int .i64 0, .slice none 0 0, .slice none 0 0, .slice none 0 0, .slice none 0 0, .slice none 0 0, .slice none 0 0, .slice none 0 0],default⟩:=rfl
@[go_sem] theorem aVM:aJ 76=⟨.st [(0,7),(7,7),(14,1)],15,328,[.int .i64 0, .slice none 0 0, .slice none 0 0, .slice none 0 0, .slice none 0 0, .slice none 0 0, .slice none 0 0, .int .i64 0, .slice none 0 0, .slice none 0 0, .slice none 0 0, .slice none 0 0, .slice none 0 0, .slice none 0 0, .slice none 0 0],default⟩:=rfl
@[go_sem] theorem aVN:aJ 84=⟨.sc,1,8,[.pointer none],default⟩:=rfl
@[go_sem] theorem aVO:aJ 87=⟨.sc,1,8,[.pointer none],default⟩:=rfl
@[go_sem] theorem aVP:aJ 92=⟨.sc,1,8,[.nilFunc],default⟩:=rfl
@[go_sem] theorem aVQ:aJ 94=⟨.sc,1,8,[.nilFunc],default⟩:=rfl
@[go_sem] theorem aVR:aJ 96=⟨.sc,1,8,[.pointer none],default⟩:=rfl
@[go_sem] theorem aS9:aJ 103=⟨.sc,1,8,[.pointer none],default⟩:=rfl
@[go_sem] theorem aTa:aJ 106=⟨.sc,1,8,[.pointer none],default⟩:=rfl
@[go_sem] theorem aTb:aJ 109=⟨.sc,1,8,[.nilFunc],default⟩:=rfl
@[go_sem] theorem aTc:aJ 111=⟨.sc,1,8,[.nilFunc],default⟩:=rfl
@[go_sem] theorem aTd:aJ 112=⟨.sc,1,8,[.nilFunc],default⟩:=rfl
@[go_sem] theorem aTe:aJ 114=⟨.sc,1,8,[.map none],default⟩:=rfl
@[go_sem] theorem aTf:aJ 115=⟨.st [(0,5),(5,1),(6,1),(7,1)],8,160,[.int .i64 0, .slice none 0 0, .slice none 0 0, .slice none 0 0, .slice none 0 0, .slice none 0 0, .slice none 0 0, .map none],default⟩:=rfl
@[go_sem] theorem aTg:aJ 116=⟨.st [(0,5),(5,1),(6,1),(7,1)],8,160,[.int .i64 0, .slice none 0 0, .slice none 0 0, .slice none 0 0, .slice none 0 0, .slice none 0 0, .slice none 0 0, .map none],default⟩:=rfl
@[go_sem] theorem aTi:aJ 117=⟨.st [(0,5),(5,1),(6,1)],7,152,[.int .i64 0, .slice none 0 0, .slice none 0 0, .slice none 0 0, .slice none 0 0, .slice none 0 0, .slice none 0 0],default⟩:=rfl
@[go_sem] theorem aTj:aJ 118=⟨.st [(0,5),(5,1),(6,1)],7,152,[.int .i64 0, .slice none 0 0, .slice none 0 0, .slice none 0 0, .slice none 0 0, .slice none 0 0, .slice none 0 0],default⟩:=rfl
@[go_sem] theorem aTk:aJ 125=⟨.st [(0,1),(1,1),(2,1)],3,40,[.slice none 0 0, .int .i64 0, .int .u64 0],default⟩:=rfl
@[go_sem] theorem aTl:aJ 126=⟨.st [(0,1),(1,1),(2,1)],3,40,[.slice none 0 0, .int .i64 0, .int .u64 0],default⟩:=rfl
@[go_sem] theorem aTm:aJ 127=⟨.sc,1,8,[.nilFunc],default⟩:=rfl
@[go_sem] theorem aTn:aJ 128=⟨.ik .u64,1,8,[.int .u64 0],default⟩:=rfl
@[go_sem] theorem aTo:aJ 133=⟨.sli 2 1 8 [.int .i64 0],1,24,[.slice none 0 0], .v (.int .i64 0)⟩:=rfl
@[go_sem] theorem aTp:aJ 135=⟨.sc,1,8,[.nilFunc],default⟩:=rfl
@[go_sem] theorem aTq:aJ 136=⟨.sli 2 1 8 [.int .i64 0],1,24,[.slice none 0 0], .v (.int .i64 0)⟩:=rfl
@[go_sem] theorem aTr:aJ 147=⟨.st [(0,1),(1,1),(2,1),(3,1)],4,64,[.pointer none, .pointer none, .slice none 0 0, .slice none 0 0],default⟩:=rfl
@[go_sem] theorem aTs:aJ 148=⟨.st [(0,1),(1,1),(2,1),(3,1)],4,64,[.pointer none, .pointer none, .slice none 0 0, .slice none 0 0],default⟩:=rfl
@[go_sem] theorem aTt:aJ 154=⟨.sc,1,8,[.pointer none],default⟩:=rfl
@[go_sem] theorem aTu:aJ 157=⟨.sc,1,8,[.nilFunc],default⟩:=rfl
@[go_sem] theorem aTv:aJ 163=⟨.sc,1,8,[.pointer none],default⟩:=rfl
@[go_sem] theorem aTw:aJ 168=⟨.sc,1,8,[.nilFunc],default⟩:=rfl
@[go_sem] theorem aTx:aJ 172=⟨.st [(0,1),(1,1),(2,1)],3,40,[.slice none 0 0, .int .i64 0, .int .u64 0],default⟩:=rfl
@[go_sem] theorem aTy:aJ 173=⟨.st [(0,1),(1,1),(2,1)],3,40,[.slice none 0 0, .int .i64 0, .int .u64 0],default⟩:=rfl
@[go_sem] theorem aTz:aJ 182=⟨.sli 87 1 8 [.pointer none],1,24,[.slice none 0 0], .v (.pointer none)⟩:=rfl
@[go_sem] theorem aTA:aJ 191=⟨.sc,1,8,[.nilFunc],default⟩:=rfl
@[go_sem] theorem aTB:aJ 193=⟨.sli 103 1 8 [.pointer none],1,24,[.slice none 0 0], .v (.pointer none)⟩:=rfl
@[go_sem] theorem aTC:aJ 198=⟨.sc,1,8,[.nilFunc],default⟩:=rfl
@[go_sem] theorem aTD:aJ 201=⟨.sc,1,8,[.nilFunc],default⟩:=rfl
@[go_sem] theorem aTE:aJ 202=⟨.sc,1,8,[.nilFunc],default⟩:=rfl
@[go_sem] theorem aTF:aJ 209=⟨.sc,1,8,[.pointer none],default⟩:=rfl
@[go_sem] theorem aTG:aJ 212=⟨.sc,1,8,[.pointer none],default⟩:=rfl
@[go_sem] theorem aTH:aJ 216=⟨.ik .u32,1,4,[.int .u32 0],default⟩:=rfl
@[go_sem] theorem aTI:aJ 219=⟨.st [(0,1),(1,1)],2,8,[.int .i32 0, .int .u32 0],default⟩:=rfl
@[go_sem] theorem aTJ:aJ 220=⟨.st [(0,1),(1,1)],2,8,[.int .i32 0, .int .u32 0],default⟩:=rfl
@[go_sem] theorem aTK:aJ 225=⟨.st [(0,1),(1,1),(2,3),(5,1)],6,56,[.pointer none, .int .i64 0, .int .u32 0, .int .i32 0, .int .u32 0, .slice none 0 0],default⟩:=rfl
@[go_sem] theorem aTL:aJ 226=⟨.st [(0,1),(1,1),(2,3),(5,1)],6,56,[.pointer none, .int .i64 0, .int .u32 0, .int .i32 0, .int .u32 0, .slice none 0 0],default⟩:=rfl
@[go_sem] theorem aTM:aJ 234=⟨.sli 163 1 8 [.pointer none],1,24,[.slice none 0 0], .v (.pointer none)⟩:=rfl
@[go_sem] theorem aTN:aJ 236=⟨.sc,1,8,[.nilFunc],default⟩:=rfl
@[go_sem] theorem aTO:aJ 237=⟨.st [(0,1),(1,1)],2,16,[.int .i64 0, .int .i64 0],default⟩:=rfl
@[go_sem] theorem aTP:aJ 238=⟨.st [(0,1),(1,1)],2,16,[.int .i64 0, .int .i64 0],default⟩:=rfl
@[go_sem] theorem aTQ:aJ 242=⟨.sc,1,8,[.nilFunc],default⟩:=rfl
@[go_sem] theorem aTR:aJ 243=⟨.sc,1,8,[.pointer none],default⟩:=rfl
@[go_sem] theorem aTS:aJ 249=⟨.sc,1,8,[.pointer none],default⟩:=rfl
@[go_sem] theorem aTT:aJ 250=⟨.st [(0,5),(5,5),(10,1),(11,1),(12,1),(13,1)],14,288,[.int .i64 0, .slice none 0 0, .slice none 0 0, .slice none 0 0, .slice none 0 0, .int .i64 0, .slice none 0 0, .slice none 0 0, .slice none 0 0, .slice none 0 0, .slice none 0 0, .slice none 0 0, .int .i64 0, .slice none 0 0],default⟩:=rfl
@[go_sem] theorem aTU:aJ 251=⟨.st [(0,5),(5,5),(10,1),(11,1),(12,1),(13,1)],14,288,[.int .i64 0, .slice none 0 0, .slice none 0 0, .slice none 0 0, .slice none 0 0, .int .i64 0, .slice none 0 0, .slice none 0 0, .slice none 0 0, .slice none 0 0, .slice none 0 0, .slice none 0 0, .int .i64 0, .slice none 0 0],default⟩:=rfl
@[go_sem] theorem aTV:aJ 255=⟨.sc,1,8,[.map none],default⟩:=rfl
@[go_sem] theorem aTW:aJ 262=⟨.sli 25 1 24 [.slice none 0 0],1,24,[.slice none 0 0], .sl 1 (.sl 1 (.v (.int .i64 0)) []) []⟩:=rfl
@[go_sem] theorem aTX:aJ 268=⟨.st [(0,1),(1,1),(2,1),(3,1),(4,1),(5,1)],6,80,[.pointer none, .pointer none, .slice none 0 0, .slice none 0 0, .bool false, .nilFunc],default⟩:=rfl
@[go_sem] theorem aTY:aJ 269=⟨.st [(0,1),(1,1),(2,1),(3,1),(4,1),(5,1)],6,80,[.pointer none, .pointer none, .slice none 0 0, .slice none 0 0, .bool false, .nilFunc],default⟩:=rfl
@[go_sem] theorem aTZ:aJ 273=⟨.sc,1,8,[.pointer none],default⟩:=rfl
@[go_sem] theorem aT0:aJ 274=⟨.st [(0,12),(12,12),(24,1),(25,1),(26,1)],27,552,[.int .i64 0, .slice none 0 0, .slice none 0 0, .slice none 0 0, .slice none 0 0, .int .i64 0, .slice none 0 0, .slice none 0 0, .slice none 0 0, .slice none 0 0, .slice none 0 0, .slice none 0 0, .int .i64 0, .slice none 0 0, .slice none 0 0, .slice none 0 0, .slice none 0 0, .int .i64 0, .slice none 0 0, .slice none 0 0, .slice none 0 0, .slice none 0 0, .slice none 0 0, .slice none 0 0, .bool false, .int .i64 0, .slice none 0 0],default⟩:=rfl
@[go_sem] theorem aT1:aJ 275=⟨.st [(0,12),(12,12),(24,1),(25,1),(26,1)],27,552,[.int .i64 0, .slice none 0 0, .slice none 0 0, .slice none 0 0, .slice none 0 0, .int .i64 0, .slice none 0 0, .slice none 0 0, .slice none 0 0, .slice none 0 0, .slice none 0 0, .slice none 0 0, .int .i64 0, .slice none 0 0, .slice none 0 0, .slice none 0 0, .slice none 0 0, .int .i64 0, .slice none 0 0, .slice none 0 0, .slice none 0 0, .slice none 0 0, .slice none 0 0, .slice none 0 0, .bool false, .int .i64 0, .slice none 0 0],default⟩:=rfl
@[go_sem] theorem aT2:aJ 279=⟨.sli 4 1 1 [.bool false],1,24,[.slice none 0 0], .v (.bool false)⟩:=rfl
@[go_sem] theorem aT3:aJ 281=⟨.sc,1,8,[.pointer none],default⟩:=rfl
@[go_sem] theorem aT4:aJ 282=⟨.sli 154 1 8 [.pointer none],1,24,[.slice none 0 0], .v (.pointer none)⟩:=rfl
@[go_sem] theorem aT5:aJ 283=⟨.sc,1,8,[.nilFunc],default⟩:=rfl
@[go_sem] theorem aT6:aJ 284=⟨.sc,1,8,[.nilFunc],default⟩:=rfl
@[go_sem] theorem aT7:aJ 285=⟨.sli 287 2 16 [.int .i64 0, .int .i64 0],1,24,[.slice none 0 0], .v (.int .i64 0)⟩:=rfl
@[go_sem] theorem aT8:aJ 286=⟨.st [(0,1),(1,1)],2,16,[.int .i64 0, .int .i64 0],default⟩:=rfl
@[go_sem] theorem aT9:aJ 287=⟨.st [(0,1),(1,1)],2,16,[.int .i64 0, .int .i64 0],default⟩:=rfl
@[go_sem] theorem aUa:aJ 289=⟨.sli 292 3 40 [.int .i64 0, .int .i64 0, .slice none 0 0],1,24,[.slice none 0 0], .v (.int .i64 0)⟩:=rfl
@[go_sem] theorem aUb:aJ 291=⟨.st [(0,1),(1,1),(2,1)],3,40,[.int .i64 0, .int .i64 0, .slice none 0 0],default⟩:=rfl
@[go_sem] theorem aUc:aJ 292=⟨.st [(0,1),(1,1),(2,1)],3,40,[.int .i64 0, .int .i64 0, .slice none 0 0],default⟩:=rfl
@[go_sem] theorem aUd:aJ 295=⟨.sc,1,8,[.nilFunc],default⟩:=rfl
@[go_sem] theorem aUe:aJ 298=⟨.sc,1,8,[.pointer none],default⟩:=rfl
@[go_sem] theorem aUf:aJ 300=⟨.sc,1,8,[.pointer none],default⟩:=rfl
@[go_sem] theorem aUg:aJ 305=⟨.sc,1,8,[.pointer none],default⟩:=rfl
@[go_sem] theorem aUi:aJ 309=⟨.sc,1,8,[.pointer none],default⟩:=rfl
@[go_sem] theorem aUj:aJ 311=⟨.sc,1,8,[.pointer none],default⟩:=rfl
@[go_sem] theorem aUk:aJ 316=⟨.sc,1,8,[.nilFunc],default⟩:=rfl
@[go_sem] theorem aUl:aJ 320=⟨.st [(0,1),(1,1),(2,1),(3,1)],4,40,[.pointer none, .pointer none, .pointer none, .string ⟨#[]⟩],default⟩:=rfl
@[go_sem] theorem aUm:aJ 321=⟨.st [(0,1),(1,1),(2,1),(3,1)],4,40,[.pointer none, .pointer none, .pointer none, .string ⟨#[]⟩],default⟩:=rfl
@[go_sem] theorem aUn:aJ 326=⟨.ik .u8,1,1,[.int .u8 0],default⟩:=rfl
@[go_sem] theorem aUo:aJ 327=⟨.ik .u8,1,1,[.int .u8 0],default⟩:=rfl
@[go_sem] theorem aUp:aJ 329=⟨.sc,1,8,[.pointer none],default⟩:=rfl
@[go_sem] theorem aUq:aJ 330=⟨.ik .i32,1,4,[.int .i32 0],default⟩:=rfl
@[go_sem] theorem aUr:aJ 331=⟨.ik .i32,1,4,[.int .i32 0],default⟩:=rfl
@[go_sem] theorem aUs:aJ 332=⟨.st [(0,1),(1,1),(2,1),(3,1),(4,1),(5,1),(6,1),(7,1),(8,1),(9,1),(10,1)],11,48,[.int .u64 0, .int .u64 0, .int .u32 0, .int .u8 0, .int .u8 0, .int .u8 0, .int .u8 0, .nilFunc, .pointer none, .int .i32 0, .int .i32 0],default⟩:=rfl
@[go_sem] theorem aUt:aJ 333=⟨.st [(0,1),(1,1),(2,1),(3,1),(4,1),(5,1),(6,1),(7,1),(8,1),(9,1),(10,1)],11,48,[.int .u64 0, .int .u64 0, .int .u32 0, .int .u8 0, .int .u8 0, .int .u8 0, .int .u8 0, .nilFunc, .pointer none, .int .i32 0, .int .i32 0],default⟩:=rfl
set_option maxRecDepth 100000 in
theorem ty2:aQ Tryz.prog 2 (aJ 2):=⟨⟨_,_,Tryz.type2,rfl,rfl,rfl,rfl⟩,Tryz.underlying2⟩
set_option maxRecDepth 100000 in
theorem ty3:aQ Tryz.prog 3 (aJ 3):=⟨⟨_,_,Tryz.type3,rfl,rfl,rfl,rfl⟩,Tryz.underlying3⟩
set_option maxRecDepth 100000 in
theorem ty4:aQ Tryz.prog 4 (aJ 4):=⟨⟨_,_,Tryz.type4,rfl,rfl,rfl,rfl⟩,Tryz.underlying4⟩
set_option maxRecDepth 100000 in
theorem ty5:aQ Tryz.prog 5 (aJ 5):=⟨⟨_,_,Tryz.type5,rfl,rfl,rfl,rfl⟩,Tryz.underlying5⟩
set_option maxRecDepth 100000 in
theorem ty6:aQ Tryz.prog 6 (aJ 6):=⟨⟨_,_,Tryz.type6,rfl,rfl,rfl,rfl⟩,Tryz.underlying6⟩
set_option maxRecDepth 100000 in
theorem ty7:aQ Tryz.prog 7 (aJ 7):=⟨⟨_,_,Tryz.type7,rfl,rfl,rfl,rfl⟩,_,Tryz.underlying7,rfl,by kernel_rfl,rfl⟩
set_option maxRecDepth 100000 in
theorem ty8:aQ Tryz.prog 8 (aJ 8):=⟨⟨_,_,Tryz.type8,rfl,rfl,rfl,rfl⟩,_,Tryz.underlying8,rfl,by kernel_rfl,rfl⟩
set_option maxRecDepth 100000 in
theorem ty9:aQ Tryz.prog 9 (aJ 9):=⟨⟨_,_,Tryz.type9,rfl,rfl,rfl,rfl⟩,Tryz.underlying9⟩
set_option maxRecDepth 100000 in
theorem aVS:aQ Tryz.prog 10 (aJ 10):=⟨⟨_,_,Tryz.type10,rfl,rfl,rfl,rfl⟩,Tryz.underlying10⟩
set_option maxRecDepth 100000 in
theorem aVT:aQ Tryz.prog 11 (aJ 11):=⟨⟨_,_,Tryz.type11,rfl,rfl,rfl,rfl⟩,Tryz.underlying11⟩
set_option maxRecDepth 100000 in
theorem aVU:aQ Tryz.prog 12 (aJ 12):=⟨⟨_,_,Tryz.type12,rfl,rfl,rfl,rfl⟩,Tryz.underlying12⟩
set_option maxRecDepth 100000 in
theorem aVV:aQ Tryz.prog 13 (aJ 13):=⟨⟨_,_,Tryz.type13,rfl,rfl,rfl,rfl⟩,_,Tryz.underlying13,rfl,by kernel_rfl,rfl⟩
set_option maxRecDepth 100000 in
theorem aVW:aQ Tryz.prog 14 (aJ 14):=⟨⟨_,_,Tryz.type14,rfl,rfl,rfl,rfl⟩,_,Tryz.underlying14,rfl,by kernel_rfl,rfl⟩
set_option maxRecDepth 100000 in
theorem aVX:aQ Tryz.prog 15 (aJ 15):=⟨⟨_,_,Tryz.type15,rfl,rfl,rfl,rfl⟩,_,Tryz.underlying15,trivial⟩
set_option maxRecDepth 100000 in
theorem aVY:aQ Tryz.prog 16 (aJ 16):=⟨⟨_,_,Tryz.type16,rfl,rfl,rfl,rfl⟩,_,Tryz.underlying16,trivial⟩
set_option maxRecDepth 100000 in
theorem aVZ:aQ Tryz.prog 17 (aJ 17):=⟨⟨_,_,Tryz.type17,rfl,rfl,rfl,rfl⟩,_,Tryz.underlying17,trivial⟩
set_option maxRecDepth 100000 in
theorem aV0:aQ Tryz.prog 18 (aJ 18):=⟨⟨_,_,Tryz.type18,rfl,rfl,rfl,rfl⟩,_,Tryz.underlying18,rfl,by kernel_rfl,rfl⟩
set_option maxRecDepth 100000 in
theorem aV1:aQ Tryz.prog 19 (aJ 19):=⟨⟨_,_,Tryz.type19,rfl,rfl,rfl,rfl⟩,_,Tryz.underlying19,rfl,by kernel_rfl,rfl⟩
set_option maxRecDepth 100000 in
theorem aV2:aQ Tryz.prog 21 (aJ 21):=⟨⟨_,_,Tryz.type21,rfl,rfl,rfl,rfl⟩,Tryz.underlying21⟩
set_option maxRecDepth 100000 in
theorem aV3:aQ Tryz.prog 22 (aJ 22):=⟨⟨_,_,Tryz.type22,rfl,rfl,rfl,rfl⟩,Tryz.underlying22,⟨_,_,Tryz.type5,rfl,rfl,rfl,rfl⟩⟩
set_option maxRecDepth 100000 in
theorem aV4:aQ Tryz.prog 24 (aJ 24):=⟨⟨_,_,Tryz.type24,rfl,rfl,rfl,rfl⟩,Tryz.underlying24,⟨_,_,Tryz.type2,rfl,rfl,rfl,rfl⟩⟩
set_option maxRecDepth 100000 in
theorem aV5:aQ Tryz.prog 25 (aJ 25):=⟨⟨_,_,Tryz.type25,rfl,rfl,rfl,rfl⟩,Tryz.underlying25,⟨_,_,Tryz.type24,rfl,rfl,rfl,rfl⟩⟩
set_option maxRecDepth 100000 in
theorem aV6:aQ Tryz.prog 26 (aJ 26):=⟨⟨_,_,Tryz.type26,rfl,rfl,rfl,rfl⟩,_,Tryz.underlying26,rfl,by kernel_rfl,rfl⟩
set_option maxRecDepth 100000 in
theorem aV7:aQ Tryz.prog 27 (aJ 27):=⟨⟨_,_,Tryz.type27,rfl,rfl,rfl,rfl⟩,_,Tryz.underlying27,rfl,by kernel_rfl,rfl⟩
set_option maxRecDepth 100000 in
theorem aV8:aQ Tryz.prog 32 (aJ 32):=⟨⟨_,_,Tryz.type32,rfl,rfl,rfl,rfl⟩,_,Tryz.underlying32,rfl,by kernel_rfl,rfl⟩
set_option maxRecDepth 100000 in
theorem aV9:aQ Tryz.prog 33 (aJ 33):=⟨⟨_,_,Tryz.type33,rfl,rfl,rfl,rfl⟩,_,Tryz.underlying33,rfl,by kernel_rfl,rfl⟩
set_option maxRecDepth 100000 in
theorem aWa:aQ Tryz.prog 44 (aJ 44):=⟨⟨_,_,Tryz.type44,rfl,rfl,rfl,rfl⟩,_,Tryz.underlying44,trivial⟩
set_option maxRecDepth 100000 in
theorem aWb:aQ Tryz.prog 46 (aJ 46):=⟨⟨_,_,Tryz.type46,rfl,rfl,rfl,rfl⟩,Tryz.underlying46⟩
set_option maxRecDepth 100000 in
theorem aWc:aQ Tryz.prog 48 (aJ 48):=⟨⟨_,_,Tryz.type48,rfl,rfl,rfl,rfl⟩,_,Tryz.underlying48,trivial⟩
set_option maxRecDepth 100000 in
theorem aWd:aQ Tryz.prog 53 (aJ 53):=⟨⟨_,_,Tryz.type53,rfl,rfl,rfl,rfl⟩,Tryz.underlying53,⟨_,_,Tryz.type33,rfl,rfl,rfl,rfl⟩⟩
set_option maxRecDepth 100000 in
theorem aWe:aQ Tryz.prog 69 (aJ 69):=⟨⟨_,_,Tryz.type69,rfl,rfl,rfl,rfl⟩,_,Tryz.underlying69,trivial⟩
set_option maxRecDepth 100000 in
theorem aWf:aQ Tryz.prog 71 (aJ 71):=⟨⟨_,_,Tryz.type71,rfl,rfl,rfl,rfl⟩,_,Tryz.underlying71,rfl,by kernel_rfl,rfl⟩
set_option maxRecDepth 100000 in
theorem aWg:aQ Tryz.prog 72 (aJ 72):=⟨⟨_,_,Tryz.type72,rfl,rfl,rfl,rfl⟩,_,Tryz.underlying72,rfl,by kernel_rfl,rfl⟩
set_option maxRecDepth 100000 in
theorem aWi:aQ Tryz.prog 73 (aJ 73):=⟨⟨_,_,Tryz.type73,rfl,rfl,rfl,rfl⟩,_,Tryz.underlying73,rfl,by kernel_rfl,rfl⟩
set_option maxRecDepth 100000 in
theorem aWj:aQ Tryz.prog 74 (aJ 74):=⟨⟨_,_,Tryz.type74,rfl,rfl,rfl,rfl⟩,_,Tryz.underlying74,rfl,by kernel_rfl,rfl⟩
set_option maxRecDepth 100000 in
theorem aWk:aQ Tryz.prog 75 (aJ 75):=⟨⟨_,_,Tryz.type75,rfl,rfl,rfl,rfl⟩,_,Tryz.underlying75,rfl,by kernel_rfl,rfl⟩
set_option maxRecDepth 100000 in
theorem aWl:aQ Tryz.prog 76 (aJ 76):=⟨⟨_,_,Tryz.type76,rfl,rfl,rfl,rfl⟩,_,Tryz.underlying76,rfl,by kernel_rfl,rfl⟩
set_option maxRecDepth 100000 in
theorem aWm:aQ Tryz.prog 84 (aJ 84):=⟨⟨_,_,Tryz.type84,rfl,rfl,rfl,rfl⟩,_,Tryz.underlying84,trivial⟩
set_option maxRecDepth 100000 in
theorem aWn:aQ Tryz.prog 87 (aJ 87):=⟨⟨_,_,Tryz.type87,rfl,rfl,rfl,rfl⟩,_,Tryz.underlying87,trivial⟩
set_option maxRecDepth 100000 in
theorem aWo:aQ Tryz.prog 92 (aJ 92):=⟨⟨_,_,Tryz.type92,rfl,rfl,rfl,rfl⟩,_,Tryz.underlying92,trivial⟩
set_option maxRecDepth 100000 in
theorem aWp:aQ Tryz.prog 94 (aJ 94):=⟨⟨_,_,Tryz.type94,rfl,rfl,rfl,rfl⟩,_,Tryz.underlying94,trivial⟩
set_option maxRecDepth 100000 in
theorem aWq:aQ Tryz.prog 96 (aJ 96):=⟨⟨_,_,Tryz.type96,rfl,rfl,rfl,rfl⟩,_,Tryz.underlying96,trivial⟩
set_option maxRecDepth 100000 in
theorem aQ1:aQ Tryz.prog 103 (aJ 103):=⟨⟨_,_,Tryz.type103,rfl,rfl,rfl,rfl⟩,_,Tryz.underlying103,trivial⟩
set_option maxRecDepth 100000 in
theorem aQ2:aQ Tryz.prog 106 (aJ 106):=⟨⟨_,_,Tryz.type106,rfl,rfl,rfl,rfl⟩,_,Tryz.underlying106,trivial⟩
set_option maxRecDepth 100000 in
theorem aQ3:aQ Tryz.prog 109 (aJ 109):=⟨⟨_,_,Tryz.type109,rfl,rfl,rfl,rfl⟩,_,Tryz.underlying109,trivial⟩
set_option maxRecDepth 100000 in
theorem aQ4:aQ Tryz.prog 111 (aJ 111):=⟨⟨_,_,Tryz.type111,rfl,rfl,rfl,rfl⟩,_,Tryz.underlying111,trivial⟩
set_option maxRecDepth 100000 in
theorem aQ5:aQ Tryz.prog 112 (aJ 112):=⟨⟨_,_,Tryz.type112,rfl,rfl,rfl,rfl⟩,_,Tryz.underlying112,trivial⟩
set_option maxRecDepth 100000 in
theorem aQ6:aQ Tryz.prog 114 (aJ 114):=⟨⟨_,_,Tryz.type114,rfl,rfl,rfl,rfl⟩,_,Tryz.underlying114,trivial⟩
set_option maxRecDepth 100000 in
theorem aQ7:aQ Tryz.prog 115 (aJ 115):=⟨⟨_,_,Tryz.type115,rfl,rfl,rfl,rfl⟩,_,Tryz.underlying115,rfl,by kernel_rfl,rfl⟩
set_option maxRecDepth 100000 in
theorem aQ8:aQ Tryz.prog 116 (aJ 116):=⟨⟨_,_,Tryz.type116,rfl,rfl,rfl,rfl⟩,_,Tryz.underlying116,rfl,by kernel_rfl,rfl⟩
set_option maxRecDepth 100000 in
theorem aQ9:aQ Tryz.prog 117 (aJ 117):=⟨⟨_,_,Tryz.type117,rfl,rfl,rfl,rfl⟩,_,Tryz.underlying117,rfl,by kernel_rfl,rfl⟩
set_option maxRecDepth 100000 in
theorem aRa:aQ Tryz.prog 118 (aJ 118):=⟨⟨_,_,Tryz.type118,rfl,rfl,rfl,rfl⟩,_,Tryz.underlying118,rfl,by kernel_rfl,rfl⟩
set_option maxRecDepth 100000 in
theorem aRb:aQ Tryz.prog 125 (aJ 125):=⟨⟨_,_,Tryz.type125,rfl,rfl,rfl,rfl⟩,_,Tryz.underlying125,rfl,by kernel_rfl,rfl⟩
set_option maxRecDepth 100000 in
theorem aRc:aQ Tryz.prog 126 (aJ 126):=⟨⟨_,_,Tryz.type126,rfl,rfl,rfl,rfl⟩,_,Tryz.underlying126,rfl,by kernel_rfl,rfl⟩
set_option maxRecDepth 100000 in
theorem aRd:aQ Tryz.prog 127 (aJ 127):=⟨⟨_,_,Tryz.type127,rfl,rfl,rfl,rfl⟩,_,Tryz.underlying127,trivial⟩
set_option maxRecDepth 100000 in
theorem aRe:aQ Tryz.prog 128 (aJ 128):=⟨⟨_,_,Tryz.type128,rfl,rfl,rfl,rfl⟩,Tryz.underlying128⟩
set_option maxRecDepth 100000 in
theorem aRf:aQ Tryz.prog 133 (aJ 133):=⟨⟨_,_,Tryz.type133,rfl,rfl,rfl,rfl⟩,Tryz.underlying133,⟨_,_,Tryz.type2,rfl,rfl,rfl,rfl⟩⟩
set_option maxRecDepth 100000 in
theorem aRg:aQ Tryz.prog 135 (aJ 135):=⟨⟨_,_,Tryz.type135,rfl,rfl,rfl,rfl⟩,_,Tryz.underlying135,trivial⟩
set_option maxRecDepth 100000 in
theorem aRi:aQ Tryz.prog 136 (aJ 136):=⟨⟨_,_,Tryz.type136,rfl,rfl,rfl,rfl⟩,Tryz.underlying136,⟨_,_,Tryz.type2,rfl,rfl,rfl,rfl⟩⟩
set_option maxRecDepth 100000 in
theorem aRj:aQ Tryz.prog 147 (aJ 147):=⟨⟨_,_,Tryz.type147,rfl,rfl,rfl,rfl⟩,_,Tryz.underlying147,rfl,by kernel_rfl,rfl⟩
set_option maxRecDepth 100000 in
theorem aRk:aQ Tryz.prog 148 (aJ 148):=⟨⟨_,_,Tryz.type148,rfl,rfl,rfl,rfl⟩,_,Tryz.underlying148,rfl,by kernel_rfl,rfl⟩
set_option maxRecDepth 100000 in
theorem aRl:aQ Tryz.prog 154 (aJ 154):=⟨⟨_,_,Tryz.type154,rfl,rfl,rfl,rfl⟩,_,Tryz.underlying154,trivial⟩
set_option maxRecDepth 100000 in
theorem aRm:aQ Tryz.prog 157 (aJ 157):=⟨⟨_,_,Tryz.type157,rfl,rfl,rfl,rfl⟩,_,Tryz.underlying157,trivial⟩
set_option maxRecDepth 100000 in
theorem aRn:aQ Tryz.prog 163 (aJ 163):=⟨⟨_,_,Tryz.type163,rfl,rfl,rfl,rfl⟩,_,Tryz.underlying163,trivial⟩
set_option maxRecDepth 100000 in
theorem aRo:aQ Tryz.prog 168 (aJ 168):=⟨⟨_,_,Tryz.type168,rfl,rfl,rfl,rfl⟩,_,Tryz.underlying168,trivial⟩
set_option maxRecDepth 100000 in
theorem aRp:aQ Tryz.prog 172 (aJ 172):=⟨⟨_,_,Tryz.type172,rfl,rfl,rfl,rfl⟩,_,Tryz.underlying172,rfl,by kernel_rfl,rfl⟩
set_option maxRecDepth 100000 in
theorem aRq:aQ Tryz.prog 173 (aJ 173):=⟨⟨_,_,Tryz.type173,rfl,rfl,rfl,rfl⟩,_,Tryz.underlying173,rfl,by kernel_rfl,rfl⟩
set_option maxRecDepth 100000 in
theorem aRr:aQ Tryz.prog 182 (aJ 182):=⟨⟨_,_,Tryz.type182,rfl,rfl,rfl,rfl⟩,Tryz.underlying182,⟨_,_,Tryz.type87,rfl,rfl,rfl,rfl⟩⟩
set_option maxRecDepth 100000 in
theorem aRs:aQ Tryz.prog 191 (aJ 191):=⟨⟨_,_,Tryz.type191,rfl,rfl,rfl,rfl⟩,_,Tryz.underlying191,trivial⟩
set_option maxRecDepth 100000 in
theorem aRt:aQ Tryz.prog 193 (aJ 193):=⟨⟨_,_,Tryz.type193,rfl,rfl,rfl,rfl⟩,Tryz.underlying193,⟨_,_,Tryz.type103,rfl,rfl,rfl,rfl⟩⟩
set_option maxRecDepth 100000 in
theorem aRu:aQ Tryz.prog 198 (aJ 198):=⟨⟨_,_,Tryz.type198,rfl,rfl,rfl,rfl⟩,_,Tryz.underlying198,trivial⟩
set_option maxRecDepth 100000 in
theorem aRv:aQ Tryz.prog 201 (aJ 201):=⟨⟨_,_,Tryz.type201,rfl,rfl,rfl,rfl⟩,_,Tryz.underlying201,trivial⟩
set_option maxRecDepth 100000 in
theorem aRw:aQ Tryz.prog 202 (aJ 202):=⟨⟨_,_,Tryz.type202,rfl,rfl,rfl,rfl⟩,_,Tryz.underlying202,trivial⟩
set_option maxRecDepth 100000 in
theorem aRx:aQ Tryz.prog 209 (aJ 209):=⟨⟨_,_,Tryz.type209,rfl,rfl,rfl,rfl⟩,_,Tryz.underlying209,trivial⟩
set_option maxRecDepth 100000 in
theorem aRy:aQ Tryz.prog 212 (aJ 212):=⟨⟨_,_,Tryz.type212,rfl,rfl,rfl,rfl⟩,_,Tryz.underlying212,trivial⟩
set_option maxRecDepth 100000 in
theorem aRz:aQ Tryz.prog 216 (aJ 216):=⟨⟨_,_,Tryz.type216,rfl,rfl,rfl,rfl⟩,Tryz.underlying216⟩
set_option maxRecDepth 100000 in
theorem aRA:aQ Tryz.prog 219 (aJ 219):=⟨⟨_,_,Tryz.type219,rfl,rfl,rfl,rfl⟩,_,Tryz.underlying219,rfl,by kernel_rfl,rfl⟩
set_option maxRecDepth 100000 in
theorem aRB:aQ Tryz.prog 220 (aJ 220):=⟨⟨_,_,Tryz.type220,rfl,rfl,rfl,rfl⟩,_,Tryz.underlying220,rfl,by kernel_rfl,rfl⟩
set_option maxRecDepth 100000 in
theorem aRC:aQ Tryz.prog 225 (aJ 225):=⟨⟨_,_,Tryz.type225,rfl,rfl,rfl,rfl⟩,_,Tryz.underlying225,rfl,by kernel_rfl,rfl⟩
set_option maxRecDepth 100000 in
theorem aRD:aQ Tryz.prog 226 (aJ 226):=⟨⟨_,_,Tryz.type226,rfl,rfl,rfl,rfl⟩,_,Tryz.underlying226,rfl,by kernel_rfl,rfl⟩
set_option maxRecDepth 100000 in
theorem aRE:aQ Tryz.prog 234 (aJ 234):=⟨⟨_,_,Tryz.type234,rfl,rfl,rfl,rfl⟩,Tryz.underlying234,⟨_,_,Tryz.type163,rfl,rfl,rfl,rfl⟩⟩
set_option maxRecDepth 100000 in
theorem aRF:aQ Tryz.prog 236 (aJ 236):=⟨⟨_,_,Tryz.type236,rfl,rfl,rfl,rfl⟩,_,Tryz.underlying236,trivial⟩
set_option maxRecDepth 100000 in
theorem aRG:aQ Tryz.prog 237 (aJ 237):=⟨⟨_,_,Tryz.type237,rfl,rfl,rfl,rfl⟩,_,Tryz.underlying237,rfl,by kernel_rfl,rfl⟩
set_option maxRecDepth 100000 in
theorem aRH:aQ Tryz.prog 238 (aJ 238):=⟨⟨_,_,Tryz.type238,rfl,rfl,rfl,rfl⟩,_,Tryz.underlying238,rfl,by kernel_rfl,rfl⟩
set_option maxRecDepth 100000 in
theorem aRI:aQ Tryz.prog 242 (aJ 242):=⟨⟨_,_,Tryz.type242,rfl,rfl,rfl,rfl⟩,_,Tryz.underlying242,trivial⟩
set_option maxRecDepth 100000 in
theorem aRJ:aQ Tryz.prog 243 (aJ 243):=⟨⟨_,_,Tryz.type243,rfl,rfl,rfl,rfl⟩,_,Tryz.underlying243,trivial⟩
set_option maxRecDepth 100000 in
theorem aRK:aQ Tryz.prog 249 (aJ 249):=⟨⟨_,_,Tryz.type249,rfl,rfl,rfl,rfl⟩,_,Tryz.underlying249,trivial⟩
set_option maxRecDepth 100000 in
theorem aRL:aQ Tryz.prog 250 (aJ 250):=⟨⟨_,_,Tryz.type250,rfl,rfl,rfl,rfl⟩,_,Tryz.underlying250,rfl,by kernel_rfl,rfl⟩
set_option maxRecDepth 100000 in
theorem aRM:aQ Tryz.prog 251 (aJ 251):=⟨⟨_,_,Tryz.type251,rfl,rfl,rfl,rfl⟩,_,Tryz.underlying251,rfl,by kernel_rfl,rfl⟩
set_option maxRecDepth 100000 in
theorem aRN:aQ Tryz.prog 255 (aJ 255):=⟨⟨_,_,Tryz.type255,rfl,rfl,rfl,rfl⟩,_,Tryz.underlying255,trivial⟩
set_option maxRecDepth 100000 in
theorem aRO:aQ Tryz.prog 262 (aJ 262):=⟨⟨_,_,Tryz.type262,rfl,rfl,rfl,rfl⟩,Tryz.underlying262,⟨_,_,Tryz.type25,rfl,rfl,rfl,rfl⟩⟩
set_option maxRecDepth 100000 in
theorem aRP:aQ Tryz.prog 268 (aJ 268):=⟨⟨_,_,Tryz.type268,rfl,rfl,rfl,rfl⟩,_,Tryz.underlying268,rfl,by kernel_rfl,rfl⟩
set_option maxRecDepth 100000 in
theorem aRQ:aQ Tryz.prog 269 (aJ 269):=⟨⟨_,_,Tryz.type269,rfl,rfl,rfl,rfl⟩,_,Tryz.underlying269,rfl,by kernel_rfl,rfl⟩
set_option maxRecDepth 100000 in
theorem aRR:aQ Tryz.prog 273 (aJ 273):=⟨⟨_,_,Tryz.type273,rfl,rfl,rfl,rfl⟩,_,Tryz.underlying273,trivial⟩
set_option maxRecDepth 100000 in
theorem aRS:aQ Tryz.prog 274 (aJ 274):=⟨⟨_,_,Tryz.type274,rfl,rfl,rfl,rfl⟩,_,Tryz.underlying274,rfl,by kernel_rfl,rfl⟩
set_option maxRecDepth 100000 in
theorem aRT:aQ Tryz.prog 275 (aJ 275):=⟨⟨_,_,Tryz.type275,rfl,rfl,rfl,rfl⟩,_,Tryz.underlying275,rfl,by kernel_rfl,rfl⟩
set_option maxRecDepth 100000 in
theorem aRU:aQ Tryz.prog 279 (aJ 279):=⟨⟨_,_,Tryz.type279,rfl,rfl,rfl,rfl⟩,Tryz.underlying279,⟨_,_,Tryz.type4,rfl,rfl,rfl,rfl⟩⟩
set_option maxRecDepth 100000 in
theorem aRV:aQ Tryz.prog 281 (aJ 281):=⟨⟨_,_,Tryz.type281,rfl,rfl,rfl,rfl⟩,_,Tryz.underlying281,trivial⟩
set_option maxRecDepth 100000 in
theorem aRW:aQ Tryz.prog 282 (aJ 282):=⟨⟨_,_,Tryz.type282,rfl,rfl,rfl,rfl⟩,Tryz.underlying282,⟨_,_,Tryz.type154,rfl,rfl,rfl,rfl⟩⟩
set_option maxRecDepth 100000 in
theorem aRX:aQ Tryz.prog 283 (aJ 283):=⟨⟨_,_,Tryz.type283,rfl,rfl,rfl,rfl⟩,_,Tryz.underlying283,trivial⟩
set_option maxRecDepth 100000 in
theorem aRY:aQ Tryz.prog 284 (aJ 284):=⟨⟨_,_,Tryz.type284,rfl,rfl,rfl,rfl⟩,_,Tryz.underlying284,trivial⟩
set_option maxRecDepth 100000 in
theorem aRZ:aQ Tryz.prog 285 (aJ 285):=⟨⟨_,_,Tryz.type285,rfl,rfl,rfl,rfl⟩,Tryz.underlying285,⟨_,_,Tryz.type287,rfl,rfl,rfl,rfl⟩⟩
set_option maxRecDepth 100000 in
theorem aR0:aQ Tryz.prog 286 (aJ 286):=⟨⟨_,_,Tryz.type286,rfl,rfl,rfl,rfl⟩,_,Tryz.underlying286,rfl,by kernel_rfl,rfl⟩
set_option maxRecDepth 100000 in
theorem aR1:aQ Tryz.prog 287 (aJ 287):=⟨⟨_,_,Tryz.type287,rfl,rfl,rfl,rfl⟩,_,Tryz.underlying287,rfl,by kernel_rfl,rfl⟩
set_option maxRecDepth 100000 in
theorem aR2:aQ Tryz.prog 289 (aJ 289):=⟨⟨_,_,Tryz.type289,rfl,rfl,rfl,rfl⟩,Tryz.underlying289,⟨_,_,Tryz.type292,rfl,rfl,rfl,rfl⟩⟩
set_option maxRecDepth 100000 in
theorem aR3:aQ Tryz.prog 291 (aJ 291):=⟨⟨_,_,Tryz.type291,rfl,rfl,rfl,rfl⟩,_,Tryz.underlying291,rfl,by kernel_rfl,rfl⟩
set_option maxRecDepth 100000 in
theorem aR4:aQ Tryz.prog 292 (aJ 292):=⟨⟨_,_,Tryz.type292,rfl,rfl,rfl,rfl⟩,_,Tryz.underlying292,rfl,by kernel_rfl,rfl⟩
set_option maxRecDepth 100000 in
theorem aR5:aQ Tryz.prog 295 (aJ 295):=⟨⟨_,_,Tryz.type295,rfl,rfl,rfl,rfl⟩,_,Tryz.underlying295,trivial⟩
set_option maxRecDepth 100000 in
theorem aR6:aQ Tryz.prog 298 (aJ 298):=⟨⟨_,_,Tryz.type298,rfl,rfl,rfl,rfl⟩,_,Tryz.underlying298,trivial⟩
set_option maxRecDepth 100000 in
theorem aR7:aQ Tryz.prog 300 (aJ 300):=⟨⟨_,_,Tryz.type300,rfl,rfl,rfl,rfl⟩,_,Tryz.underlying300,trivial⟩
set_option maxRecDepth 100000 in
theorem aR8:aQ Tryz.prog 305 (aJ 305):=⟨⟨_,_,Tryz.type305,rfl,rfl,rfl,rfl⟩,_,Tryz.underlying305,trivial⟩
set_option maxRecDepth 100000 in
theorem aR9:aQ Tryz.prog 309 (aJ 309):=⟨⟨_,_,Tryz.type309,rfl,rfl,rfl,rfl⟩,_,Tryz.underlying309,trivial⟩
set_option maxRecDepth 100000 in
theorem aSa:aQ Tryz.prog 311 (aJ 311):=⟨⟨_,_,Tryz.type311,rfl,rfl,rfl,rfl⟩,_,Tryz.underlying311,trivial⟩
set_option maxRecDepth 100000 in
theorem aSb:aQ Tryz.prog 316 (aJ 316):=⟨⟨_,_,Tryz.type316,rfl,rfl,rfl,rfl⟩,_,Tryz.underlying316,trivial⟩
set_option maxRecDepth 100000 in
theorem aSc:aQ Tryz.prog 320 (aJ 320):=⟨⟨_,_,Tryz.type320,rfl,rfl,rfl,rfl⟩,_,Tryz.underlying320,rfl,by kernel_rfl,rfl⟩
set_option maxRecDepth 100000 in
theorem aSd:aQ Tryz.prog 321 (aJ 321):=⟨⟨_,_,Tryz.type321,rfl,rfl,rfl,rfl⟩,_,Tryz.underlying321,rfl,by kernel_rfl,rfl⟩
set_option maxRecDepth 100000 in
theorem aSe:aQ Tryz.prog 326 (aJ 326):=⟨⟨_,_,Tryz.type326,rfl,rfl,rfl,rfl⟩,Tryz.underlying326⟩
set_option maxRecDepth 100000 in
theorem aSf:aQ Tryz.prog 327 (aJ 327):=⟨⟨_,_,Tryz.type327,rfl,rfl,rfl,rfl⟩,Tryz.underlying327⟩
set_option maxRecDepth 100000 in
theorem aSg:aQ Tryz.prog 329 (aJ 329):=⟨⟨_,_,Tryz.type329,rfl,rfl,rfl,rfl⟩,_,Tryz.underlying329,trivial⟩
set_option maxRecDepth 100000 in
theorem aSi:aQ Tryz.prog 330 (aJ 330):=⟨⟨_,_,Tryz.type330,rfl,rfl,rfl,rfl⟩,Tryz.underlying330⟩
set_option maxRecDepth 100000 in
theorem aSj:aQ Tryz.prog 331 (aJ 331):=⟨⟨_,_,Tryz.type331,rfl,rfl,rfl,rfl⟩,Tryz.underlying331⟩
set_option maxRecDepth 100000 in
theorem aSk:aQ Tryz.prog 332 (aJ 332):=⟨⟨_,_,Tryz.type332,rfl,rfl,rfl,rfl⟩,_,Tryz.underlying332,rfl,by kernel_rfl,rfl⟩
set_option maxRecDepth 100000 in
theorem aSl:aQ Tryz.prog 333 (aJ 333):=⟨⟨_,_,Tryz.type333,rfl,rfl,rfl,rfl⟩,_,Tryz.underlying333,rfl,by kernel_rfl,rfl⟩
theorem tok:∀t,aQ Tryz.prog t (aJ t):=by
 intro t
 by_cases h:t∈[2,3,4,5,6,7,8,9,10,11,12,13,14,15,16,17,18,19,21,22,24,25,26,27,32,33,44,46,48,53,69,71,72,73,74,75,76,84,87,92,94,96,103,106,109,111,112,114,115,116,117,118,125,126,127,128,133,135,136,147,148,154,157,163,168,172,173,182,191,193,198,201,202,209,212,216,219,220,225,226,234,236,237,238,242,243,249,250,251,255,262,268,269,273,274,275,279,281,282,283,284,285,286,287,289,291,292,295,298,300,305,309,311,316,320,321,326,327,329,330,331,332,333]
 ·simp only [List.mem_cons,List.not_mem_nil,or_false]at h
  rcases h with rfl|rfl|rfl|rfl|rfl|rfl|rfl|rfl|rfl|rfl|rfl|rfl|rfl|rfl|rfl|rfl|rfl|rfl|rfl|rfl|rfl|rfl|rfl|rfl|rfl|rfl|rfl|rfl|rfl|rfl|rfl|rfl|rfl|rfl|rfl|rfl|rfl|rfl|rfl|rfl|rfl|rfl|rfl|rfl|rfl|rfl|rfl|rfl|rfl|rfl|rfl|rfl|rfl|rfl|rfl|rfl|rfl|rfl|rfl|rfl|rfl|rfl|rfl|rfl|rfl|rfl|rfl|rfl|rfl|rfl|rfl|rfl|rfl|rfl|rfl|rfl|rfl|rfl|rfl|rfl|rfl|rfl|rfl|rfl|rfl|rfl|rfl|rfl|rfl|rfl|rfl|rfl|rfl|rfl|rfl|rfl|rfl|rfl|rfl|rfl|rfl|rfl|rfl|rfl|rfl|rfl|rfl|rfl|rfl|rfl|rfl|rfl|rfl|rfl|rfl|rfl|rfl|rfl|rfl|rfl|rfl|rfl|rfl
  ·exact ty2
  ·exact ty3
  ·exact ty4
  ·exact ty5
  ·exact ty6
  ·exact ty7
  ·exact ty8
  ·exact ty9
  ·exact aVS
  ·exact aVT
  ·exact aVU
  ·exact aVV
  ·exact aVW
  ·exact aVX
  ·exact aVY
  ·exact aVZ
  ·exact aV0
  ·exact aV1
  ·exact aV2
  ·exact aV3
  ·exact aV4
  ·exact aV5
  ·exact aV6
  ·exact aV7
  ·exact aV8
  ·exact aV9
  ·exact aWa
  ·exact aWb
  ·exact aWc
  ·exact aWd
  ·exact aWe
  ·exact aWf
  ·exact aWg
  ·exact aWi
  ·exact aWj
  ·exact aWk
  ·exact aWl
  ·exact aWm
  ·exact aWn
  ·exact aWo
  ·exact aWp
  ·exact aWq
  ·exact aQ1
  ·exact aQ2
  ·exact aQ3
  ·exact aQ4
  ·exact aQ5
  ·exact aQ6
  ·exact aQ7
  ·exact aQ8
  ·exact aQ9
  ·exact aRa
  ·exact aRb
  ·exact aRc
  ·exact aRd
  ·exact aRe
  ·exact aRf
  ·exact aRg
  ·exact aRi
  ·exact aRj
  ·exact aRk
  ·exact aRl
  ·exact aRm
  ·exact aRn
  ·exact aRo
  ·exact aRp
  ·exact aRq
  ·exact aRr
  ·exact aRs
  ·exact aRt
  ·exact aRu
  ·exact aRv
  ·exact aRw
  ·exact aRx
  ·exact aRy
  ·exact aRz
  ·exact aRA
  ·exact aRB
  ·exact aRC
  ·exact aRD
  ·exact aRE
  ·exact aRF
  ·exact aRG
  ·exact aRH
  ·exact aRI
  ·exact aRJ
  ·exact aRK
  ·exact aRL
  ·exact aRM
  ·exact aRN
  ·exact aRO
  ·exact aRP
  ·exact aRQ
  ·exact aRR
  ·exact aRS
  ·exact aRT
  ·exact aRU
  ·exact aRV
  ·exact aRW
  ·exact aRX
  ·exact aRY
  ·exact aRZ
  ·exact aR0
  ·exact aR1
  ·exact aR2
  ·exact aR3
  ·exact aR4
  ·exact aR5
  ·exact aR6
  ·exact aR7
  ·exact aR8
  ·exact aR9
  ·exact aSa
  ·exact aSb
  ·exact aSc
  ·exact aSd
  ·exact aSe
  ·exact aSf
  ·exact aSg
  ·exact aSi
  ·exact aSj
  ·exact aSk
  ·exact aSl
 ·have:aJ t=Ti.no:=by
   unfold aJ
   split
   all_goals first|rfl|(exfalso;apply h;decide)
  rw [this];trivial
noncomputable def TE:Env:={P:=Tryz.prog,ti:=aJ,ok:=tok}
@[go_sem] theorem aWs (t:TypeId):TE.ti t=aJ t:=rfl
@[go_sem] theorem aWJ:TE.P=Tryz.prog:=rfl
end Go.Eng
