/- MADE BY PROGRAM (gentypes.py): what is known of the types of the seat. -/
import Derived.Test.YthgijhnmcglppaaGreatKcx
import Derived.Test.YthgijhnmcglppaaGreatProg
namespace Go.Eng
open Go Go.Proofs
def aI:TypeId→Ti
 |2=>⟨.ik .i64,1,8,[.int .i64 0],default⟩
 |3=>⟨.ik .i64,1,8,[.int .i64 0],default⟩
 |4=>⟨.bk,1,1,[.bool false],default⟩
 |5=>⟨.ik .u8,1,1,[.int .u8 0],default⟩
 |6=>⟨.ik .u8,1,1,[.int .u8 0],default⟩
 |7=>⟨.st [(0,1),(1,1),(2,1),(3,1)],4,24,[.int .i64 0, .int .i64 0, .bool false, .int .u8 0],default⟩
 |8=>⟨.st [(0,1),(1,1),(2,1),(3,1)],4,24,[.int .i64 0, .int .i64 0, .bool false, .int .u8 0],default⟩
 |9=>⟨.strk,1,16,[.string ⟨#[]⟩],default⟩
 |10=>⟨.strk,1,16,[.string ⟨#[]⟩],default⟩
 |11=>⟨.strk,1,16,[.string ⟨#[]⟩],default⟩
 |12=>⟨.ik .u64,1,8,[.int .u64 0],default⟩
 |13=>⟨.st [(0,1),(1,1)],2,24,[.string ⟨#[]⟩, .int .u64 0],default⟩
 |14=>⟨.st [(0,1),(1,1)],2,24,[.string ⟨#[]⟩, .int .u64 0],default⟩
 |15=>⟨.sc,1,8,[.pointer none],default⟩
 |16=>⟨.sc,1,8,[.pointer none],default⟩
 |17=>⟨.sc,1,8,[.pointer none],default⟩
 |18=>⟨.st [(0,1)],1,8,[.pointer none],default⟩
 |19=>⟨.st [(0,1)],1,8,[.pointer none],default⟩
 |21=>⟨.ik .i32,1,4,[.int .i32 0],default⟩
 |22=>⟨.sli 5 1 1 [.int .u8 0],1,24,[.slice none 0 0], .v (.int .u8 0)⟩
 |24=>⟨.sli 2 1 8 [.int .i64 0],1,24,[.slice none 0 0], .v (.int .i64 0)⟩
 |25=>⟨.sli 24 1 24 [.slice none 0 0],1,24,[.slice none 0 0], .sl 1 (.v (.int .i64 0)) []⟩
 |26=>⟨.st [(0,1),(1,1),(2,1),(3,1),(4,1)],5,104,[.int .i64 0, .slice none 0 0, .slice none 0 0, .slice none 0 0, .slice none 0 0],default⟩
 |27=>⟨.st [(0,1),(1,1),(2,1),(3,1),(4,1)],5,104,[.int .i64 0, .slice none 0 0, .slice none 0 0, .slice none 0 0, .slice none 0 0],default⟩
 |30=>⟨.st [(0,5),(5,5),(10,1),(11,1)],12,256,[.int .i64 0, .slice none 0 0, .slice none 0 0, .slice none 0 0, .slice none 0 0, .int .i64 0, .slice none 0 0, .slice none 0 0, .slice none 0 0, .slice none 0 0, .slice none 0 0, .slice none 0 0],default⟩
 |31=>⟨.st [(0,5),(5,5),(10,1),(11,1)],12,256,[.int .i64 0, .slice none 0 0, .slice none 0 0, .slice none 0 0, .slice none 0 0, .int .i64 0, .slice none 0 0, .slice none 0 0, .slice none 0 0, .slice none 0 0, .slice none 0 0, .slice none 0 0],default⟩
 |35=>⟨.sc,1,8,[.pointer none],default⟩
 |37=>⟨.ik .u64,1,8,[.int .u64 0],default⟩
 |39=>⟨.sc,1,8,[.nilFunc],default⟩
 |45=>⟨.sli 31 12 256 [.int .i64 0, .slice none 0 0, .slice none 0 0, .slice none 0 0, .slice none 0 0, .int .i64 0, .slice none 0 0, .slice none 0 0, .slice none 0 0, .slice none 0 0, .slice none 0 0, .slice none 0 0],1,24,[.slice none 0 0], .v (.int .i64 0)⟩
 |63=>⟨.st [(0,5),(5,1),(6,1)],7,152,[.int .i64 0, .slice none 0 0, .slice none 0 0, .slice none 0 0, .slice none 0 0, .slice none 0 0, .slice none 0 0],default⟩
 |64=>⟨.st [(0,5),(5,1),(6,1)],7,152,[.int .i64 0, .slice none 0 0, .slice none 0 0, .slice none 0 0, .slice none 0 0, .slice none 0 0, .slice none 0 0],default⟩
 |65=>⟨.st [(0,7),(7,7),(14,1)],15,328,[.int .i64 0, .slice none 0 0, .slice none 0 0, .slice none 0 0, .slice none 0 0, .slice none 0 0, .slice none 0 0, .int .i64 0, .slice none 0 0, .slice none 0 0, .slice none 0 0, .slice none 0 0, .slice none 0 0, .slice none 0 0, .slice none 0 0],default⟩
 |66=>⟨.st [(0,7),(7,7),(14,1)],15,328,[.int .i64 0, .slice none 0 0, .slice none 0 0, .slice none 0 0, .slice none 0 0, .slice none 0 0, .slice none 0 0, .int .i64 0, .slice none 0 0, .slice none 0 0, .slice none 0 0, .slice none 0 0, .slice none 0 0, .slice none 0 0, .slice none 0 0],default⟩
 |79=>⟨.sli 25 1 24 [.slice none 0 0],1,24,[.slice none 0 0], .sl 1 (.sl 1 (.v (.int .i64 0)) []) []⟩
 |85=>⟨.sc,1,8,[.nilFunc],default⟩
 |95=>⟨.sc,1,8,[.nilFunc],default⟩
 |97=>⟨.st [(0,12),(12,12),(24,1),(25,1)],26,560,[.int .i64 0, .slice none 0 0, .slice none 0 0, .slice none 0 0, .slice none 0 0, .int .i64 0, .slice none 0 0, .slice none 0 0, .slice none 0 0, .slice none 0 0, .slice none 0 0, .slice none 0 0, .int .i64 0, .slice none 0 0, .slice none 0 0, .slice none 0 0, .slice none 0 0, .int .i64 0, .slice none 0 0, .slice none 0 0, .slice none 0 0, .slice none 0 0, .slice none 0 0, .slice none 0 0, .slice none 0 0, .slice none 0 0],default⟩
 |98=>⟨.st [(0,12),(12,12),(24,1),(25,1)],26,560,[.int .i64 0, .slice none 0 0, .slice none 0 0, .slice none 0 0, .slice none 0 0, .int .i64 0, .slice none 0 0, .slice none 0 0, .slice none 0 0, .slice none 0 0, .slice none 0 0, .slice none 0 0, .int .i64 0, .slice none 0 0, .slice none 0 0, .slice none 0 0, .slice none 0 0, .int .i64 0, .slice none 0 0, .slice none 0 0, .slice none 0 0, .slice none 0 0, .slice none 0 0, .slice none 0 0, .slice none 0 0, .slice none 0 0],default⟩
 |101=>⟨.sli 27 5 104 [.int .i64 0, .slice none 0 0, .slice none 0 0, .slice none 0 0, .slice none 0 0],1,24,[.slice none 0 0], .v (.int .i64 0)⟩
 |109=>⟨.sc,1,8,[.pointer none],default⟩
 |112=>⟨.sc,1,8,[.pointer none],default⟩
 |113=>⟨.sc,1,8,[.pointer none],default⟩
 |116=>⟨.sc,1,8,[.nilFunc],default⟩
 |118=>⟨.sc,1,8,[.nilFunc],default⟩
 |119=>⟨.sc,1,8,[.nilFunc],default⟩
 |121=>⟨.sc,1,8,[.map none],default⟩
 |122=>⟨.st [(0,5),(5,1),(6,1),(7,1)],8,160,[.int .i64 0, .slice none 0 0, .slice none 0 0, .slice none 0 0, .slice none 0 0, .slice none 0 0, .slice none 0 0, .map none],default⟩
 |123=>⟨.st [(0,5),(5,1),(6,1),(7,1)],8,160,[.int .i64 0, .slice none 0 0, .slice none 0 0, .slice none 0 0, .slice none 0 0, .slice none 0 0, .slice none 0 0, .map none],default⟩
 |124=>⟨.st [(0,5),(5,1),(6,1)],7,152,[.int .i64 0, .slice none 0 0, .slice none 0 0, .slice none 0 0, .slice none 0 0, .slice none 0 0, .slice none 0 0],default⟩
 |125=>⟨.st [(0,5),(5,1),(6,1)],7,152,[.int .i64 0, .slice none 0 0, .slice none 0 0, .slice none 0 0, .slice none 0 0, .slice none 0 0, .slice none 0 0],default⟩
 |132=>⟨.st [(0,1),(1,1),(2,1)],3,40,[.slice none 0 0, .int .i64 0, .int .u64 0],default⟩
 |133=>⟨.st [(0,1),(1,1),(2,1)],3,40,[.slice none 0 0, .int .i64 0, .int .u64 0],default⟩
 |134=>⟨.sc,1,8,[.nilFunc],default⟩
 |135=>⟨.ik .u64,1,8,[.int .u64 0],default⟩
 |137=>⟨.sc,1,8,[.pointer none],default⟩
 |140=>⟨.sc,1,8,[.nilFunc],default⟩
 |144=>⟨.sli 2 1 8 [.int .i64 0],1,24,[.slice none 0 0], .v (.int .i64 0)⟩
 |146=>⟨.sc,1,8,[.nilFunc],default⟩
 |147=>⟨.sli 2 1 8 [.int .i64 0],1,24,[.slice none 0 0], .v (.int .i64 0)⟩
 |159=>⟨.sc,1,8,[.pointer none],default⟩
 |162=>⟨.sc,1,8,[.nilFunc],default⟩
 |167=>⟨.sc,1,8,[.pointer none],default⟩
 |172=>⟨.sc,1,8,[.nilFunc],default⟩
 |180=>⟨.sc,1,8,[.nilFunc],default⟩
 |188=>⟨.sc,1,8,[.pointer none],default⟩
 |191=>⟨.st [(0,5),(5,1),(6,1),(7,1),(8,1)],9,168,[.int .i64 0, .slice none 0 0, .slice none 0 0, .slice none 0 0, .slice none 0 0, .slice none 0 0, .slice none 0 0, .map none, .map none],default⟩
 |192=>⟨.st [(0,5),(5,1),(6,1),(7,1),(8,1)],9,168,[.int .i64 0, .slice none 0 0, .slice none 0 0, .slice none 0 0, .slice none 0 0, .slice none 0 0, .slice none 0 0, .map none, .map none],default⟩
 |198=>⟨.sc,1,8,[.pointer none],default⟩
 |210=>⟨.sc,1,8,[.nilFunc],default⟩
 |213=>⟨.st [(0,1),(1,1),(2,1)],3,40,[.slice none 0 0, .int .i64 0, .int .u64 0],default⟩
 |214=>⟨.st [(0,1),(1,1),(2,1)],3,40,[.slice none 0 0, .int .i64 0, .int .u64 0],default⟩
 |215=>⟨.sli 112 1 8 [.pointer none],1,24,[.slice none 0 0], .v (.pointer none)⟩
 |226=>⟨.sc,1,8,[.nilFunc],default⟩
 |228=>⟨.sli 137 1 8 [.pointer none],1,24,[.slice none 0 0], .v (.pointer none)⟩
 |235=>⟨.sc,1,8,[.nilFunc],default⟩
 |236=>⟨.sc,1,8,[.nilFunc],default⟩
 |237=>⟨.sc,1,8,[.pointer none],default⟩
 |241=>⟨.ik .u32,1,4,[.int .u32 0],default⟩
 |244=>⟨.st [(0,1),(1,1)],2,8,[.int .i32 0, .int .u32 0],default⟩
 |245=>⟨.st [(0,1),(1,1)],2,8,[.int .i32 0, .int .u32 0],default⟩
 |250=>⟨.st [(0,1),(1,1),(2,3),(5,1)],6,56,[.pointer none, .int .i64 0, .int .u32 0, .int .i32 0, .int .u32 0, .slice none 0 0],default⟩
 |251=>⟨.st [(0,1),(1,1),(2,3),(5,1)],6,56,[.pointer none, .int .i64 0, .int .u32 0, .int .i32 0, .int .u32 0, .slice none 0 0],default⟩
 |258=>⟨.sli 167 1 8 [.pointer none],1,24,[.slice none 0 0], .v (.pointer none)⟩
 |263=>⟨.sc,1,8,[.nilFunc],default⟩
 |265=>⟨.sc,1,8,[.pointer none],default⟩
 |266=>⟨.st [(0,7),(7,7),(14,1),(15,1),(16,1)],17,344,[.int .i64 0, .slice none 0 0, .slice none 0 0, .slice none 0 0, .slice none 0 0, .slice none 0 0, .slice none 0 0, .int .i64 0, .slice none 0 0, .slice none 0 0, .slice none 0 0, .slice none 0 0, .slice none 0 0, .slice none 0 0, .bool false, .int .i64 0, .slice none 0 0],default⟩
 |267=>⟨.st [(0,7),(7,7),(14,1),(15,1),(16,1)],17,344,[.int .i64 0, .slice none 0 0, .slice none 0 0, .slice none 0 0, .slice none 0 0, .slice none 0 0, .slice none 0 0, .int .i64 0, .slice none 0 0, .slice none 0 0, .slice none 0 0, .slice none 0 0, .slice none 0 0, .slice none 0 0, .bool false, .int .i64 0, .slice none 0 0],default⟩
 |276=>⟨.sc,1,8,[.nilFunc],default⟩
 |278=>⟨.sc,1,8,[.nilFunc],default⟩
 |282=>⟨.sli 290 2 32 [.int .i64 0, .slice none 0 0],1,24,[.slice none 0 0], .v (.int .i64 0)⟩
 |283=>⟨.st [(0,12),(12,12),(24,1),(25,1),(26,1)],27,568,[.int .i64 0, .slice none 0 0, .slice none 0 0, .slice none 0 0, .slice none 0 0, .int .i64 0, .slice none 0 0, .slice none 0 0, .slice none 0 0, .slice none 0 0, .slice none 0 0, .slice none 0 0, .int .i64 0, .slice none 0 0, .slice none 0 0, .slice none 0 0, .slice none 0 0, .int .i64 0, .slice none 0 0, .slice none 0 0, .slice none 0 0, .slice none 0 0, .slice none 0 0, .slice none 0 0, .pointer none, .slice none 0 0, .slice none 0 0],default⟩
 |284=>⟨.st [(0,12),(12,12),(24,1),(25,1),(26,1)],27,568,[.int .i64 0, .slice none 0 0, .slice none 0 0, .slice none 0 0, .slice none 0 0, .int .i64 0, .slice none 0 0, .slice none 0 0, .slice none 0 0, .slice none 0 0, .slice none 0 0, .slice none 0 0, .int .i64 0, .slice none 0 0, .slice none 0 0, .slice none 0 0, .slice none 0 0, .int .i64 0, .slice none 0 0, .slice none 0 0, .slice none 0 0, .slice none 0 0, .slice none 0 0, .slice none 0 0, .pointer none, .slice none 0 0, .slice none 0 0],default⟩
 |289=>⟨.st [(0,1),(1,1)],2,32,[.int .i64 0, .slice none 0 0],default⟩
 |290=>⟨.st [(0,1),(1,1)],2,32,[.int .i64 0, .slice none 0 0],default⟩
 |291=>⟨.sc,1,8,[.pointer none],default⟩
 |295=>⟨.sc,1,8,[.pointer none],default⟩
 |296=>⟨.st [(0,5),(5,5),(10,1),(11,1),(12,1),(13,1)],14,288,[.int .i64 0, .slice none 0 0, .slice none 0 0, .slice none 0 0, .slice none 0 0, .int .i64 0, .slice none 0 0, .slice none 0 0, .slice none 0 0, .slice none 0 0, .slice none 0 0, .slice none 0 0, .int .i64 0, .slice none 0 0],default⟩
 |297=>⟨.st [(0,5),(5,5),(10,1),(11,1),(12,1),(13,1)],14,288,[.int .i64 0, .slice none 0 0, .slice none 0 0, .slice none 0 0, .slice none 0 0, .int .i64 0, .slice none 0 0, .slice none 0 0, .slice none 0 0, .slice none 0 0, .slice none 0 0, .slice none 0 0, .int .i64 0, .slice none 0 0],default⟩
 |302=>⟨.ar 8 1,8,64,[.int .i64 0, .int .i64 0, .int .i64 0, .int .i64 0, .int .i64 0, .int .i64 0, .int .i64 0, .int .i64 0],default⟩
 |311=>⟨.sc,1,8,[.nilFunc],default⟩
 |315=>⟨.st [(0,1),(1,1)],2,16,[.int .i64 0, .int .i64 0],default⟩
 |316=>⟨.st [(0,1),(1,1)],2,16,[.int .i64 0, .int .i64 0],default⟩
 |318=>⟨.sc,1,8,[.map none],default⟩
 |323=>⟨.sli 159 1 8 [.pointer none],1,24,[.slice none 0 0], .v (.pointer none)⟩
 |324=>⟨.sc,1,8,[.pointer none],default⟩
 |325=>⟨.st [(0,1),(1,1),(2,1),(3,1),(4,1)],5,56,[.pointer none, .pointer none, .bool false, .slice none 0 0, .nilFunc],default⟩
 |326=>⟨.st [(0,1),(1,1),(2,1),(3,1),(4,1)],5,56,[.pointer none, .pointer none, .bool false, .slice none 0 0, .nilFunc],default⟩
 |329=>⟨.sli 4 1 1 [.bool false],1,24,[.slice none 0 0], .v (.bool false)⟩
 |331=>⟨.sc,1,8,[.nilFunc],default⟩
 |342=>⟨.st [(0,1),(1,1),(2,1),(3,1),(4,1),(5,1)],6,80,[.pointer none, .pointer none, .slice none 0 0, .slice none 0 0, .bool false, .nilFunc],default⟩
 |343=>⟨.st [(0,1),(1,1),(2,1),(3,1),(4,1),(5,1)],6,80,[.pointer none, .pointer none, .slice none 0 0, .slice none 0 0, .bool false, .nilFunc],default⟩
 |350=>⟨.sc,1,8,[.pointer none],default⟩
 |359=>⟨.sc,1,8,[.pointer none],default⟩
 |360=>⟨.st [(0,12),(12,12),(24,1),(25,1),(26,1)],27,552,[.int .i64 0, .slice none 0 0, .slice none 0 0, .slice none 0 0, .slice none 0 0, .int .i64 0, .slice none 0 0, .slice none 0 0, .slice none 0 0, .slice none 0 0, .slice none 0 0, .slice none 0 0, .int .i64 0, .slice none 0 0, .slice none 0 0, .slice none 0 0, .slice none 0 0, .int .i64 0, .slice none 0 0, .slice none 0 0, .slice none 0 0, .slice none 0 0, .slice none 0 0, .slice none 0 0, .bool false, .int .i64 0, .slice none 0 0],default⟩
 |361=>⟨.st [(0,12),(12,12),(24,1),(25,1),(26,1)],27,552,[.int .i64 0, .slice none 0 0, .slice none 0 0, .slice none 0 0, .slice none 0 0, .int .i64 0, .slice none 0 0, .slice none 0 0, .slice none 0 0, .slice none 0 0, .slice none 0 0, .slice none 0 0, .int .i64 0, .slice none 0 0, .slice none 0 0, .slice none 0 0, .slice none 0 0, .int .i64 0, .slice none 0 0, .slice none 0 0, .slice none 0 0, .slice none 0 0, .slice none 0 0, .slice none 0 0, .bool false, .int .i64 0, .slice none 0 0],default⟩
 |363=>⟨.sc,1,8,[.pointer none],default⟩
 |365=>⟨.sli 369 2 16 [.int .i64 0, .int .i64 0],1,24,[.slice none 0 0], .v (.int .i64 0)⟩
 |367=>⟨.sc,1,8,[.pointer none],default⟩
 |368=>⟨.st [(0,1),(1,1)],2,16,[.int .i64 0, .int .i64 0],default⟩
 |369=>⟨.st [(0,1),(1,1)],2,16,[.int .i64 0, .int .i64 0],default⟩
 |370=>⟨.sc,1,8,[.map none],default⟩
 |373=>⟨.sc,1,8,[.nilFunc],default⟩
 |377=>⟨.sli 380 3 40 [.int .i64 0, .int .i64 0, .slice none 0 0],1,24,[.slice none 0 0], .v (.int .i64 0)⟩
 |379=>⟨.st [(0,1),(1,1),(2,1)],3,40,[.int .i64 0, .int .i64 0, .slice none 0 0],default⟩
 |380=>⟨.st [(0,1),(1,1),(2,1)],3,40,[.int .i64 0, .int .i64 0, .slice none 0 0],default⟩
 |382=>⟨.sc,1,8,[.pointer none],default⟩
 |384=>⟨.sc,1,8,[.pointer none],default⟩
 |389=>⟨.sc,1,8,[.pointer none],default⟩
 |393=>⟨.sc,1,8,[.pointer none],default⟩
 |395=>⟨.sc,1,8,[.pointer none],default⟩
 |400=>⟨.sc,1,8,[.nilFunc],default⟩
 |404=>⟨.st [(0,1),(1,1),(2,1),(3,1)],4,40,[.pointer none, .pointer none, .pointer none, .string ⟨#[]⟩],default⟩
 |405=>⟨.st [(0,1),(1,1),(2,1),(3,1)],4,40,[.pointer none, .pointer none, .pointer none, .string ⟨#[]⟩],default⟩
 |410=>⟨.ik .u8,1,1,[.int .u8 0],default⟩
 |411=>⟨.ik .u8,1,1,[.int .u8 0],default⟩
 |413=>⟨.sc,1,8,[.pointer none],default⟩
 |414=>⟨.ik .i32,1,4,[.int .i32 0],default⟩
 |415=>⟨.ik .i32,1,4,[.int .i32 0],default⟩
 |416=>⟨.st [(0,1),(1,1),(2,1),(3,1),(4,1),(5,1),(6,1),(7,1),(8,1),(9,1),(10,1)],11,48,[.int .u64 0, .int .u64 0, .int .u32 0, .int .u8 0, .int .u8 0, .int .u8 0, .int .u8 0, .nilFunc, .pointer none, .int .i32 0, .int .i32 0],default⟩
 |417=>⟨.st [(0,1),(1,1),(2,1),(3,1),(4,1),(5,1),(6,1),(7,1),(8,1),(9,1),(10,1)],11,48,[.int .u64 0, .int .u64 0, .int .u32 0, .int .u8 0, .int .u8 0, .int .u8 0, .int .u8 0, .nilFunc, .pointer none, .int .i32 0, .int .i32 0],default⟩
 |_=>Ti.no
@[go_sem] theorem bBi:aI 2=⟨.ik .i64,1,8,[.int .i64 0],default⟩:=rfl
@[go_sem] theorem bBj:aI 3=⟨.ik .i64,1,8,[.int .i64 0],default⟩:=rfl
@[go_sem] theorem bBk:aI 4=⟨.bk,1,1,[.bool false],default⟩:=rfl
@[go_sem] theorem bBl:aI 5=⟨.ik .u8,1,1,[.int .u8 0],default⟩:=rfl
@[go_sem] theorem bBm:aI 6=⟨.ik .u8,1,1,[.int .u8 0],default⟩:=rfl
@[go_sem] theorem bBn:aI 7=⟨.st [(0,1),(1,1),(2,1),(3,1)],4,24,[.int .i64 0, .int .i64 0, .bool false, .int .u8 0],default⟩:=rfl
@[go_sem] theorem bBo:aI 8=⟨.st [(0,1),(1,1),(2,1),(3,1)],4,24,[.int .i64 0, .int .i64 0, .bool false, .int .u8 0],default⟩:=rfl
@[go_sem] theorem bBp:aI 9=⟨.strk,1,16,[.string ⟨#[]⟩],default⟩:=rfl
@[go_sem] theorem aZ2:aI 10=⟨.strk,1,16,[.string ⟨#[]⟩],default⟩:=rfl
@[go_sem] theorem aZ3:aI 11=⟨.strk,1,16,[.string ⟨#[]⟩],default⟩:=rfl
@[go_sem] theorem aZ4:aI 12=⟨.ik .u64,1,8,[.int .u64 0],default⟩:=rfl
@[go_sem] theorem aZ5:aI 13=⟨.st [(0,1),(1,1)],2,24,[.string ⟨#[]⟩, .int .u64 0],default⟩:=rfl
@[go_sem] theorem aZ6:aI 14=⟨.st [(0,1),(1,1)],2,24,[.string ⟨#[]⟩, .int .u64 0],default⟩:=rfl
@[go_sem] theorem aZ7:aI 15=⟨.sc,1,8,[.pointer none],default⟩:=rfl
@[go_sem] theorem aZ8:aI 16=⟨.sc,1,8,[.pointer none],default⟩:=rfl
@[go_sem] theorem aZ9:aI 17=⟨.sc,1,8,[.pointer none],default⟩:=rfl
@[go_sem] theorem bAa:aI 18=⟨.st [(0,1)],1,8,[.pointer none],default⟩:=rfl
@[go_sem] theorem bAb:aI 19=⟨.st [(0,1)],1,8,[.pointer none],default⟩:=rfl
@[go_sem] theorem bAc:aI 21=⟨.ik .i32,1,4,[.int .i32 0],default⟩:=rfl
@[go_sem] theorem bAd:aI 22=⟨.sli 5 1 1 [.int .u8 0],1,24,[.slice none 0 0], .v (.int .u8 0)⟩:=rfl
@[go_sem] theorem bAe:aI 24=⟨.sli 2 1 8 [.int .i64 0],1,24,[.slice none 0 0], .v (.int .i64 0)⟩:=rfl
@[go_sem] theorem bAf:aI 25=⟨.sli 24 1 24 [.slice none 0 0],1,24,[.slice none 0 0], .sl 1 (.v (.int .i64 0)) []⟩:=rfl
@[go_sem] theorem bAg:aI 26=⟨.st [(0,1),(1,1),(2,1),(3,1),(4,1)],5,104,[.int .i64 0, .slice none 0 0, .slice none 0 0, .slice none 0 0, .slice none 0 0],default⟩:=rfl
@[go_sem] theorem bAi:aI 27=⟨.st [(0,1),(1,1),(2,1),(3,1),(4,1)],5,104,[.int .i64 0, .slice none 0 0, .slice none 0 0, .slice none 0 0, .slice none 0 0],default⟩:=rfl
@[go_sem] theorem bAj:aI 30=⟨.st [(0,5),(5,5),(10,1),(11,1)],12,256,[.int .i64 0, .slice none 0 0, .slice none 0 0, .slice none 0 0, .slice none 0 0, .int .i64 0, .slice none 0 0, .slice none 0 0, .slice none 0 0, .slice none 0 0, .slice none 0 0, .slice none 0 0],default⟩:=rfl
@[go_sem] theorem bAk:aI 31=⟨.st [(0,5),(5,5),(10,1),(11,1)],12,256,[.int .i64 0, .slice none 0 0, .slice none 0 0, .slice none 0 0, .slice none 0 0, .int .i64 0, .slice none 0 0, .slice none 0 0, .slice none 0 0, .slice none 0 0, .slice none 0 0, .slice none 0 0],default⟩:=rfl
@[go_sem] theorem bAl:aI 35=⟨.sc,1,8,[.pointer none],default⟩:=rfl
@[go_sem] theorem bAm:aI 37=⟨.ik .u64,1,8,[.int .u64 0],default⟩:=rfl
@[go_sem] theorem bAn:aI 39=⟨.sc,1,8,[.nilFunc],default⟩:=rfl
@[go_sem] theorem bAo:aI 45=⟨.sli 31 12 256 [.int .i64 0, .slice none 0 0, .slice none 0 0, .slice none 0 0, .slice none 0 0, .int .i64 0, .slice none 0 0, .slice none 0 0, .slice none 0 0, .slice none 0 0, .slice none 0 0, .slice none 0 0],1,24,[.slice none 0 0], .v (.int .i64 0)⟩:=rfl
@[go_sem] theorem bAp:aI 63=⟨.st [(0,5),(5,1),(6,1)],7,152,[.int .i64 0, .slice none 0 0, .slice none 0 0, .slice none 0 0, .slice none 0 0, .slice none 0 0, .slice none 0 0],default⟩:=rfl
@[go_sem] theorem bAq:aI 64=⟨.st [(0,5),(5,1),(6,1)],7,152,[.int .i64 0, .slice none 0 0, .slice none 0 0, .slice none 0 0, .slice none 0 0, .slice none 0 0, .slice none 0 0],default⟩:=rfl
@[go_sem] theorem bAr:aI 65=⟨.st [(0,7),(7,7),(14,1)],15,328,[.int .i64 0, .slice none 0 0, .slice none 0 0, .slice none 0 0, .slice none 0 0, .slice none 0 0, .slice none 0 0, .int .i64 0, .slice none 0 0, .slice none 0 0, .slice none 0 0, .slice none 0 0, .slice none 0 0, .slice none 0 0, .slice none 0 0],default⟩:=rfl
@[go_sem] theorem bAs:aI 66=⟨.st [(0,7),(7,7),(14,1)],15,328,[.int .i64 0, .slice none 0 0, .slice none 0 0, .slice none 0 0, .slice none 0 0, .slice none 0 0, .slice none 0 0, .int .i64 0, .slice none 0 0, .slice none 0 0, .slice none 0 0, .slice none 0 0, .slice none 0 0, .slice none 0 0, .slice none 0 0],default⟩:=rfl
@[go_sem] theorem bAt:aI 79=⟨.sli 25 1 24 [.slice none 0 0],1,24,[.slice none 0 0], .sl 1 (.sl 1 (.v (.int .i64 0)) []) []⟩:=rfl
@[go_sem] theorem bAu:aI 85=⟨.sc,1,8,[.nilFunc],default⟩:=rfl
@[go_sem] theorem bAv:aI 95=⟨.sc,1,8,[.nilFunc],default⟩:=rfl
@[go_sem] theorem bAw:aI 97=⟨.st [(0,12),(12,12),(24,1),(25,1)],26,560,[.int .i64 0, .slice none 0 0, .slice none 0 0, .slice none 0 0, .slice none 0 0, .int .i64 0, .slice none 0 0, .slice none 0 0, .slice none 0 0, .slice none 0 0, .slice none 0 0, .slice none 0 0, .int .i64 0, .slice none 0 0, .slice none 0 0, .slice none 0 0, .slice none 0 0, .int .i64 0, .slice none 0 0, .slice none 0 0, .slice none 0 0, .slice none 0 0, .slice none 0 0, .slice none 0 0, .slice none 0 0, .slice none 0 0],default⟩:=rfl
@[go_sem] theorem bAx:aI 98=⟨.st [(0,12),(12,12),(24,1),(25,1)],26,560,[.int .i64 0, .slice none 0 0, .slice none 0 0, .slice none 0 0, .slice none 0 0, .int .i64 0, .slice none 0 0, .slice none 0 0, .slice none 0 0, .slice none 0 0, .slice none 0 0, .slice none 0 0, .int .i64 0, .slice none 0 0, .slice none 0 0, .slice none 0 0, .slice none 0 0, .int .i64 0, .slice none 0 0, .slice none 0 0, .slice none 0 0, .slice none 0 0, .slice none 0 0, .slice none 0 0, .slice none 0 0, .slice none 0 0],default⟩:=rfl
@[go_sem] theorem aXB:aI 101=⟨.sli 27 5 104 [.int .i64 0, .slice none 0 0, .slice none 0 0, .slice none 0 0, .slice none 0 0],1,24,[.slice none 0 0], .v (.int .i64 0)⟩:=rfl
@[go_sem] theorem aXC:aI 109=⟨.sc,1,8,[.pointer none],default⟩:=rfl
@[go_sem] theorem aXD:aI 112=⟨.sc,1,8,[.pointer none],default⟩:=rfl
@[go_sem] theorem aXE:aI 113=⟨.sc,1,8,[.pointer none],default⟩:=rfl
@[go_sem] theorem aXF:aI 116=⟨.sc,1,8,[.nilFunc],default⟩:=rfl
@[go_sem] theorem aXG:aI 118=⟨.sc,1,8,[.nilFunc],default⟩:=rfl
@[go_sem] theorem aXH:aI 119=⟨.sc,1,8,[.nilFunc],default⟩:=rfl
@[go_sem] theorem aXI:aI 121=⟨.sc,1,8,[.map none],default⟩:=rfl
@[go_sem] theorem aXJ:aI 122=⟨.st [(0,5),(5,1),(6,1),(7,1)],8,160,[.int .i64 0, .slice none 0 0, .slice none 0 0, .slice none 0 0, .slice none 0 0, .slice none 0 0, .slice none 0 0, .map none],default⟩:=rfl
@[go_sem] theorem aXK:aI 123=⟨.st [(0,5),(5,1),(6,1),(7,1)],8,160,[.int .i64 0, .slice none 0 0, .slice none 0 0, .slice none 0 0, .slice none 0 0, .slice none 0 0, .slice none 0 0, .map none],default⟩:=rfl
@[go_sem] theorem aXL:aI 124=⟨.st [(0,5),(5,1),(6,1)],7,152,[.int .i64 0, .slice none 0 0, .slice none 0 0, .slice none 0 0, .slice none 0 0, .slice none 0 0, .slice none 0 0],default⟩:=rfl
@[go_sem] theorem aXM:aI 125=⟨.st [(0,5),(5,1),(6,1)],7,152,[.int .i64 0, .slice none 0 0, .slice none 0 0, .slice none 0 0, .slice none 0 0, .slice none 0 0, .slice none 0 0],default⟩:=rfl
@[go_sem] theorem aXN:aI 132=⟨.st [(0,1),(1,1),(2,1)],3,40,[.slice none 0 0, .int .i64 0, .int .u64 0],default⟩:=rfl
@[go_sem] theorem aXO:aI 133=⟨.st [(0,1),(1,1),(2,1)],3,40,[.slice none 0 0, .int .i64 0, .int .u64 0],default⟩:=rfl
@[go_sem] theorem aXP:aI 134=⟨.sc,1,8,[.nilFunc],default⟩:=rfl
@[go_sem] theorem aXQ:aI 135=⟨.ik .u64,1,8,[.int .u64 0],default⟩:=rfl
@[go_sem] theorem aXR:aI 137=⟨.sc,1,8,[.pointer none],default⟩:=rfl
@[go_sem] theorem aXS:aI 140=⟨.sc,1,8,[.nilFunc],default⟩:=rfl
@[go_sem] theorem aXT:aI 144=⟨.sli 2 1 8 [.int .i64 0],1,24,[.slice none 0 0], .v (.int .i64 0)⟩:=rfl
@[go_sem] theorem aXU:aI 146=⟨.sc,1,8,[.nilFunc],default⟩:=rfl
@[go_sem] theorem aXV:aI 147=⟨.sli 2 1 8 [.int .i64 0],1,24,[.slice none 0 0], .v (.int .i64 0)⟩:=rfl
@[go_sem] theorem aXW:aI 159=⟨.sc,1,8,[.pointer none],default⟩:=rfl
@[go_sem] theorem aXX:aI 162=⟨.sc,1,8,[.nilFunc],default⟩:=rfl
@[go_sem] theorem aXY:aI 167=⟨.sc,1,8,[.pointer none],default⟩:=rfl
@[go_sem] theorem aXZ:aI 172=⟨.sc,1,8,[.nilFunc],default⟩:=rfl
@[go_sem] theorem aX0:aI 180=⟨.sc,1,8,[.nilFunc],default⟩:=rfl
@[go_sem] theorem aX1:aI 188=⟨.sc,1,8,[.pointer none],default⟩:=rfl
@[go_sem] theorem aX2:aI 191=⟨.st [(0,5),(5,1),(6,1),(7,1),(8,1)],9,168,[.int .i64 0, .slice none 0 0, .slice none 0 0, .slice none 0 0, .slice none 0 0, .slice none 0 0, .slice none 0 0, .map none, .map none],default⟩:=rfl
@[go_sem] theorem aX3:aI 192=⟨.st [(0,5),(5,1),(6,1),(7,1),(8,1)],9,168,[.int .i64 0, .slice none 0 0, .slice none 0 0, .slice none 0 0, .slice none 0 0, .slice none 0 0, .slice none 0 0, .map none, .map none],default⟩:=rfl
@[go_sem] theorem aX4:aI 198=⟨.sc,1,8,[.pointer none],default⟩:=rfl
@[go_sem] theorem aX5:aI 210=⟨.sc,1,8,[.nilFunc],default⟩:=rfl
@[go_sem] theorem aX6:aI 213=⟨.st [(0,1),(1,1),(2,1)],3,40,[.slice none 0 0, .int .i64 0, .int .u64 0],default⟩:=rfl
@[go_sem] theorem aX7:aI 214=⟨.st [(0,1),(1,1),(2,1)],3,40,[.slice none 0 0, .int .i64 0, .int .u64 0],default⟩:=rfl
@[go_sem] theorem aX8:aI 215=⟨.sli 112 1 8 [.pointer none],1,24,[.slice none 0 0], .v (.pointer none)⟩:=rfl
@[go_sem] theorem aX9:aI 226=⟨.sc,1,8,[.nilFunc],default⟩:=rfl
@[go_sem] theorem aYa:aI 228=⟨.sli 137 1 8 [.pointer none],1,24,[.slice none 0 0], .v (.pointer none)⟩:=rfl
@[go_sem] theorem aYb:aI 235=⟨.sc,1,8,[.nilFunc],default⟩:=rfl
@[go_sem] theorem aYc:aI 236=⟨.sc,1,8,[.nilFunc],default⟩:=rfl
@[go_sem] theorem aYd:aI 237=⟨.sc,1,8,[.pointer none],default⟩:=rfl
@[go_sem] theorem aYe:aI 241=⟨.ik .u32,1,4,[.int .u32 0],default⟩:=rfl
@[go_sem] theorem aYf:aI 244=⟨.st [(0,1),(1,1)],2,8,[.int .i32 0, .int .u32 0],default⟩:=rfl
@[go_sem] theorem aYg:aI 245=⟨.st [(0,1),(1,1)],2,8,[.int .i32 0, .int .u32 0],default⟩:=rfl
@[go_sem] theorem aYi:aI 250=⟨.st [(0,1),(1,1),(2,3),(5,1)],6,56,[.pointer none, .int .i64 0, .int .u32 0, .int .i32 0, .int .u32 0, .slice none 0 0],default⟩:=rfl
@[go_sem] theorem aYj:aI 251=⟨.st [(0,1),(1,1),(2,3),(5,1)],6,56,[.pointer none, .int .i64 0, .int .u32 0, .int .i32 0, .int .u32 0, .slice none 0 0],default⟩:=rfl
@[go_sem] theorem aYk:aI 258=⟨.sli 167 1 8 [.pointer none],1,24,[.slice none 0 0], .v (.pointer none)⟩:=rfl
@[go_sem] theorem aYl:aI 263=⟨.sc,1,8,[.nilFunc],default⟩:=rfl
@[go_sem] theorem aYm:aI 265=⟨.sc,1,8,[.pointer none],default⟩:=rfl
@[go_sem] theorem aYn:aI 266=⟨.st [(0,7),(7,7),(14,1),(15,1),(16,1)],17,344,[.int .i64 0, .slice none 0 0, .slice none 0 0, .slice none 0 0, .slice none 0 0, .slice none 0 0, .slice none 0 0, .int .i64 0, .slice none 0 0, .slice none 0 0, .slice none 0 0, .slice none 0 0, .slice none 0 0, .slice none 0 0, .bool false, .int .i64 0, .slice none 0 0],default⟩:=rfl
@[go_sem] theorem aYo:aI 267=⟨.st [(0,7),(7,7),(14,1),(15,1),(16,1)],17,344,[.int .i64 0, .slice none 0 0, .slice none 0 0, .slice none 0 0, .slice none 0 0, .slice none 0 0, .slice none 0 0, .int .i64 0, .slice none 0 0, .slice none 0 0, .slice none 0 0, .slice none 0 0, .slice none 0 0, .slice none 0 0, .bool false, .int .i64 0, .slice none 0 0],default⟩:=rfl
@[go_sem] theorem aYp:aI 276=⟨.sc,1,8,[.nilFunc],default⟩:=rfl
@[go_sem] theorem aYq:aI 278=⟨.sc,1,8,[.nilFunc],default⟩:=rfl
@[go_sem] theorem aYr:aI 282=⟨.sli 290 2 32 [.int .i64 0, .slice none 0 0],1,24,[.slice none 0 0], .v (.int .i64 0)⟩:=rfl
@[go_sem] theorem aYs:aI 283=⟨.st [(0,12),(12,12),(24,1),(25,1),(26,1)],27,568,[.int .i64 0, .slice none 0 0, .slice none 0 0, .slice none 0 0, .slice none 0 0, .int .i64 0, .slice none 0 0, .slice none 0 0, .slice none 0 0, .slice none 0 0, .slice none 0 0, .slice none 0 0, .int .i64 0, .slice none 0 0, .slice none 0 0, .slice none 0 0, .slice none 0 0, .int .i64 0, .slice none 0 0, .slice none 0 0, .slice none 0 0, .slice none 0 0, .slice none 0 0, .slice none 0 0, .pointer none, .slice none 0 0, .slice none 0 0],default⟩:=rfl
@[go_sem] theorem aYt:aI 284=⟨.st [(0,12),(12,12),(24,1),(25,1),(26,1)],27,568,[.int .i64 0, .slice none 0 0, .slice none 0 0, .slice none 0 0, .slice none 0 0, .int .i64 0, .slice none 0 0, .slice none 0 0, .slice none 0 0, .slice none 0 0, .slice none 0 0, .slice none 0 0, .int .i64 0, .slice none 0 0, .slice none 0 0, .slice none 0 0, .slice none 0 0, .int .i64 0, .slice none 0 0, .slice none 0 0, .slice none 0 0, .slice none 0 0, .slice none 0 0, .slice none 0 0, .pointer none, .slice none 0 0, .slice none 0 0],default⟩:=rfl
@[go_sem] theorem aYu:aI 289=⟨.st [(0,1),(1,1)],2,32,[.int .i64 0, .slice none 0 0],default⟩:=rfl
@[go_sem] theorem aYv:aI 290=⟨.st [(0,1),(1,1)],2,32,[.int .i64 0, .slice none 0 0],default⟩:=rfl
@[go_sem] theorem aYw:aI 291=⟨.sc,1,8,[.pointer none],default⟩:=rfl
@[go_sem] theorem aYx:aI 295=⟨.sc,1,8,[.pointer none],default⟩:=rfl
@[go_sem] theorem aYy:aI 296=⟨.st [(0,5),(5,5),(10,1),(11,1),(12,1),(13,1)],14,288,[.int .i64 0, .slice none 0 0, .slice none 0 0, .slice none 0 0, .slice none 0 0, .int .i64 0, .slice none 0 0, .slice none 0 0, .slice none 0 0, .slice none 0 0, .slice none 0 0, .slice none 0 0, .int .i64 0, .slice none 0 0],default⟩:=rfl
@[go_sem] theorem aYz:aI 297=⟨.st [(0,5),(5,5),(10,1),(11,1),(12,1),(13,1)],14,288,[.int .i64 0, .slice none 0 0, .slice none 0 0, .slice none 0 0, .slice none 0 0, .int .i64 0, .slice none 0 0, .slice none 0 0, .slice none 0 0, .slice none 0 0, .slice none 0 0, .slice none 0 0, .int .i64 0, .slice none 0 0],default⟩:=rfl
@[go_sem] theorem aYA:aI 302=⟨.ar 8 1,8,64,[.int .i64 0, .int .i64 0, .int .i64 0, .int .i64 0, .int .i64 0, .int .i64 0, .int .i64 0, .int .i64 0],default⟩:=rfl
@[go_sem] theorem aYB:aI 311=⟨.sc,1,8,[.nilFunc],default⟩:=rfl
@[go_sem] theorem aYC:aI 315=⟨.st [(0,1),(1,1)],2,16,[.int .i64 0, .int .i64 0],default⟩:=rfl
@[go_sem] theorem aYD:aI 316=⟨.st [(0,1),(1,1)],2,16,[.int .i64 0, .int .i64 0],default⟩:=rfl
@[go_sem] theorem aYE:aI 318=⟨.sc,1,8,[.map none],default⟩:=rfl
@[go_sem] theorem aYF:aI 323=⟨.sli 159 1 8 [.pointer none],1,24,[.slice none 0 0], .v (.pointer none)⟩:=rfl
@[go_sem] theorem aYG:aI 324=⟨.sc,1,8,[.pointer none],default⟩:=rfl
@[go_sem] theorem aYH:aI 325=⟨.st [(0,1),(1,1),(2,1),(3,1),(4,1)],5,56,[.pointer none, .pointer none, .bool false, .slice none 0 0, .nilFunc],default⟩:=rfl
@[go_sem] theorem aYI:aI 326=⟨.st [(0,1),(1,1),(2,1),(3,1),(4,1)],5,56,[.pointer none, .pointer none, .bool false, .slice none 0 0, .nilFunc],default⟩:=rfl
@[go_sem] theorem aYJ:aI 329=⟨.sli 4 1 1 [.bool false],1,24,[.slice none 0 0], .v (.bool false)⟩:=rfl
@[go_sem] theorem aYK:aI 331=⟨.sc,1,8,[.nilFunc],default⟩:=rfl
@[go_sem] theorem aYL:aI 342=⟨.st [(0,1),(1,1),(2,1),(3,1),(4,1),(5,1)],6,80,[.pointer none, .pointer none, .slice none 0 0, .slice none 0 0, .bool false, .nilFunc],default⟩:=rfl
@[go_sem] theorem aYM:aI 343=⟨.st [(0,1),(1,1),(2,1),(3,1),(4,1),(5,1)],6,80,[.pointer none, .pointer none, .slice none 0 0, .slice none 0 0, .bool false, .nilFunc],default⟩:=rfl
@[go_sem] theorem aYN:aI 350=⟨.sc,1,8,[.pointer none],default⟩:=rfl
@[go_sem] theorem aYO:aI 359=⟨.sc,1,8,[.pointer none],default⟩:=rfl
@[go_sem] theorem aYP:aI 360=⟨.st [(0,12),(12,12),(24,1),(25,1),(26,1)],27,552,[.int .i64 0, .slice none 0 0, .slice none 0 0, .slice none 0 0, .slice none 0 0, .int .i64 0, .slice none 0 0, .slice none 0 0, .slice none 0 0, .slice none 0 0, .slice none 0 0, .slice none 0 0, .int .i64 0, .slice none 0 0, .slice none 0 0, .slice none 0 0, .slice none 0 0, .int .i64 0, .slice none 0 0, .slice none 0 0, .slice none 0 0, .slice none 0 0, .slice none 0 0, .slice none 0 0, .bool false, .int .i64 0, .slice none 0 0],default⟩:=rfl
@[go_sem] theorem aYQ:aI 361=⟨.st [(0,12),(12,12),(24,1),(25,1),(26,1)],27,552,[.int .i64 0, .slice none 0 0, .slice none 0 0, .slice none 0 0, .slice none 0 0, .int .i64 0, .slice none 0 0, .slice none 0 0, .slice none 0 0, .slice none 0 0, .slice none 0 0, .slice none 0 0, .int .i64 0, .slice none 0 0, .slice none 0 0, .slice none 0 0, .slice none 0 0, .int .i64 0, .slice none 0 0, .slice none 0 0, .slice none 0 0, .slice none 0 0, .slice none 0 0, .slice none 0 0, .bool false, .int .i64 0, .slice none 0 0],default⟩:=rfl
@[go_sem] theorem aYR:aI 363=⟨.sc,1,8,[.pointer none],default⟩:=rfl
@[go_sem] theorem aYS:aI 365=⟨.sli 369 2 16 [.int .i64 0, .int .i64 0],1,24,[.slice none 0 0], .v (.int .i64 0)⟩:=rfl
@[go_sem] theorem aYT:aI 367=⟨.sc,1,8,[.pointer none],default⟩:=rfl
@[go_sem] theorem aYU:aI 368=⟨.st [(0,1),(1,1)],2,16,[.int .i64 0, .int .i64 0],default⟩:=rfl
@[go_sem] theorem aYV:aI 369=⟨.st [(0,1),(1,1)],2,16,[.int .i64 0, .int .i64 0],default⟩:=rfl
@[go_sem] theorem aYW:aI 370=⟨.sc,1,8,[.map none],default⟩:=rfl
@[go_sem] theorem aYX:aI 373=⟨.sc,1,8,[.nilFunc],default⟩:=rfl
@[go_sem] theorem aYY:aI 377=⟨.sli 380 3 40 [.int .i64 0, .int .i64 0, .slice none 0 0],1,24,[.slice none 0 0], .v (.int .i64 0)⟩:=rfl
@[go_sem] theorem aYZ:aI 379=⟨.st [(0,1),(1,1),(2,1)],3,40,[.int .i64 0, .int .i64 0, .slice none 0 0],default⟩:=rfl
@[go_sem] theorem aY0:aI 380=⟨.st [(0,1),(1,1),(2,1)],3,40,[.int .i64 0, .int .i64 0, .slice none 0 0],default⟩:=rfl
@[go_sem] theorem aY1:aI 382=⟨.sc,1,8,[.pointer none],default⟩:=rfl
@[go_sem] theorem aY2:aI 384=⟨.sc,1,8,[.pointer none],default⟩:=rfl
@[go_sem] theorem aY3:aI 389=⟨.sc,1,8,[.pointer none],default⟩:=rfl
@[go_sem] theorem aY4:aI 393=⟨.sc,1,8,[.pointer none],default⟩:=rfl
@[go_sem] theorem aY5:aI 395=⟨.sc,1,8,[.pointer none],default⟩:=rfl
@[go_sem] theorem aY6:aI 400=⟨.sc,1,8,[.nilFunc],default⟩:=rfl
@[go_sem] theorem aY7:aI 404=⟨.st [(0,1),(1,1),(2,1),(3,1)],4,40,[.pointer none, .pointer none, .pointer none, .string ⟨#[]⟩],default⟩:=rfl
@[go_sem] theorem aY8:aI 405=⟨.st [(0,1),(1,1),(2,1),(3,1)],4,40,[.pointer none, .pointer none, .pointer none, .string ⟨#[]⟩],default⟩:=rfl
@[go_sem] theorem aY9:aI 410=⟨.ik .u8,1,1,[.int .u8 0],default⟩:=rfl
@[go_sem] theorem aZa:aI 411=⟨.ik .u8,1,1,[.int .u8 0],default⟩:=rfl
@[go_sem] theorem aZb:aI 413=⟨.sc,1,8,[.pointer none],default⟩:=rfl
@[go_sem] theorem aZc:aI 414=⟨.ik .i32,1,4,[.int .i32 0],default⟩:=rfl
@[go_sem] theorem aZd:aI 415=⟨.ik .i32,1,4,[.int .i32 0],default⟩:=rfl
@[go_sem] theorem aZe:aI 416=⟨.st [(0,1),(1,1),(2,1),(3,1),(4,1),(5,1),(6,1),(7,1),(8,1),(9,1),(10,1)],11,48,[.int .u64 0, .int .u64 0, .int .u32 0, .int .u8 0, .int .u8 0, .int .u8 0, .int .u8 0, .nilFunc, .pointer none, .int .i32 0, .int .i32 0],default⟩:=rfl
@[go_sem] theorem aZf:aI 417=⟨.st [(0,1),(1,1),(2,1),(3,1),(4,1),(5,1),(6,1),(7,1),(8,1),(9,1),(10,1)],11,48,[.int .u64 0, .int .u64 0, .int .u32 0, .int .u8 0, .int .u8 0, .int .u8 0, .int .u8 0, .nilFunc, .pointer none, .int .i32 0, .int .i32 0],default⟩:=rfl
set_option maxRecDepth 100000 in
theorem ty2:aP Tryz.prog 2 (aI 2):=⟨⟨_,_,Tryz.type2,rfl,rfl,rfl,rfl⟩,Tryz.underlying2⟩
set_option maxRecDepth 100000 in
theorem ty3:aP Tryz.prog 3 (aI 3):=⟨⟨_,_,Tryz.type3,rfl,rfl,rfl,rfl⟩,Tryz.underlying3⟩
set_option maxRecDepth 100000 in
theorem ty4:aP Tryz.prog 4 (aI 4):=⟨⟨_,_,Tryz.type4,rfl,rfl,rfl,rfl⟩,Tryz.underlying4⟩
set_option maxRecDepth 100000 in
theorem ty5:aP Tryz.prog 5 (aI 5):=⟨⟨_,_,Tryz.type5,rfl,rfl,rfl,rfl⟩,Tryz.underlying5⟩
set_option maxRecDepth 100000 in
theorem ty6:aP Tryz.prog 6 (aI 6):=⟨⟨_,_,Tryz.type6,rfl,rfl,rfl,rfl⟩,Tryz.underlying6⟩
set_option maxRecDepth 100000 in
theorem ty7:aP Tryz.prog 7 (aI 7):=⟨⟨_,_,Tryz.type7,rfl,rfl,rfl,rfl⟩,_,Tryz.underlying7,rfl,by kernel_rfl,rfl⟩
set_option maxRecDepth 100000 in
theorem ty8:aP Tryz.prog 8 (aI 8):=⟨⟨_,_,Tryz.type8,rfl,rfl,rfl,rfl⟩,_,Tryz.underlying8,rfl,by kernel_rfl,rfl⟩
set_option maxRecDepth 100000 in
theorem ty9:aP Tryz.prog 9 (aI 9):=⟨⟨_,_,Tryz.type9,rfl,rfl,rfl,rfl⟩,Tryz.underlying9⟩
set_option maxRecDepth 100000 in
theorem bAy:aP Tryz.prog 10 (aI 10):=⟨⟨_,_,Tryz.type10,rfl,rfl,rfl,rfl⟩,Tryz.underlying10⟩
set_option maxRecDepth 100000 in
theorem bAz:aP Tryz.prog 11 (aI 11):=⟨⟨_,_,Tryz.type11,rfl,rfl,rfl,rfl⟩,Tryz.underlying11⟩
set_option maxRecDepth 100000 in
theorem bAA:aP Tryz.prog 12 (aI 12):=⟨⟨_,_,Tryz.type12,rfl,rfl,rfl,rfl⟩,Tryz.underlying12⟩
set_option maxRecDepth 100000 in
theorem bAB:aP Tryz.prog 13 (aI 13):=⟨⟨_,_,Tryz.type13,rfl,rfl,rfl,rfl⟩,_,Tryz.underlying13,rfl,by kernel_rfl,rfl⟩
set_option maxRecDepth 100000 in
theorem bAC:aP Tryz.prog 14 (aI 14):=⟨⟨_,_,Tryz.type14,rfl,rfl,rfl,rfl⟩,_,Tryz.underlying14,rfl,by kernel_rfl,rfl⟩
set_option maxRecDepth 100000 in
theorem bAD:aP Tryz.prog 15 (aI 15):=⟨⟨_,_,Tryz.type15,rfl,rfl,rfl,rfl⟩,_,Tryz.underlying15,trivial⟩
set_option maxRecDepth 100000 in
theorem bAE:aP Tryz.prog 16 (aI 16):=⟨⟨_,_,Tryz.type16,rfl,rfl,rfl,rfl⟩,_,Tryz.underlying16,trivial⟩
set_option maxRecDepth 100000 in
theorem bAF:aP Tryz.prog 17 (aI 17):=⟨⟨_,_,Tryz.type17,rfl,rfl,rfl,rfl⟩,_,Tryz.underlying17,trivial⟩
set_option maxRecDepth 100000 in
theorem bAG:aP Tryz.prog 18 (aI 18):=⟨⟨_,_,Tryz.type18,rfl,rfl,rfl,rfl⟩,_,Tryz.underlying18,rfl,by kernel_rfl,rfl⟩
set_option maxRecDepth 100000 in
theorem bAH:aP Tryz.prog 19 (aI 19):=⟨⟨_,_,Tryz.type19,rfl,rfl,rfl,rfl⟩,_,Tryz.underlying19,rfl,by kernel_rfl,rfl⟩
set_option maxRecDepth 100000 in
theorem bAI:aP Tryz.prog 21 (aI 21):=⟨⟨_,_,Tryz.type21,rfl,rfl,rfl,rfl⟩,Tryz.underlying21⟩
set_option maxRecDepth 100000 in
theorem bAJ:aP Tryz.prog 22 (aI 22):=⟨⟨_,_,Tryz.type22,rfl,rfl,rfl,rfl⟩,Tryz.underlying22,⟨_,_,Tryz.type5,rfl,rfl,rfl,rfl⟩⟩
set_option maxRecDepth 100000 in
theorem bAK:aP Tryz.prog 24 (aI 24):=⟨⟨_,_,Tryz.type24,rfl,rfl,rfl,rfl⟩,Tryz.underlying24,⟨_,_,Tryz.type2,rfl,rfl,rfl,rfl⟩⟩
set_option maxRecDepth 100000 in
theorem bAL:aP Tryz.prog 25 (aI 25):=⟨⟨_,_,Tryz.type25,rfl,rfl,rfl,rfl⟩,Tryz.underlying25,⟨_,_,Tryz.type24,rfl,rfl,rfl,rfl⟩⟩
set_option maxRecDepth 100000 in
theorem bAM:aP Tryz.prog 26 (aI 26):=⟨⟨_,_,Tryz.type26,rfl,rfl,rfl,rfl⟩,_,Tryz.underlying26,rfl,by kernel_rfl,rfl⟩
set_option maxRecDepth 100000 in
theorem bAN:aP Tryz.prog 27 (aI 27):=⟨⟨_,_,Tryz.type27,rfl,rfl,rfl,rfl⟩,_,Tryz.underlying27,rfl,by kernel_rfl,rfl⟩
set_option maxRecDepth 100000 in
theorem bAO:aP Tryz.prog 30 (aI 30):=⟨⟨_,_,Tryz.type30,rfl,rfl,rfl,rfl⟩,_,Tryz.underlying30,rfl,by kernel_rfl,rfl⟩
set_option maxRecDepth 100000 in
theorem bAP:aP Tryz.prog 31 (aI 31):=⟨⟨_,_,Tryz.type31,rfl,rfl,rfl,rfl⟩,_,Tryz.underlying31,rfl,by kernel_rfl,rfl⟩
set_option maxRecDepth 100000 in
theorem bAQ:aP Tryz.prog 35 (aI 35):=⟨⟨_,_,Tryz.type35,rfl,rfl,rfl,rfl⟩,_,Tryz.underlying35,trivial⟩
set_option maxRecDepth 100000 in
theorem bAR:aP Tryz.prog 37 (aI 37):=⟨⟨_,_,Tryz.type37,rfl,rfl,rfl,rfl⟩,Tryz.underlying37⟩
set_option maxRecDepth 100000 in
theorem bAS:aP Tryz.prog 39 (aI 39):=⟨⟨_,_,Tryz.type39,rfl,rfl,rfl,rfl⟩,_,Tryz.underlying39,trivial⟩
set_option maxRecDepth 100000 in
theorem bAT:aP Tryz.prog 45 (aI 45):=⟨⟨_,_,Tryz.type45,rfl,rfl,rfl,rfl⟩,Tryz.underlying45,⟨_,_,Tryz.type31,rfl,rfl,rfl,rfl⟩⟩
set_option maxRecDepth 100000 in
theorem bAU:aP Tryz.prog 63 (aI 63):=⟨⟨_,_,Tryz.type63,rfl,rfl,rfl,rfl⟩,_,Tryz.underlying63,rfl,by kernel_rfl,rfl⟩
set_option maxRecDepth 100000 in
theorem bAV:aP Tryz.prog 64 (aI 64):=⟨⟨_,_,Tryz.type64,rfl,rfl,rfl,rfl⟩,_,Tryz.underlying64,rfl,by kernel_rfl,rfl⟩
set_option maxRecDepth 100000 in
theorem bAW:aP Tryz.prog 65 (aI 65):=⟨⟨_,_,Tryz.type65,rfl,rfl,rfl,rfl⟩,_,Tryz.underlying65,rfl,by kernel_rfl,rfl⟩
set_option maxRecDepth 100000 in
theorem bAX:aP Tryz.prog 66 (aI 66):=⟨⟨_,_,Tryz.type66,rfl,rfl,rfl,rfl⟩,_,Tryz.underlying66,rfl,by kernel_rfl,rfl⟩
set_option maxRecDepth 100000 in
theorem bAY:aP Tryz.prog 79 (aI 79):=⟨⟨_,_,Tryz.type79,rfl,rfl,rfl,rfl⟩,Tryz.underlying79,⟨_,_,Tryz.type25,rfl,rfl,rfl,rfl⟩⟩
set_option maxRecDepth 100000 in
theorem bAZ:aP Tryz.prog 85 (aI 85):=⟨⟨_,_,Tryz.type85,rfl,rfl,rfl,rfl⟩,_,Tryz.underlying85,trivial⟩
set_option maxRecDepth 100000 in
theorem bA0:aP Tryz.prog 95 (aI 95):=⟨⟨_,_,Tryz.type95,rfl,rfl,rfl,rfl⟩,_,Tryz.underlying95,trivial⟩
set_option maxRecDepth 100000 in
theorem bA1:aP Tryz.prog 97 (aI 97):=⟨⟨_,_,Tryz.type97,rfl,rfl,rfl,rfl⟩,_,Tryz.underlying97,rfl,by kernel_rfl,rfl⟩
set_option maxRecDepth 100000 in
theorem bA2:aP Tryz.prog 98 (aI 98):=⟨⟨_,_,Tryz.type98,rfl,rfl,rfl,rfl⟩,_,Tryz.underlying98,rfl,by kernel_rfl,rfl⟩
set_option maxRecDepth 100000 in
theorem aUR:aP Tryz.prog 101 (aI 101):=⟨⟨_,_,Tryz.type101,rfl,rfl,rfl,rfl⟩,Tryz.underlying101,⟨_,_,Tryz.type27,rfl,rfl,rfl,rfl⟩⟩
set_option maxRecDepth 100000 in
theorem aUS:aP Tryz.prog 109 (aI 109):=⟨⟨_,_,Tryz.type109,rfl,rfl,rfl,rfl⟩,_,Tryz.underlying109,trivial⟩
set_option maxRecDepth 100000 in
theorem aUT:aP Tryz.prog 112 (aI 112):=⟨⟨_,_,Tryz.type112,rfl,rfl,rfl,rfl⟩,_,Tryz.underlying112,trivial⟩
set_option maxRecDepth 100000 in
theorem aUU:aP Tryz.prog 113 (aI 113):=⟨⟨_,_,Tryz.type113,rfl,rfl,rfl,rfl⟩,_,Tryz.underlying113,trivial⟩
set_option maxRecDepth 100000 in
theorem aUV:aP Tryz.prog 116 (aI 116):=⟨⟨_,_,Tryz.type116,rfl,rfl,rfl,rfl⟩,_,Tryz.underlying116,trivial⟩
set_option maxRecDepth 100000 in
theorem aUW:aP Tryz.prog 118 (aI 118):=⟨⟨_,_,Tryz.type118,rfl,rfl,rfl,rfl⟩,_,Tryz.underlying118,trivial⟩
set_option maxRecDepth 100000 in
theorem aUX:aP Tryz.prog 119 (aI 119):=⟨⟨_,_,Tryz.type119,rfl,rfl,rfl,rfl⟩,_,Tryz.underlying119,trivial⟩
set_option maxRecDepth 100000 in
theorem aUY:aP Tryz.prog 121 (aI 121):=⟨⟨_,_,Tryz.type121,rfl,rfl,rfl,rfl⟩,_,Tryz.underlying121,trivial⟩
set_option maxRecDepth 100000 in
theorem aUZ:aP Tryz.prog 122 (aI 122):=⟨⟨_,_,Tryz.type122,rfl,rfl,rfl,rfl⟩,_,Tryz.underlying122,rfl,by kernel_rfl,rfl⟩
set_option maxRecDepth 100000 in
theorem aU0:aP Tryz.prog 123 (aI 123):=⟨⟨_,_,Tryz.type123,rfl,rfl,rfl,rfl⟩,_,Tryz.underlying123,rfl,by kernel_rfl,rfl⟩
set_option maxRecDepth 100000 in
theorem aU1:aP Tryz.prog 124 (aI 124):=⟨⟨_,_,Tryz.type124,rfl,rfl,rfl,rfl⟩,_,Tryz.underlying124,rfl,by kernel_rfl,rfl⟩
set_option maxRecDepth 100000 in
theorem aU2:aP Tryz.prog 125 (aI 125):=⟨⟨_,_,Tryz.type125,rfl,rfl,rfl,rfl⟩,_,Tryz.underlying125,rfl,by kernel_rfl,rfl⟩
set_option maxRecDepth 100000 in
theorem aU3:aP Tryz.prog 132 (aI 132):=⟨⟨_,_,Tryz.type132,rfl,rfl,rfl,rfl⟩,_,Tryz.underlying132,rfl,by kernel_rfl,rfl⟩
set_option maxRecDepth 100000 in
theorem aU4:aP Tryz.prog 133 (aI 133):=⟨⟨_,_,Tryz.type133,rfl,rfl,rfl,rfl⟩,_,Tryz.underlying133,rfl,by kernel_rfl,rfl⟩
set_option maxRecDepth 100000 in
theorem aU5:aP Tryz.prog 134 (aI 134):=⟨⟨_,_,Tryz.type134,rfl,rfl,rfl,rfl⟩,_,Tryz.underlying134,trivial⟩
set_option maxRecDepth 100000 in
theorem aU6:aP Tryz.prog 135 (aI 135):=⟨⟨_,_,Tryz.type135,rfl,rfl,rfl,rfl⟩,Tryz.underlying135⟩
set_option maxRecDepth 100000 in
theorem aU7:aP Tryz.prog 137 (aI 137):=⟨⟨_,_,Tryz.type137,rfl,rfl,rfl,rfl⟩,_,Tryz.underlying137,trivial⟩
set_option maxRecDepth 100000 in
theorem aU8:aP Tryz.prog 140 (aI 140):=⟨⟨_,_,Tryz.type140,rfl,rfl,rfl,rfl⟩,_,Tryz.underlying140,trivial⟩
set_option maxRecDepth 100000 in
theorem aU9:aP Tryz.prog 144 (aI 144):=⟨⟨_,_,Tryz.type144,rfl,rfl,rfl,rfl⟩,Tryz.underlying144,⟨_,_,Tryz.type2,rfl,rfl,rfl,rfl⟩⟩
set_option maxRecDepth 100000 in
theorem aVa:aP Tryz.prog 146 (aI 146):=⟨⟨_,_,Tryz.type146,rfl,rfl,rfl,rfl⟩,_,Tryz.underlying146,trivial⟩
set_option maxRecDepth 100000 in
theorem aVb:aP Tryz.prog 147 (aI 147):=⟨⟨_,_,Tryz.type147,rfl,rfl,rfl,rfl⟩,Tryz.underlying147,⟨_,_,Tryz.type2,rfl,rfl,rfl,rfl⟩⟩
set_option maxRecDepth 100000 in
theorem aVc:aP Tryz.prog 159 (aI 159):=⟨⟨_,_,Tryz.type159,rfl,rfl,rfl,rfl⟩,_,Tryz.underlying159,trivial⟩
set_option maxRecDepth 100000 in
theorem aVd:aP Tryz.prog 162 (aI 162):=⟨⟨_,_,Tryz.type162,rfl,rfl,rfl,rfl⟩,_,Tryz.underlying162,trivial⟩
set_option maxRecDepth 100000 in
theorem aVe:aP Tryz.prog 167 (aI 167):=⟨⟨_,_,Tryz.type167,rfl,rfl,rfl,rfl⟩,_,Tryz.underlying167,trivial⟩
set_option maxRecDepth 100000 in
theorem aVf:aP Tryz.prog 172 (aI 172):=⟨⟨_,_,Tryz.type172,rfl,rfl,rfl,rfl⟩,_,Tryz.underlying172,trivial⟩
set_option maxRecDepth 100000 in
theorem aVg:aP Tryz.prog 180 (aI 180):=⟨⟨_,_,Tryz.type180,rfl,rfl,rfl,rfl⟩,_,Tryz.underlying180,trivial⟩
set_option maxRecDepth 100000 in
theorem aVi:aP Tryz.prog 188 (aI 188):=⟨⟨_,_,Tryz.type188,rfl,rfl,rfl,rfl⟩,_,Tryz.underlying188,trivial⟩
set_option maxRecDepth 100000 in
theorem aVj:aP Tryz.prog 191 (aI 191):=⟨⟨_,_,Tryz.type191,rfl,rfl,rfl,rfl⟩,_,Tryz.underlying191,rfl,by kernel_rfl,rfl⟩
set_option maxRecDepth 100000 in
theorem aVk:aP Tryz.prog 192 (aI 192):=⟨⟨_,_,Tryz.type192,rfl,rfl,rfl,rfl⟩,_,Tryz.underlying192,rfl,by kernel_rfl,rfl⟩
set_option maxRecDepth 100000 in
theorem aVl:aP Tryz.prog 198 (aI 198):=⟨⟨_,_,Tryz.type198,rfl,rfl,rfl,rfl⟩,_,Tryz.underlying198,trivial⟩
set_option maxRecDepth 100000 in
theorem aVm:aP Tryz.prog 210 (aI 210):=⟨⟨_,_,Tryz.type210,rfl,rfl,rfl,rfl⟩,_,Tryz.underlying210,trivial⟩
set_option maxRecDepth 100000 in
theorem aVn:aP Tryz.prog 213 (aI 213):=⟨⟨_,_,Tryz.type213,rfl,rfl,rfl,rfl⟩,_,Tryz.underlying213,rfl,by kernel_rfl,rfl⟩
set_option maxRecDepth 100000 in
theorem aVo:aP Tryz.prog 214 (aI 214):=⟨⟨_,_,Tryz.type214,rfl,rfl,rfl,rfl⟩,_,Tryz.underlying214,rfl,by kernel_rfl,rfl⟩
set_option maxRecDepth 100000 in
theorem aVp:aP Tryz.prog 215 (aI 215):=⟨⟨_,_,Tryz.type215,rfl,rfl,rfl,rfl⟩,Tryz.underlying215,⟨_,_,Tryz.type112,rfl,rfl,rfl,rfl⟩⟩
set_option maxRecDepth 100000 in
theorem aVq:aP Tryz.prog 226 (aI 226):=⟨⟨_,_,Tryz.type226,rfl,rfl,rfl,rfl⟩,_,Tryz.underlying226,trivial⟩
set_option maxRecDepth 100000 in
theorem aVr:aP Tryz.prog 228 (aI 228):=⟨⟨_,_,Tryz.type228,rfl,rfl,rfl,rfl⟩,Tryz.underlying228,⟨_,_,Tryz.type137,rfl,rfl,rfl,rfl⟩⟩
set_option maxRecDepth 100000 in
theorem aVs:aP Tryz.prog 235 (aI 235):=⟨⟨_,_,Tryz.type235,rfl,rfl,rfl,rfl⟩,_,Tryz.underlying235,trivial⟩
set_option maxRecDepth 100000 in
theorem aVt:aP Tryz.prog 236 (aI 236):=⟨⟨_,_,Tryz.type236,rfl,rfl,rfl,rfl⟩,_,Tryz.underlying236,trivial⟩
set_option maxRecDepth 100000 in
theorem aVu:aP Tryz.prog 237 (aI 237):=⟨⟨_,_,Tryz.type237,rfl,rfl,rfl,rfl⟩,_,Tryz.underlying237,trivial⟩
set_option maxRecDepth 100000 in
theorem aVv:aP Tryz.prog 241 (aI 241):=⟨⟨_,_,Tryz.type241,rfl,rfl,rfl,rfl⟩,Tryz.underlying241⟩
set_option maxRecDepth 100000 in
theorem aVw:aP Tryz.prog 244 (aI 244):=⟨⟨_,_,Tryz.type244,rfl,rfl,rfl,rfl⟩,_,Tryz.underlying244,rfl,by kernel_rfl,rfl⟩
set_option maxRecDepth 100000 in
theorem aVx:aP Tryz.prog 245 (aI 245):=⟨⟨_,_,Tryz.type245,rfl,rfl,rfl,rfl⟩,_,Tryz.underlying245,rfl,by kernel_rfl,rfl⟩
set_option maxRecDepth 100000 in
theorem aVy:aP Tryz.prog 250 (aI 250):=⟨⟨_,_,Tryz.type250,rfl,rfl,rfl,rfl⟩,_,Tryz.underlying250,rfl,by kernel_rfl,rfl⟩
set_option maxRecDepth 100000 in
theorem aVz:aP Tryz.prog 251 (aI 251):=⟨⟨_,_,Tryz.type251,rfl,rfl,rfl,rfl⟩,_,Tryz.underlying251,rfl,by kernel_rfl,rfl⟩
set_option maxRecDepth 100000 in
theorem aVA:aP Tryz.prog 258 (aI 258):=⟨⟨_,_,Tryz.type258,rfl,rfl,rfl,rfl⟩,Tryz.underlying258,⟨_,_,Tryz.type167,rfl,rfl,rfl,rfl⟩⟩
set_option maxRecDepth 100000 in
theorem aVB:aP Tryz.prog 263 (aI 263):=⟨⟨_,_,Tryz.type263,rfl,rfl,rfl,rfl⟩,_,Tryz.underlying263,trivial⟩
set_option maxRecDepth 100000 in
theorem aVC:aP Tryz.prog 265 (aI 265):=⟨⟨_,_,Tryz.type265,rfl,rfl,rfl,rfl⟩,_,Tryz.underlying265,trivial⟩
set_option maxRecDepth 100000 in
theorem aVD:aP Tryz.prog 266 (aI 266):=⟨⟨_,_,Tryz.type266,rfl,rfl,rfl,rfl⟩,_,Tryz.underlying266,rfl,by kernel_rfl,rfl⟩
set_option maxRecDepth 100000 in
theorem aVE:aP Tryz.prog 267 (aI 267):=⟨⟨_,_,Tryz.type267,rfl,rfl,rfl,rfl⟩,_,Tryz.underlying267,rfl,by kernel_rfl,rfl⟩
set_option maxRecDepth 100000 in
theorem aVF:aP Tryz.prog 276 (aI 276):=⟨⟨_,_,Tryz.type276,rfl,rfl,rfl,rfl⟩,_,Tryz.underlying276,trivial⟩
set_option maxRecDepth 100000 in
theorem aVG:aP Tryz.prog 278 (aI 278):=⟨⟨_,_,Tryz.type278,rfl,rfl,rfl,rfl⟩,_,Tryz.underlying278,trivial⟩
set_option maxRecDepth 100000 in
theorem aVH:aP Tryz.prog 282 (aI 282):=⟨⟨_,_,Tryz.type282,rfl,rfl,rfl,rfl⟩,Tryz.underlying282,⟨_,_,Tryz.type290,rfl,rfl,rfl,rfl⟩⟩
set_option maxRecDepth 100000 in
theorem aVI:aP Tryz.prog 283 (aI 283):=⟨⟨_,_,Tryz.type283,rfl,rfl,rfl,rfl⟩,_,Tryz.underlying283,rfl,by kernel_rfl,rfl⟩
set_option maxRecDepth 100000 in
theorem aVJ:aP Tryz.prog 284 (aI 284):=⟨⟨_,_,Tryz.type284,rfl,rfl,rfl,rfl⟩,_,Tryz.underlying284,rfl,by kernel_rfl,rfl⟩
set_option maxRecDepth 100000 in
theorem aVK:aP Tryz.prog 289 (aI 289):=⟨⟨_,_,Tryz.type289,rfl,rfl,rfl,rfl⟩,_,Tryz.underlying289,rfl,by kernel_rfl,rfl⟩
set_option maxRecDepth 100000 in
theorem aVL:aP Tryz.prog 290 (aI 290):=⟨⟨_,_,Tryz.type290,rfl,rfl,rfl,rfl⟩,_,Tryz.underlying290,rfl,by kernel_rfl,rfl⟩
set_option maxRecDepth 100000 in
theorem aVM:aP Tryz.prog 291 (aI 291):=⟨⟨_,_,Tryz.type291,rfl,rfl,rfl,rfl⟩,_,Tryz.underlying291,trivial⟩
set_option maxRecDepth 100000 in
theorem aVN:aP Tryz.prog 295 (aI 295):=⟨⟨_,_,Tryz.type295,rfl,rfl,rfl,rfl⟩,_,Tryz.underlying295,trivial⟩
set_option maxRecDepth 100000 in
theorem aVO:aP Tryz.prog 296 (aI 296):=⟨⟨_,_,Tryz.type296,rfl,rfl,rfl,rfl⟩,_,Tryz.underlying296,rfl,by kernel_rfl,rfl⟩
set_option maxRecDepth 100000 in
theorem aVP:aP Tryz.prog 297 (aI 297):=⟨⟨_,_,Tryz.type297,rfl,rfl,rfl,rfl⟩,_,Tryz.underlying297,rfl,by kernel_rfl,rfl⟩
set_option maxRecDepth 100000 in
theorem aVQ:aP Tryz.prog 302 (aI 302):=⟨⟨_,_,Tryz.type302,rfl,rfl,rfl,rfl⟩,_,_,_,Tryz.underlying302,⟨_,_,Tryz.type2,rfl,rfl,rfl,rfl⟩⟩
set_option maxRecDepth 100000 in
theorem aVR:aP Tryz.prog 311 (aI 311):=⟨⟨_,_,Tryz.type311,rfl,rfl,rfl,rfl⟩,_,Tryz.underlying311,trivial⟩
set_option maxRecDepth 100000 in
theorem aVS:aP Tryz.prog 315 (aI 315):=⟨⟨_,_,Tryz.type315,rfl,rfl,rfl,rfl⟩,_,Tryz.underlying315,rfl,by kernel_rfl,rfl⟩
set_option maxRecDepth 100000 in
theorem aVT:aP Tryz.prog 316 (aI 316):=⟨⟨_,_,Tryz.type316,rfl,rfl,rfl,rfl⟩,_,Tryz.underlying316,rfl,by kernel_rfl,rfl⟩
set_option maxRecDepth 100000 in
theorem aVU:aP Tryz.prog 318 (aI 318):=⟨⟨_,_,Tryz.type318,rfl,rfl,rfl,rfl⟩,_,Tryz.underlying318,trivial⟩
set_option maxRecDepth 100000 in
theorem aVV:aP Tryz.prog 323 (aI 323):=⟨⟨_,_,Tryz.type323,rfl,rfl,rfl,rfl⟩,Tryz.underlying323,⟨_,_,Tryz.type159,rfl,rfl,rfl,rfl⟩⟩
set_option maxRecDepth 100000 in
theorem aVW:aP Tryz.prog 324 (aI 324):=⟨⟨_,_,Tryz.type324,rfl,rfl,rfl,rfl⟩,_,Tryz.underlying324,trivial⟩
set_option maxRecDepth 100000 in
theorem aVX:aP Tryz.prog 325 (aI 325):=⟨⟨_,_,Tryz.type325,rfl,rfl,rfl,rfl⟩,_,Tryz.underlying325,rfl,by kernel_rfl,rfl⟩
set_option maxRecDepth 100000 in
theorem aVY:aP Tryz.prog 326 (aI 326):=⟨⟨_,_,Tryz.type326,rfl,rfl,rfl,rfl⟩,_,Tryz.underlying326,rfl,by kernel_rfl,rfl⟩
set_option maxRecDepth 100000 in
theorem aVZ:aP Tryz.prog 329 (aI 329):=⟨⟨_,_,Tryz.type329,rfl,rfl,rfl,rfl⟩,Tryz.underlying329,⟨_,_,Tryz.type4,rfl,rfl,rfl,rfl⟩⟩
set_option maxRecDepth 100000 in
theorem aV0:aP Tryz.prog 331 (aI 331):=⟨⟨_,_,Tryz.type331,rfl,rfl,rfl,rfl⟩,_,Tryz.underlying331,trivial⟩
set_option maxRecDepth 100000 in
theorem aV1:aP Tryz.prog 342 (aI 342):=⟨⟨_,_,Tryz.type342,rfl,rfl,rfl,rfl⟩,_,Tryz.underlying342,rfl,by kernel_rfl,rfl⟩
set_option maxRecDepth 100000 in
theorem aV2:aP Tryz.prog 343 (aI 343):=⟨⟨_,_,Tryz.type343,rfl,rfl,rfl,rfl⟩,_,Tryz.underlying343,rfl,by kernel_rfl,rfl⟩
set_option maxRecDepth 100000 in
theorem aV3:aP Tryz.prog 350 (aI 350):=⟨⟨_,_,Tryz.type350,rfl,rfl,rfl,rfl⟩,_,Tryz.underlying350,trivial⟩
set_option maxRecDepth 100000 in
theorem aV4:aP Tryz.prog 359 (aI 359):=⟨⟨_,_,Tryz.type359,rfl,rfl,rfl,rfl⟩,_,Tryz.underlying359,trivial⟩
set_option maxRecDepth 100000 in
theorem aV5:aP Tryz.prog 360 (aI 360):=⟨⟨_,_,Tryz.type360,rfl,rfl,rfl,rfl⟩,_,Tryz.underlying360,rfl,by kernel_rfl,rfl⟩
set_option maxRecDepth 100000 in
theorem aV6:aP Tryz.prog 361 (aI 361):=⟨⟨_,_,Tryz.type361,rfl,rfl,rfl,rfl⟩,_,Tryz.underlying361,rfl,by kernel_rfl,rfl⟩
set_option maxRecDepth 100000 in
theorem aV7:aP Tryz.prog 363 (aI 363):=⟨⟨_,_,Tryz.type363,rfl,rfl,rfl,rfl⟩,_,Tryz.underlying363,trivial⟩
set_option maxRecDepth 100000 in
theorem aV8:aP Tryz.prog 365 (aI 365):=⟨⟨_,_,Tryz.type365,rfl,rfl,rfl,rfl⟩,Tryz.underlying365,⟨_,_,Tryz.type369,rfl,rfl,rfl,rfl⟩⟩
set_option maxRecDepth 100000 in
theorem aV9:aP Tryz.prog 367 (aI 367):=⟨⟨_,_,Tryz.type367,rfl,rfl,rfl,rfl⟩,_,Tryz.underlying367,trivial⟩
set_option maxRecDepth 100000 in
theorem aWa:aP Tryz.prog 368 (aI 368):=⟨⟨_,_,Tryz.type368,rfl,rfl,rfl,rfl⟩,_,Tryz.underlying368,rfl,by kernel_rfl,rfl⟩
set_option maxRecDepth 100000 in
theorem aWb:aP Tryz.prog 369 (aI 369):=⟨⟨_,_,Tryz.type369,rfl,rfl,rfl,rfl⟩,_,Tryz.underlying369,rfl,by kernel_rfl,rfl⟩
set_option maxRecDepth 100000 in
theorem aWc:aP Tryz.prog 370 (aI 370):=⟨⟨_,_,Tryz.type370,rfl,rfl,rfl,rfl⟩,_,Tryz.underlying370,trivial⟩
set_option maxRecDepth 100000 in
theorem aWd:aP Tryz.prog 373 (aI 373):=⟨⟨_,_,Tryz.type373,rfl,rfl,rfl,rfl⟩,_,Tryz.underlying373,trivial⟩
set_option maxRecDepth 100000 in
theorem aWe:aP Tryz.prog 377 (aI 377):=⟨⟨_,_,Tryz.type377,rfl,rfl,rfl,rfl⟩,Tryz.underlying377,⟨_,_,Tryz.type380,rfl,rfl,rfl,rfl⟩⟩
set_option maxRecDepth 100000 in
theorem aWf:aP Tryz.prog 379 (aI 379):=⟨⟨_,_,Tryz.type379,rfl,rfl,rfl,rfl⟩,_,Tryz.underlying379,rfl,by kernel_rfl,rfl⟩
set_option maxRecDepth 100000 in
theorem aWg:aP Tryz.prog 380 (aI 380):=⟨⟨_,_,Tryz.type380,rfl,rfl,rfl,rfl⟩,_,Tryz.underlying380,rfl,by kernel_rfl,rfl⟩
set_option maxRecDepth 100000 in
theorem aWi:aP Tryz.prog 382 (aI 382):=⟨⟨_,_,Tryz.type382,rfl,rfl,rfl,rfl⟩,_,Tryz.underlying382,trivial⟩
set_option maxRecDepth 100000 in
theorem aWj:aP Tryz.prog 384 (aI 384):=⟨⟨_,_,Tryz.type384,rfl,rfl,rfl,rfl⟩,_,Tryz.underlying384,trivial⟩
set_option maxRecDepth 100000 in
theorem aWk:aP Tryz.prog 389 (aI 389):=⟨⟨_,_,Tryz.type389,rfl,rfl,rfl,rfl⟩,_,Tryz.underlying389,trivial⟩
set_option maxRecDepth 100000 in
theorem aWl:aP Tryz.prog 393 (aI 393):=⟨⟨_,_,Tryz.type393,rfl,rfl,rfl,rfl⟩,_,Tryz.underlying393,trivial⟩
set_option maxRecDepth 100000 in
theorem aWm:aP Tryz.prog 395 (aI 395):=⟨⟨_,_,Tryz.type395,rfl,rfl,rfl,rfl⟩,_,Tryz.underlying395,trivial⟩
set_option maxRecDepth 100000 in
theorem aWn:aP Tryz.prog 400 (aI 400):=⟨⟨_,_,Tryz.type400,rfl,rfl,rfl,rfl⟩,_,Tryz.underlying400,trivial⟩
set_option maxRecDepth 100000 in
theorem aWo:aP Tryz.prog 404 (aI 404):=⟨⟨_,_,Tryz.type404,rfl,rfl,rfl,rfl⟩,_,Tryz.underlying404,rfl,by kernel_rfl,rfl⟩
set_option maxRecDepth 100000 in
theorem aWp:aP Tryz.prog 405 (aI 405):=⟨⟨_,_,Tryz.type405,rfl,rfl,rfl,rfl⟩,_,Tryz.underlying405,rfl,by kernel_rfl,rfl⟩
set_option maxRecDepth 100000 in
theorem aWq:aP Tryz.prog 410 (aI 410):=⟨⟨_,_,Tryz.type410,rfl,rfl,rfl,rfl⟩,Tryz.underlying410⟩
set_option maxRecDepth 100000 in
theorem aWr:aP Tryz.prog 411 (aI 411):=⟨⟨_,_,Tryz.type411,rfl,rfl,rfl,rfl⟩,Tryz.underlying411⟩
set_option maxRecDepth 100000 in
theorem aWs:aP Tryz.prog 413 (aI 413):=⟨⟨_,_,Tryz.type413,rfl,rfl,rfl,rfl⟩,_,Tryz.underlying413,trivial⟩
set_option maxRecDepth 100000 in
theorem aWt:aP Tryz.prog 414 (aI 414):=⟨⟨_,_,Tryz.type414,rfl,rfl,rfl,rfl⟩,Tryz.underlying414⟩
set_option maxRecDepth 100000 in
theorem aWu:aP Tryz.prog 415 (aI 415):=⟨⟨_,_,Tryz.type415,rfl,rfl,rfl,rfl⟩,Tryz.underlying415⟩
set_option maxRecDepth 100000 in
theorem aWv:aP Tryz.prog 416 (aI 416):=⟨⟨_,_,Tryz.type416,rfl,rfl,rfl,rfl⟩,_,Tryz.underlying416,rfl,by kernel_rfl,rfl⟩
set_option maxRecDepth 100000 in
theorem aWw:aP Tryz.prog 417 (aI 417):=⟨⟨_,_,Tryz.type417,rfl,rfl,rfl,rfl⟩,_,Tryz.underlying417,rfl,by kernel_rfl,rfl⟩
theorem tok:∀t,aP Tryz.prog t (aI t):=by
 intro t
 by_cases h:t∈[2,3,4,5,6,7,8,9,10,11,12,13,14,15,16,17,18,19,21,22,24,25,26,27,30,31,35,37,39,45,63,64,65,66,79,85,95,97,98,101,109,112,113,116,118,119,121,122,123,124,125,132,133,134,135,137,140,144,146,147,159,162,167,172,180,188,191,192,198,210,213,214,215,226,228,235,236,237,241,244,245,250,251,258,263,265,266,267,276,278,282,283,284,289,290,291,295,296,297,302,311,315,316,318,323,324,325,326,329,331,342,343,350,359,360,361,363,365,367,368,369,370,373,377,379,380,382,384,389,393,395,400,404,405,410,411,413,414,415,416,417]
 ·simp only [List.mem_cons,List.not_mem_nil,or_false]at h
  rcases h with rfl|rfl|rfl|rfl|rfl|rfl|rfl|rfl|rfl|rfl|rfl|rfl|rfl|rfl|rfl|rfl|rfl|rfl|rfl|rfl|rfl|rfl|rfl|rfl|rfl|rfl|rfl|rfl|rfl|rfl|rfl|rfl|rfl|rfl|rfl|rfl|rfl|rfl|rfl|rfl|rfl|rfl|rfl|rfl|rfl|rfl|rfl|rfl|rfl|rfl|rfl|rfl|rfl|rfl|rfl|rfl|rfl|rfl|rfl|rfl|rfl|rfl|rfl|rfl|rfl|rfl|rfl|rfl|rfl|rfl|rfl|rfl|rfl|rfl|rfl|rfl|rfl|rfl|rfl|rfl|rfl|rfl|rfl|rfl|rfl|rfl|rfl|rfl|rfl|rfl|rfl|rfl|rfl|rfl|rfl|rfl|rfl|rfl|rfl|rfl|rfl|rfl|rfl|rfl|rfl|rfl|rfl|rfl|rfl|rfl|rfl|rfl|rfl|rfl|rfl|rfl|rfl|rfl|rfl|rfl|rfl|rfl|rfl|rfl|rfl|rfl|rfl|rfl|rfl|rfl|rfl|rfl|rfl|rfl|rfl|rfl|rfl|rfl|rfl|rfl|rfl
  ·exact ty2
  ·exact ty3
  ·exact ty4
  ·exact ty5
  ·exact ty6
  ·exact ty7
  ·exact ty8
  ·exact ty9
  ·exact bAy
  ·exact bAz
  ·exact bAA
  ·exact bAB
  ·exact bAC
  ·exact bAD
  ·exact bAE
  ·exact bAF
  ·exact bAG
  ·exact bAH
  ·exact bAI
  ·exact bAJ
  ·exact bAK
  ·exact bAL
  ·exact bAM
  ·exact bAN
  ·exact bAO
  ·exact bAP
  ·exact bAQ
  ·exact bAR
  ·exact bAS
  ·exact bAT
  ·exact bAU
  ·exact bAV
  ·exact bAW
  ·exact bAX
  ·exact bAY
  ·exact bAZ
  ·exact bA0
  ·exact bA1
  ·exact bA2
  ·exact aUR
  ·exact aUS
  ·exact aUT
  ·exact aUU
  ·exact aUV
  ·exact aUW
  ·exact aUX
  ·exact aUY
  ·exact aUZ
  ·exact aU0
  ·exact aU1
  ·exact aU2
  ·exact aU3
  ·exact aU4
  ·exact aU5
  ·exact aU6
  ·exact aU7
  ·exact aU8
  ·exact aU9
  ·exact aVa
  ·exact aVb
  ·exact aVc
  ·exact aVd
  ·exact aVe
  ·exact aVf
  ·exact aVg
  ·exact aVi
  ·exact aVj
  ·exact aVk
  ·exact aVl
  ·exact aVm
  ·exact aVn
  ·exact aVo
  ·exact aVp
  ·exact aVq
  ·exact aVr
  ·exact aVs
  ·exact aVt
  ·exact aVu
  ·exact aVv
  ·exact aVw
  ·exact aVx
  ·exact aVy
  ·exact aVz
  ·exact aVA
  ·exact aVB
  ·exact aVC
  ·exact aVD
  ·exact aVE
  ·exact aVF
  ·exact aVG
  ·exact aVH
  ·exact aVI
  ·exact aVJ
  ·exact aVK
  ·exact aVL
  ·exact aVM
  ·exact aVN
  ·exact aVO
  ·exact aVP
  ·exact aVQ
  ·exact aVR
  ·exact aVS
  ·exact aVT
  ·exact aVU
  ·exact aVV
  ·exact aVW
  ·exact aVX
  ·exact aVY
  ·exact aVZ
  ·exact aV0
  ·exact aV1
  ·exact aV2
  ·exact aV3
  ·exact aV4
  ·exact aV5
  ·exact aV6
  ·exact aV7
  ·exact aV8
  ·exact aV9
  ·exact aWa
  ·exact aWb
  ·exact aWc
  ·exact aWd
  ·exact aWe
  ·exact aWf
  ·exact aWg
  ·exact aWi
  ·exact aWj
  ·exact aWk
  ·exact aWl
  ·exact aWm
  ·exact aWn
  ·exact aWo
  ·exact aWp
  ·exact aWq
  ·exact aWr
  ·exact aWs
  ·exact aWt
  ·exact aWu
  ·exact aWv
  ·exact aWw
 ·have:aI t=Ti.no:=by
   unfold aI
   split
   all_goals first|rfl|(exfalso;apply h;decide)
  rw [this];trivial
noncomputable def TE:Env:={P:=Tryz.prog,ti:=aI,ok:=tok}
@[go_sem] theorem bA4 (t:TypeId):TE.ti t=aI t:=rfl
@[go_sem] theorem bBq:TE.P=Tryz.prog:=rfl
end Go.Eng
