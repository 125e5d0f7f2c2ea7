/- MADE BY PROGRAM (gentypes.py): what is known of the types of the seat. -/
import Derived.Test.YthgijhnmcglppaaGreatKcx
import Derived.Test.YthgijhnmcglppaaGreatProg
namespace Go.Eng
open Go Go.Proofs
def aI:TypeId→Ti
 |2=>⟨.ik .i64,1,8,[.int .i64 0],default⟩
 |3=>⟨.ik .i64,1,8,[.int .i64 0],default⟩
 |4=>⟨.bk,1,1,[.bool false],default⟩
 |5=>⟨.ik .u8,1,1,[.int .u8 0],default⟩
 |6=>⟨.ik .u8,1,1,[.int .u8 0],default⟩
 |7=>⟨.st [(0,1),(1,1),(2,1),(3,1)],4,24,[.int .i64 0, .int .i64 0, .bool false, .int .u8 0],default⟩
 |8=>⟨.st [(0,1),(1,1),(2,1),(3,1)],4,24,[.int .i64 0, .int .i64 0, .bool false, .int .u8 0],default⟩
 |9=>⟨.strk,1,16,[.string ⟨#[]⟩],default⟩
 |10=>⟨.strk,1,16,[.string ⟨#[]⟩],default⟩
 |11=>⟨.strk,1,16,[.string ⟨#[]⟩],default⟩
 |12=>⟨.ik .u64,1,8,[.int .u64 0],default⟩
 |13=>⟨.st [(0,1),(1,1)],2,24,[.string ⟨#[]⟩, .int .u64 0],default⟩
 |14=>⟨.st [(0,1),(1,1)],2,24,[.string ⟨#[]⟩, .int .u64 0],default⟩
 |15=>⟨.sc,1,8,[.pointer none],default⟩
 |16=>⟨.sc,1,8,[.pointer none],default⟩
 |17=>⟨.sc,1,8,[.pointer none],default⟩
 |18=>⟨.st [(0,1)],1,8,[.pointer none],default⟩
 |19=>⟨.st [(0,1)],1,8,[.pointer none],default⟩
 |21=>⟨.ik .i32,1,4,[.int .i32 0],default⟩
 |22=>⟨.sli 5 1 1 [.int .u8 0],1,24,[.slice none 0 0], .v (.int .u8 0)⟩
 |24=>⟨.sli 2 1 8 [.int .i64 0],1,24,[.slice none 0 0], .v (.int .i64 0)⟩
 |25=>⟨.sli 24 1 24 [.slice none 0 0],1,24,[.slice none 0 0], .sl 1 (.v (.int .i64 0)) []⟩
 |26=>⟨.st [(0,1),(1,1),(2,1),(3,1),(4,1)],5,104,[.int .i64 0, .slice none 0 0, .slice none 0 0, .slice none 0 0, .slice none 0 0],default⟩
 |27=>⟨.st [(0,1),(1,1),(2,1),(3,1),(4,1)],5,104,[.int .i64 0, .slice none 0 0, .slice none 0 0, .slice none 0 0, .slice none 0 0],default⟩
 |30=>⟨.st [(0,5),(5,5),(10,1),(11,1)],12,256,[.int .i64 0, .slice none 0 0, .slice none 0 0, .slice none 0 0, .slice none 0 0, .int .i64 0, .slice none 0 0, .slice none 0 0, .slice none 0 0, .slice none 0 0, .slice none 0 0, .slice none 0 0],default⟩
 |31=>⟨.st [(0,5),(5,5),(10,1),(11,1)],12,256,[.int .i64 0, .slice none 0 0, .slice none 0 0, .slice none 0 0, .slice none 0 0, .int .i64 0, .slice none 0 0, .slice none 0 0, .slice none 0 0, .slice none 0 0, .slice none 0 0, .slice none 0 0],default⟩
 |35=>⟨.sc,1,8,[.pointer none],default⟩
 |37=>⟨.ik .u64,1,8,[.int .u64 0],default⟩
 |39=>⟨.sc,1,8,[.nilFunc],default⟩
 |45=>⟨.sli 31 12 256 [.int .i64 0, .slice none 0 0, .slice none 0 0, .slice none 0 0, .slice none 0 0, .int .i64 0, .slice none 0 0, .slice none 0 0, .slice none 0 0, .slice none 0 0, .slice none 0 0, .slice none 0 0],1,24,[.slice none 0 0], .v (.int .i64 0)⟩
 |63=>⟨.st [(0,5),(5,1),(6,1)],7,152,[.int .i64 0, .slice none 0 0, .slice none 0 0, .slice none 0 0, .slice none 0 0, .slice none 0 0, .slice none 0 0],default⟩
 |64=>⟨.st [(0,5),(5,1),(6,1)],7,152,[.int .i64 0, .slice none 0 0, .slice none 0 0, .slice none 0 0, .slice none 0 0, .slice none 0 0, .slice none 0 0],default⟩
 |65=>⟨.st [(0,7),(7,7),(14,1)],15,328,[.int .i64 0, .slice none 0 0, .slice none 0 0, .slice none 0 0, .slice none 0 0, .slice none 0 0, .slice none 0 0, .int .i64 0, .slice none 0 0, .slice none 0 0, .slice none 0 0, .slice none 0 0, .slice none 0 0, .slice none 0 0, .slice none 0 0],default⟩
 |66=>⟨.st [(0,7),(7,7),(14,1)],15,328,[.int .i64 0, .slice none 0 0, .slice none 0 0, .slice none 0 0, .slice none 0 0, .slice none 0 0, .slice none 0 0, .int .i64 0, .slice none 0 0, .slice none 0 0, .slice none 0 0, .slice none 0 0, .slice none 0 0, .slice none 0 0, .slice none 0 0],default⟩
 |79=>⟨.sli 25 1 24 [.slice none 0 0],1,24,[.slice none 0 0], .sl 1 (.sl 1 (.v (.int .i64 0)) []) []⟩
 |85=>⟨.sc,1,8,[.nilFunc],default⟩
 |95=>⟨.sc,1,8,[.nilFunc],default⟩
 |97=>⟨.st [(0,12),(12,12),(24,1),(25,1)],26,560,[.int .i64 0, .slice none 0 0, .slice none 0 0, .slice none 0 0, .slice none 0 0, .int .i64 0, .slice none 0 0, .slice none 0 0, .slice none 0 0, .slice none 0 0, .slice none 0 0, .slice none 0 0, .int .i64 0, .slice none 0 0, .slice none 0 0, .slice none 0 0, .slice none 0 0, .int .i64 0, .slice none 0 0, .slice none 0 0, .slice none 0 0, .slice none 0 0, .slice none 0 0, .slice none 0 0, .slice none 0 0, .slice none 0 0],default⟩
 |98=>⟨.st [(0,12),(12,12),(24,1),(25,1)],26,560,[.int .i64 0, .slice none 0 0, .slice none 0 0, .slice none 0 0, .slice none 0 0, .int .i64 0, .slice none 0 0, .slice none 0 0, .slice none 0 0, .slice none 0 0, .slice none 0 0, .slice none 0 0, .int .i64 0, .slice none 0 0, .slice none 0 0, .slice none 0 0, .slice none 0 0, .int .i64 0, .slice none 0 0, .slice none 0 0, .slice none 0 0, .slice none 0 0, .slice none 0 0, .slice none 0 0, .slice none 0 0, .slice none 0 0],default⟩
 |101=>⟨.sli 27 5 104 [.int .i64 0, .slice none 0 0, .slice none 0 0, .slice none 0 0, .slice none 0 0],1,24,[.slice none 0 0], .v (.int .i64 0)⟩
 |109=>⟨.sc,1,8,[.pointer none],default⟩
 |112=>⟨.sc,1,8,[.pointer none],default⟩
 |113=>⟨.sc,1,8,[.pointer none],default⟩
 |116=>⟨.sc,1,8,[.nilFunc],default⟩
 |118=>⟨.sc,1,8,[.nilFunc],default⟩
 |119=>⟨.sc,1,8,[.nilFunc],default⟩
 |121=>⟨.sc,1,8,[.map none],default⟩
 |122=>⟨.st [(0,5),(5,1),(6,1),(7,1)],8,160,[.int .i64 0, .slice none 0 0, .slice none 0 0, .slice none 0 0, .slice none 0 0, .slice none 0 0, .slice none 0 0, .map none],default⟩
 |123=>⟨.st [(0,5),(5,1),(6,1),(7,1)],8,160,[.int .i64 0, .slice none 0 0, .slice none 0 0, .slice none 0 0, .slice none 0 0, .slice none 0 0, .slice none 0 0, .map none],default⟩
 |124=>⟨.st [(0,5),(5,1),(6,1)],7,152,[.int .i64 0, .slice none 0 0, .slice none 0 0, .slice none 0 0, .slice none 0 0, .slice none 0 0, .slice none 0 0],default⟩
 |125=>⟨.st [(0,5),(5,1),(6,1)],7,152,[.int .i64 0, .slice none 0 0, .slice none 0 0, .slice none 0 0, .slice none 0 0, .slice none 0 0, .slice none 0 0],default⟩
 |132=>⟨.st [(0,1),(1,1),(2,1)],3,40,[.slice none 0 0, .int .i64 0, .int .u64 0],default⟩
 |133=>⟨.st [(0,1),(1,1),(2,1)],3,40,[.slice none 0 0, .int .i64 0, .int .u64 0],default⟩
 |134=>⟨.sc,1,8,[.nilFunc],default⟩
 |135=>⟨.ik .u64,1,8,[.int .u64 0],default⟩
 |137=>⟨.sc,1,8,[.pointer none],default⟩
 |140=>⟨.sc,1,8,[.nilFunc],default⟩
 |144=>⟨.sli 2 1 8 [.int .i64 0],1,24,[.slice none 0 0], .v (.int .i64 0)⟩
 |146=>⟨.sc,1,8,[.nilFunc],default⟩
 |147=>⟨.sli 2 1 8 [.int .i64 0],1,24,[.slice none 0 0], .v (.int .i64 0)⟩
 |159=>⟨.sc,1,8,[.pointer none],default⟩
 |162=>⟨.sc,1,8,[.nilFunc],default⟩
 |167=>⟨.sc,1,8,[.pointer none],default⟩
 |172=>⟨.sc,1,8,[.nilFunc],default⟩
 |180=>⟨.sc,1,8,[.nilFunc],default⟩
 |188=>⟨.sc,1,8,[.pointer none],default⟩
 |191=>⟨.st [(0,5),(5,1),(6,1),(7,1),(8,1)],9,168,[.int .i64 0, .slice none 0 0, .slice none 0 0, .slice none 0 0, .slice none 0 0, .slice none 0 0, .slice none 0 0, .map none, .map none],default⟩
 |192=>⟨.st [(0,5),(5,1),(6,1),(7,1),(8,1)],9,168,[.int .i64 0, .slice none 0 0, .slice none 0 0, .slice none 0 0, .slice none 0 0, .slice none 0 0, .slice none 0 0, .map none, .map none],default⟩
 |198=>⟨.sc,1,8,[.pointer none],default⟩
 |210=>⟨.sc,1,8,[.nilFunc],default⟩
 |213=>⟨.st [(0,1),(1,1),(2,1)],3,40,[.slice none 0 0, .int .i64 0, .int .u64 0],default⟩
 |214=>⟨.st [(0,1),(1,1),(2,1)],3,40,[.slice none 0 0, .int .i64 0, .int .u64 0],default⟩
 |215=>⟨.sli 112 1 8 [.pointer none],1,24,[.slice none 0 0], .v (.pointer none)⟩
 |226=>⟨.sc,1,8,[.nilFunc],default⟩
 |228=>⟨.sli 137 1 8 [.pointer none],1,24,[.slice none 0 0], .v (.pointer none)⟩
 |235=>⟨.sc,1,8,[.nilFunc],default⟩
 |236=>⟨.sc,1,8,[.nilFunc],default⟩
 |237=>⟨.sc,1,8,[.pointer none],default⟩
 |241=>⟨.ik .u32,1,4,[.int .u32 0],default⟩
 |244=>⟨.st [(0,1),(1,1)],2,8,[.int .i32 0, .int .u32 0],default⟩
 |245=>⟨.st [(0,1),(1,1)],2,8,[.int .i32 0, .int .u32 0],default⟩
 |250=>⟨.st [(0,1),(1,1),(2,3),(5,1)],6,56,[.pointer none, .int .i64 0, .int .u32 0, .int .i32 0, .int .u32 0, .slice none 0 0],default⟩
 |251=>⟨.st [(0,1),(1,1),(2,3),(5,1)],6,56,[.pointer none, .int .i64 0, .int .u32 0, .int .i32 0, .int .u32 0, .slice none 0 0],default⟩
 |258=>⟨.sli 167 1 8 [.pointer none],1,24,[.slice none 0 0], .v (.pointer none)⟩
 |263=>⟨.sc,1,8,[.nilFunc],default⟩
 |265=>⟨.sc,1,8,[.pointer none],default⟩
 |266=>⟨.st [(0,7),(7,7),(14,1),(15,1),(16,1)],17,344,[.int .i64 0, .slice none 0 0, .slice none 0 0, .slice none 0 0, .slice none 0 0, .slice none 0 0, .slice none 0 0, .int .i64 0, .slice none 0 0, .slice none 0 0, .slice none 0 0, .slice none 0 0, .slice none 0 0, .slice none 0 0, .bool false, .int .i64 0, .slice none 0 0],default⟩
 |267=>⟨.st [(0,7),(7,7),(14,1),(15,1),(16,1)],17,344,[.int .i64 0, .slice none 0 0, .slice none 0 0, .slice none 0 0, .slice none 0 0, .slice none 0 0, .slice none 0 0, .int .i64 0, .slice none 0 0, .slice none 0 0, .slice none 0 0, .slice none 0 0, .slice none 0 0, .slice none 0 0, .bool false, .int .i64 0, .slice none 0 0],default⟩
 |276=>⟨.sc,1,8,[.nilFunc],default⟩
 |278=>⟨.sc,1,8,[.nilFunc],default⟩
 |282=>⟨.sli 290 2 32 [.int .i64 0, .slice none 0 0],1,24,[.slice none 0 0], .v (.int .i64 0)⟩
 |283=>⟨.st [(0,12),(12,12),(24,1),(25,1),(26,1)],27,568,[.int .i64 0, .slice none 0 0, .slice none 0 0, .slice none 0 0, .slice none 0 0, .int .i64 0, .slice none 0 0, .slice none 0 0, .slice none 0 0, .slice none 0 0, .slice none 0 0, .slice none 0 0, .int .i64 0, .slice none 0 0, .slice none 0 0, .slice none 0 0, .slice none 0 0, .int .i64 0, .slice none 0 0, .slice none 0 0, .slice none 0 0, .slice none 0 0, .slice none 0 0, .slice none 0 0, .pointer none, .slice none 0 0, .slice none 0 0],default⟩
 |284=>⟨.st [(0,12),(12,12),(24,1),(25,1),(26,1)],27,568,[.int .i64 0, .slice none 0 0, .slice none 0 0, .slice none 0 0, .slice none 0 0, .int .i64 0, .slice none 0 0, .slice none 0 0, .slice none 0 0, .slice none 0 0, .slice none 0 0, .slice none 0 0, .int .i64 0, .slice none 0 0, .slice none 0 0, .slice none 0 0, .slice none 0 0, .int .i64 0, .slice none 0 0, .slice none 0 0, .slice none 0 0, .slice none 0 0, .slice none 0 0, .slice none 0 0, .pointer none, .slice none 0 0, .slice none 0 0],default⟩
 |289=>⟨.st [(0,1),(1,1)],2,32,[.int .i64 0, .slice none 0 0],default⟩
 |290=>⟨.st [(0,1),(1,1)],2,32,[.int .i64 0, .slice none 0 0],default⟩
 |291=>⟨.sc,1,8,[.pointer none],default⟩
 |295=>⟨.sc,1,8,[.pointer none],default⟩
 |296=>⟨.st [(0,5),(5,5),(10,1),(11,1),(12,1),(13,1)],14,288,[.int .i64 0, .slice none 0 0, .slice none 0 0, .slice none 0 0, .slice none 0 0, .int .i64 0, .slice none 0 0, .slice none 0 0, .slice none 0 0, .slice none 0 0, .slice none 0 0, .slice none 0 0, .int .i64 0, .slice none 0 0],default⟩
 |297=>⟨.st [(0,5),(5,5),(10,1),(11,1),(12,1),(13,1)],14,288,[.int .i64 0, .slice none 0 0, .slice none 0 0, .slice none 0 0, .slice none 0 0, .int .i64 0, .slice none 0 0, .slice none 0 0, .slice none 0 0, .slice none 0 0, .slice none 0 0, .slice none 0 0, .int .i64 0, .slice none 0 0],default⟩
 |302=>⟨.ar 8 1,8,64,[.int .i64 0, .int .i64 0, .int .i64 0, .int .i64 0, .int .i64 0, .int .i64 0, .int .i64 0, .int .i64 0],default⟩
 |311=>⟨.sc,1,8,[.nilFunc],default⟩
 |315=>⟨.st [(0,1),(1,1)],2,16,[.int .i64 0, .int .i64 0],default⟩
 |316=>⟨.st [(0,1),(1,1)],2,16,[.int .i64 0, .int .i64 0],default⟩
 |318=>⟨.sc,1,8,[.map none],default⟩
 |323=>⟨.sli 159 1 8 [.pointer none],1,24,[.slice none 0 0], .v (.pointer none)⟩
 |324=>⟨.sc,1,8,[.pointer none],default⟩
 |325=>⟨.st [(0,1),(1,1),(2,1),(3,1),(4,1)],5,56,[.pointer none, .pointer none, .bool false, .slice none 0 0, .nilFunc],default⟩
 |326=>⟨.st [(0,1),(1,1),(2,1),(3,1),(4,1)],5,56,[.pointer none, .pointer none, .bool false, .slice none 0 0, .nilFunc],default⟩
 |329=>⟨.sli 4 1 1 [.bool false],1,24,[.slice none 0 0], .v (.bool false)⟩
 |331=>⟨.sc,1,8,[.nilFunc],default⟩
 |342=>⟨.st [(0,1),(1,1),(2,1),(3,1),(4,1),(5,1)],6,80,[.pointer none, .pointer none, .slice none 0 0, .slice none 0 0, .bool false, .nilFunc],default⟩
 |343=>⟨.st [(0,1),(1,1),(2,1),(3,1),(4,1),(5,1)],6,80,[.pointer none, .pointer none, .slice none 0 0, .slice none 0 0, .bool false, .nilFunc],default⟩
 |350=>⟨.sc,1,8,[.pointer none],default⟩
 |359=>⟨.sc,1,8,[.pointer none],default⟩
 |360=>⟨.st [(0,12),(12,12),(24,1),(25,1),(26,1)],27,552,[.int .i64 0, .slice none 0 0, .slice none 0 0, .slice none 0 0, .slice none 0 0, .int .i64 0, .slice none 0 0, .slice none 0 0, .slice none 0 0, .slice none 0 0, .slice none 0 0, .slice none 0 0, .int .i64 0, .slice none 0 0, .slice none 0 0, .slice none 0 0, .slice none 0 0, .int .i64 0, .slice none 0 0, .slice none 0 0, .slice none 0 0, .slice none 0 0, .slice none 0 0, .slice none 0 0, .bool false, .int .i64 0, .slice none 0 0],default⟩
 |361=>⟨.st [(0,12),(12,12),(24,1),(25,1),(26,1)],27,552,[.int .i64 0, .slice none 0 0, .slice none 0 0, .slice none 0 0, .slice none 0 0, .int .i64 0, .slice none 0 0, .slice none 0 0, .slice none 0 0, .slice none 0 0, .slice none 0 0, .slice none 0 0, .int .i64 0, .slice none 0 0, .slice none 0 0, .slice none 0 0, .slice none 0 0, .int .i64 0, .slice none 0 0, .slice none 0 0, .slice none 0 0, .slice none 0 0, .slice none 0 0, .slice none 0 0, .bool false, .int .i64 0, .slice none 0 0],default⟩
 |363=>⟨.sc,1,8,[.pointer none],default⟩
 |365=>⟨.sli 369 2 16 [.int .i64 0, .int .i64 0],1,24,[.slice none 0 0], .v (.int .i64 0)⟩
 |367=>⟨.sc,1,8,[.pointer none],default⟩
 |368=>⟨.st [(0,1),(1,1)],2,16,[.int .i64 0, .int .i64 0],default⟩
 |369=>⟨.st [(0,1),(1,1)],2,16,[.int .i64 0, .int .i64 0],default⟩
 |370=>⟨.sc,1,8,[.map none],default⟩
 |373=>⟨.sc,1,8,[.nilFunc],default⟩
 |377=>⟨.sli 380 3 40 [.int .i64 0, .int .i64 0, .slice none 0 0],1,24,[.slice none 0 0], .v (.int .i64 0)⟩
 |379=>⟨.st [(0,1),(1,1),(2,1)],3,40,[.int .i64 0, .int .i64 0, .slice none 0 0],default⟩
 |380=>⟨.st [(0,1),(1,1),(2,1)],3,40,[.int .i64 0, .int .i64 0, .slice none 0 0],default⟩
 |382=>⟨.sc,1,8,[.pointer none],default⟩
 |384=>⟨.sc,1,8,[.pointer none],default⟩
 |389=>⟨.sc,1,8,[.pointer none],default⟩
 |393=>⟨.sc,1,8,[.pointer none],default⟩
 |395=>⟨.sc,1,8,[.pointer none],default⟩
 |400=>⟨.sc,1,8,[.nilFunc],default⟩
 |404=>⟨.st [(0,1),(1,1),(2,1),(3,1)],4,40,[.pointer none, .pointer none, .pointer none, .string ⟨#[]⟩],default⟩
 |405=>⟨.st [(0,1),(1,1),(2,1),(3,1)],4,40,[.pointer none, .pointer none, .pointer none, .string ⟨#[]⟩],default⟩
 |410=>⟨.ik .u8,1,1,[.int .u8 0],default⟩
 |411=>⟨.ik .u8,1,1,[.int .u8 0],default⟩
 |413=>⟨.sc,1,8,[.pointer none],default⟩
 |414=>⟨.ik .i32,1,4,[.int .i32 0],default⟩
 |415=>⟨.ik .i32,1,4,[.int .i32 0],default⟩
 |416=>⟨.st [(0,1),(1,1),(2,1),(3,1),(4,1),(5,1),(6,1),(7,1),(8,1),(9,1),(10,1)],11,48,[.int .u64 0, .int .u64 0, .int .u32 0, .int .u8 0, .int .u8 0, .int .u8 0, .int .u8 0, .nilFunc, .pointer none, .int .i32 0, .int .i32 0],default⟩
 |417=>⟨.st [(0,1),(1,1),(2,1),(3,1),(4,1),(5,1),(6,1),(7,1),(8,1),(9,1),(10,1)],11,48,[.int .u64 0, .int .u64 0, .int .u32 0, .int .u8 0, .int .u8 0, .int .u8 0, .int .u8 0, .nilFunc, .pointer none, .int .i32 0, .int .i32 0],default⟩
 |_=>Ti.no
@[go_sem] theorem aWu:aI 2=⟨.ik .i64,1,8,[.int .i64 0],default⟩:=rfl
@[go_sem] theorem aWv:aI 3=⟨.ik .i64,1,8,[.int .i64 0],default⟩:=rfl
@[go_sem] theorem aWw:aI 4=⟨.bk,1,1,[.bool false],default⟩:=rfl
@[go_sem] theorem aWx:aI 5=⟨.ik .u8,1,1,[.int .u8 0],default⟩:=rfl
@[go_sem] theorem aWy:aI 6=⟨.ik .u8,1,1,[.int .u8 0],default⟩:=rfl
@[go_sem] theorem aWz:aI 7=⟨.st [(0,1),(1,1),(2,1),(3,1)],4,24,[.int .i64 0, .int .i64 0, .bool false, .int .u8 0],default⟩:=rfl
@[go_sem] theorem aWA:aI 8=⟨.st [(0,1),(1,1),(2,1),(3,1)],4,24,[.int .i64 0, .int .i64 0, .bool false, .int .u8 0],default⟩:=rfl
@[go_sem] theorem aWB:aI 9=⟨.strk,1,16,[.string ⟨#[]⟩],default⟩:=rfl
@[go_sem] theorem aVg:aI 10=⟨.strk,1,16,[.string ⟨#[]⟩],default⟩:=rfl
@[go_sem] theorem aVi:aI 11=⟨.strk,1,16,[.string ⟨#[]⟩],default⟩:=rfl
@[go_sem] theorem aVj:aI 12=⟨.ik .u64,1,8,[.int .u64 0],default⟩:=rfl
@[go_sem] theorem aVk:aI 13=⟨.st [(0,1),(1,1)],2,24,[.string ⟨#[]⟩, .int .u64 0],default⟩:=rfl
@[go_sem] theorem aVl:aI 14=⟨.st [(0,1),(1,1)],2,24,[.string ⟨#[]⟩, .int .u64 0],default⟩:=rfl
@[go_sem] theorem aVm:aI 15=⟨.sc,1,8,[.pointer none],default⟩:=rfl
@[go_sem] theorem aVn:aI 16=⟨.sc,1,8,[.pointer none],default⟩:=rfl
@[go_sem] theorem aVo:aI 17=⟨.sc,1,8,[.pointer none],default⟩:=rfl
@[go_sem] theorem aVp:aI 18=⟨.st [(0,1)],1,8,[.pointer none],default⟩:=rfl
@[go_sem] theorem aVq:aI 19=⟨.st [(0,1)],1,8,[.pointer none],default⟩:=rfl
@[go_sem] theorem aVr:aI 21=⟨.ik .i32,1,4,[.int .i32 0],default⟩:=rfl
@[go_sem] theorem aVs:aI 22=⟨.sli 5 1 1 [.int .u8 0],1,24,[.slice none 0 0], .v (.int .u8 0)⟩:=rfl
@[go_sem] theorem aVt:aI 24=⟨.sli 2 1 8 [.int .i64 0],1,24,[.slice none 0 0], .v (.int .i64 0)⟩:=rfl
@[go_sem] theorem aVu:aI 25=⟨.sli 24 1 24 [.slice none 0 0],1,24,[.slice none 0 0], .sl 1 (.v (.int .i64 0)) []⟩:=rfl
@[go_sem] theorem aVv:aI 26=⟨.st [(0,1),(1,1),(2,1),(3,1),(4,1)],5,104,[.int .i64 0, .slice none 0 0, .slice none 0 0, .slice none 0 0, .slice none 0 0],default⟩:=rfl
@[go_sem] theorem aVw:aI 27=⟨.st [(0,1),(1,1),(2,1),(3,1),(4,1)],5,104,[.int .i64 0, .slice none 0 0, .slice none 0 0, .slice none 0 0, .slice none 0 0],default⟩:=rfl
@[go_sem] theorem aVx:aI 30=⟨.st [(0,5),(5,5),(10,1),(11,1)],12,256,[.int .i64 0, .slice none 0 0, .slice none 0 0, .slice none 0 0, .slice none 0 0, .int .i64 0, .slice none 0 0, .slice none 0 0, .slice none 0 0, .slice none 0 0, .slice none 0 0, .slice none 0 0],default⟩:=rfl
@[go_sem] theorem aVy:aI 31=⟨.st [(0,5),(5,5),(10,1),(11,1)],12,256,[.int .i64 0, .slice none 0 0, .slice none 0 0, .slice none 0 0, .slice none 0 0, .int .i64 0, .slice none 0 0, .slice none 0 0, .slice none 0 0, .slice none 0 0, .slice none 0 0, .slice none 0 0],default⟩:=rfl
@[go_sem] theorem aVz:aI 35=⟨.sc,1,8,[.pointer none],default⟩:=rfl
@[go_sem] theorem aVA:aI 37=⟨.ik .u64,1,8,[.int .u64 0],default⟩:=rfl
@[go_sem] theorem aVB:aI 39=⟨.sc,1,8,[.nilFunc],default⟩:=rfl
@[go_sem] theorem aVC:aI 45=⟨.sli 31 12 256 [.int .i64 0, .slice none 0 0, .slice none 0 0, .slice none 0 0, .slice none 0 0, .int .i64 0, .slice none 0 0, .slice none 0 0, .slice none 0 0, .slice none 0 0, .slice none 0 0, .slice none 0 0],1,24,[.slice none 0 0], .v (.int .i64 0)⟩:=rfl
@[go_sem] theorem aVD:aI 63=⟨.st [(0,5),(5,1),(6,1)],7,152,[.int .i64 0, .slice none 0 0, .slice none 0 0, .slice none 0 0, .slice none 0 0, .slice none 0 0, .slice none 0 0],default⟩:=rfl
@[go_sem] theorem aVE:aI 64=⟨.st [(0,5),(5,1),(6,1)],7,152,[.int .i64 0, .slice none 0 0, .slice none 0 0, .slice none 0 0, .slice none 0 0, .slice none 0 0, .slice none 0 0],default⟩:=rfl
@[go_sem] theorem aVF:aI 65=⟨.st [(0,7),(7,7),(14,1)],15,328,[.int .i64 0, .slice none 0 0, .slice none 0 0, .slice none 0 0, .slice none 0 0, .slice none 0 0, .slice none 0 0, .int .i64 0, .slice none 0 0, .slice none 0 0, .slice none 0 0, .slice none 0 0, .slice none 0 0, .slice none 0 0, .slice none 0 0],default⟩:=rfl
@[go_sem] theorem aVG:aI 66=⟨.st [(0,7),(7,7),(14,1)],15,328,[.int .i64 0, .slice none 0 0, .slice none 0 0, .slice none 0 0, .slice none 0 0, .slice none 0 0, .slice none 0 0, .int .i64 0, .slice none 0 0, .slice none 0 0, .slice none 0 0, .slice none 0 0, .slice none 0 0, .slice none 0 0, .slice none 0 0],default⟩:=rfl
@[go_sem] theorem aVH:aI 79=⟨.sli 25 1 24 [.slice none 0 0],1,24,[.slice none 0 0], .sl 1 (.sl 1 (.v (.int .i64 0)) []) []⟩:=rfl
@[go_sem] theorem aVI:aI 85=⟨.sc,1,8,[.nilFunc],default⟩:=rfl
@[go_sem] theorem aVJ:aI 95=⟨.sc,1,8,[.nilFunc],default⟩:=rfl
@[go_sem] theorem aVK:aI 97=⟨.st [(0,12),(12,12),(24,1),(25,1)],26,560,[.int .i64 0, .slice none 0 0, .slice none 0 0, .slice none 0 0, .slice none 0 0, .int .i64 0, .slice none 0 0, .slice none 0 0, .slice none 0 0, .slice none 0 0, .slice none 0 0, .slice none 0 0, .int .i64 0, .slice none 0 0, .slice none 0 0, .slice none 0 0, .slice none 0 0, .int .i64 0, .slice none 0 0, .slice none 0 0, .slice none 0 0, .slice none 0 0, .slice none 0 0, .slice none 0 0, .slice none 0 0, .slice none 0 0],default⟩:=rfl
@[go_sem] theorem aVL:aI 98=⟨.st [(0,12),(12,12),(24,1),(25,1)],26,560,[.int .i64 0, .slice none 0 0, .slice none 0 0, .slice none 0 0, .slice none 0 0, .int .i64 0, .slice none 0 0, .slice none 0 0, .slice none 0 0, .slice none 0 0, .slice none 0 0, .slice none 0 0, .int .i64 0, .slice none 0 0, .slice none 0 0, .slice none 0 0, .slice none 0 0, .int .i64 0, .slice none 0 0, .slice none 0 0, .slice none 0 0, .slice none 0 0, .slice none 0 0, .slice none 0 0, .slice none 0 0, .slice none 0 0],default⟩:=rfl
@[go_sem] theorem aS0:aI 101=⟨.sli 27 5 104 [.int .i64 0, .slice none 0 0, .slice none 0 0, .slice none 0 0, .slice none 0 0],1,24,[.slice none 0 0], .v (.int .i64 0)⟩:=rfl
@[go_sem] theorem aS1:aI 109=⟨.sc,1,8,[.pointer none],default⟩:=rfl
@[go_sem] theorem aS2:aI 112=⟨.sc,1,8,[.pointer none],default⟩:=rfl
@[go_sem] theorem aS3:aI 113=⟨.sc,1,8,[.pointer none],default⟩:=rfl
@[go_sem] theorem aS4:aI 116=⟨.sc,1,8,[.nilFunc],default⟩:=rfl
@[go_sem] theorem aS5:aI 118=⟨.sc,1,8,[.nilFunc],default⟩:=rfl
@[go_sem] theorem aS6:aI 119=⟨.sc,1,8,[.nilFunc],default⟩:=rfl
@[go_sem] theorem aS7:aI 121=⟨.sc,1,8,[.map none],default⟩:=rfl
@[go_sem] theorem aS8:aI 122=⟨.st [(0,5),(5,1),(6,1),(7,1)],8,160,[.int .i64 0, .slice none 0 0, .slice none 0 0, .slice none 0 0, .slice none 0 0, .slice none 0 0, .slice none 0 0, .map none],default⟩:=rfl
@[go_sem] theorem aS9:aI 123=⟨.st [(0,5),(5,1),(6,1),(7,1)],8,160,[.int .i64 0, .slice none 0 0, .slice none 0 0, .slice none 0 0, .slice none 0 0, .slice none 0 0, .slice none 0 0, .map none],default⟩:=rfl
@[go_sem] theorem aTa:aI 124=⟨.st [(0,5),(5,1),(6,1)],7,152,[.int .i64 0, .slice none 0 0, .slice none 0 0, .slice none 0 0, .slice none 0 0, .slice none 0 0, .slice none 0 0],default⟩:=rfl
@[go_sem] theorem aTb:aI 125=⟨.st [(0,5),(5,1),(6,1)],7,152,[.int .i64 0, .slice none 0 0, .slice none 0 0, .slice none 0 0, .slice none 0 0, .slice none 0 0, .slice none 0 0],default⟩:=rfl
@[go_sem] theorem aTc:aI 132=⟨.st [(0,1),(1,1),(2,1)],3,40,[.slice none 0 0, .int .i64 0, .int .u64 0],default⟩:=rfl
@[go_sem] theorem aTd:aI 133=⟨.st [(0,1),(1,1),(2,1)],3,40,[.slice none 0 0, .int .i64 0, .int .u64 0],default⟩:=rfl
@[go_sem] theorem aTe:aI 134=⟨.sc,1,8,[.nilFunc],default⟩:=rfl
@[go_sem] theorem aTf:aI 135=⟨.ik .u64,1,8,[.int .u64 0],default⟩:=rfl
@[go_sem] theorem aTg:aI 137=⟨.sc,1,8,[.pointer none],default⟩:=rfl
@[go_sem] theorem aTi:aI 140=⟨.sc,1,8,[.nilFunc],default⟩:=rfl
@[go_sem] theorem aTj:aI 144=⟨.sli 2 1 8 [.int .i64 0],1,24,[.slice none 0 0], .v (.int .i64 0)⟩:=rfl
@[go_sem] theorem aTk:aI 146=⟨.sc,1,8,[.nilFunc],default⟩:=rfl
@[go_sem] theorem aTl:aI 147=⟨.sli 2 1 8 [.int .i64 0],1,24,[.slice none 0 0], .v (.int .i64 0)⟩:=rfl
@[go_sem] theorem aTm:aI 159=⟨.sc,1,8,[.pointer none],default⟩:=rfl
@[go_sem] theorem aTn:aI 162=⟨.sc,1,8,[.nilFunc],default⟩:=rfl
@[go_sem] theorem aTo:aI 167=⟨.sc,1,8,[.pointer none],default⟩:=rfl
@[go_sem] theorem aTp:aI 172=⟨.sc,1,8,[.nilFunc],default⟩:=rfl
@[go_sem] theorem aTq:aI 180=⟨.sc,1,8,[.nilFunc],default⟩:=rfl
@[go_sem] theorem aTr:aI 188=⟨.sc,1,8,[.pointer none],default⟩:=rfl
@[go_sem] theorem aTs:aI 191=⟨.st [(0,5),(5,1),(6,1),(7,1),(8,1)],9,168,[.int .i64 0, .slice none 0 0, .slice none 0 0, .slice none 0 0, .slice none 0 0, .slice none 0 0, .slice none 0 0, .map none, .map none],default⟩:=rfl
@[go_sem] theorem aTt:aI 192=⟨.st [(0,5),(5,1),(6,1),(7,1),(8,1)],9,168,[.int .i64 0, .slice none 0 0, .slice none 0 0, .slice none 0 0, .slice none 0 0, .slice none 0 0, .slice none 0 0, .map none, .map none],default⟩:=rfl
@[go_sem] theorem aTu:aI 198=⟨.sc,1,8,[.pointer none],default⟩:=rfl
@[go_sem] theorem aTv:aI 210=⟨.sc,1,8,[.nilFunc],default⟩:=rfl
@[go_sem] theorem aTw:aI 213=⟨.st [(0,1),(1,1),(2,1)],3,40,[.slice none 0 0, .int .i64 0, .int .u64 0],default⟩:=rfl
@[go_sem] theorem aTx:aI 214=⟨.st [(0,1),(1,1),(2,1)],3,40,[.slice none 0 0, .int .i64 0, .int .u64 0],default⟩:=rfl
@[go_sem] theorem aTy:aI 215=⟨.sli 112 1 8 [.pointer none],1,24,[.slice none 0 0], .v (.pointer none)⟩:=rfl
@[go_sem] theorem aTz:aI 226=⟨.sc,1,8,[.nilFunc],default⟩:=rfl
@[go_sem] theorem aTA:aI 228=⟨.sli 137 1 8 [.pointer none],1,24,[.slice none 0 0], .v (.pointer none)⟩:=rfl
@[go_sem] theorem aTB:aI 235=⟨.sc,1,8,[.nilFunc],default⟩:=rfl
@[go_sem] theorem aTC:aI 236=⟨.sc,1,8,[.nilFunc],default⟩:=rfl
@[go_sem] theorem aTD:aI 237=⟨.sc,1,8,[.pointer none],default⟩:=rfl
@[go_sem] theorem aTE:aI 241=⟨.ik .u32,1,4,[.int .u32 0],default⟩:=rfl
@[go_sem] theorem aTF:aI 244=⟨.st [(0,1),(1,1)],2,8,[.int .i32 0, .int .u32 0],default⟩:=rfl
@[go_sem] theorem aTG:aI 245=⟨.st [(0,1),(1,1)],2,8,[.int .i32 0, .int .u32 0],default⟩:=rfl
@[go_sem] theorem aTH:aI 250=⟨.st [(0,1),(1,1),(2,3),(5,1)],6,56,[.pointer none, .int .i64 0, .int .u32 0, .int .i32 0, .int .u32 0, .slice none 0 0],default⟩:=rfl
@[go_sem] theorem aTI:aI 251=⟨.st [(0,1),(1,1),(2,3),(5,1)],6,56,[.pointer none, .int .i64 0, .int .u32 0, .int .i32 0, .int .u32 0, .slice none 0 0],default⟩:=rfl
@[go_sem] theorem aTJ:aI 258=⟨.sli 167 1 8 [.pointer none],1,24,[.slice none 0 0], .v (.pointer none)⟩:=rfl
@[go_sem] theorem aTK:aI 263=⟨.sc,1,8,[.nilFunc],default⟩:=rfl
@[go_sem] theorem aTL:aI 265=⟨.sc,1,8,[.pointer none],default⟩:=rfl
@[go_sem] theorem aTM:aI 266=⟨.st [(0,7),(7,7),(14,1),(15,1),(16,1)],17,344,[.int .i64 0, .slice none 0 0, .slice none 0 0, .slice none 0 0, .slice none 0 0, .slice none 0 0, .slice none 0 0, .int .i64 0, .slice none 0 0, .slice none 0 0, .slice none 0 0, .slice none 0 0, .slice none 0 0, .slice none 0 0, .bool false, .int .i64 0, .slice none 0 0],default⟩:=rfl
@[go_sem] theorem aTN:aI 267=⟨.st [(0,7),(7,7),(14,1),(15,1),(16,1)],17,344,[.int .i64 0, .slice none 0 0, .slice none 0 0, .slice none 0 0, .slice none 0 0, .slice none 0 0, .slice none 0 0, .int .i64 0, .slice none 0 0, .slice none 0 0, .slice none 0 0, .slice none 0 0, .slice none 0 0, .slice none 0 0, .bool false, .int .i64 0, .slice none 0 0],default⟩:=rfl
@[go_sem] theorem aTO:aI 276=⟨.sc,1,8,[.nilFunc],default⟩:=rfl
@[go_sem] theorem aTP:aI 278=⟨.sc,1,8,[.nilFunc],default⟩:=rfl
@[go_sem] theorem aTQ:aI 282=⟨.sli 290 2 32 [.int .i64 0, .slice none 0 0],1,24,[.slice none 0 0], .v (.int .i64 0)⟩:=rfl
@[go_sem] theorem aTR:aI 283=⟨.st [(0,12),(12,12),(24,1),(25,1),(26,1)],27,568,[.int .i64 0, .slice none 0 0, .slice none 0 0, .slice none 0 0, .slice none 0 0, .int .i64 0, .slice none 0 0, .slice none 0 0, .slice none 0 0, .slice none 0 0, .slice none 0 0, .slice none 0 0, .int .i64 0, .slice none 0 0, .slice none 0 0, .slice none 0 0, .slice none 0 0, .int .i64 0, .slice none 0 0, .slice none 0 0, .slice none 0 0, .slice none 0 0, .slice none 0 0, .slice none 0 0, .pointer none, .slice none 0 0, .slice none 0 0],default⟩:=rfl
@[go_sem] theorem aTS:aI 284=⟨.st [(0,12),(12,12),(24,1),(25,1),(26,1)],27,568,[.int .i64 0, .slice none 0 0, .slice none 0 0, .slice none 0 0, .slice none 0 0, .int .i64 0, .slice none 0 0, .slice none 0 0, .slice none 0 0, .slice none 0 0, .slice none 0 0, .slice none 0 0, .int .i64 0, .slice none 0 0, .slice none 0 0, .slice none 0 0, .slice none 0 0, .int .i64 0, .slice none 0 0, .slice none 0 0, .slice none 0 0, .slice none 0 0, .slice none 0 0, .slice none 0 0, .pointer none, .slice none 0 0, .slice none 0 0],default⟩:=rfl
@[go_sem] theorem aTT:aI 289=⟨.st [(0,1),(1,1)],2,32,[.int .i64 0, .slice none 0 0],default⟩:=rfl
@[go_sem] theorem aTU:aI 290=⟨.st [(0,1),(1,1)],2,32,[.int .i64 0, .slice none 0 0],default⟩:=rfl
@[go_sem] theorem aTV:aI 291=⟨.sc,1,8,[.pointer none],default⟩:=rfl
@[go_sem] theorem aTW:aI 295=⟨.sc,1,8,[.pointer none],default⟩:=rfl
@[go_sem] theorem aTX:aI 296=⟨.st [(0,5),(5,5),(10,1),(11,1),(12,1),(13,1)],14,288,[.int .i64 0, .slice none 0 0, .slice none 0 0, .slice none 0 0, .slice none 0 0, .int .i64 0, .slice none 0 0, .slice none 0 0, .slice none 0 0, .slice none 0 0, .slice none 0 0, .slice none 0 0, .int .i64 0, .slice none 0 0],default⟩:=rfl
@[go_sem] theorem aTY:aI 297=⟨.st [(0,5),(5,5),(10,1),(11,1),(12,1),(13,1)],14,288,[.int .i64 0, .slice none 0 0, .slice none 0 0, .slice none 0 0, .slice none 0 0, .int .i64 0, .slice none 0 0, .slice none 0 0, .slice none 0 0, .slice none 0 0, .slice none 0 0, .slice none 0 0, .int .i64 0, .slice none 0 0],default⟩:=rfl
@[go_sem] theorem aTZ:aI 302=⟨.ar 8 1,8,64,[.int .i64 0, .int .i64 0, .int .i64 0, .int .i64 0, .int .i64 0, .int .i64 0, .int .i64 0, .int .i64 0],default⟩:=rfl
@[go_sem] theorem aT0:aI 311=⟨.sc,1,8,[.nilFunc],default⟩:=rfl
@[go_sem] theorem aT1:aI 315=⟨.st [(0,1),(1,1)],2,16,[.int .i64 0, .int .i64 0],default⟩:=rfl
@[go_sem] theorem aT2:aI 316=⟨.st [(0,1),(1,1)],2,16,[.int .i64 0, .int .i64 0],default⟩:=rfl
@[go_sem] theorem aT3:aI 318=⟨.sc,1,8,[.map none],default⟩:=rfl
@[go_sem] theorem aT4:aI 323=⟨.sli 159 1 8 [.pointer none],1,24,[.slice none 0 0], .v (.pointer none)⟩:=rfl
@[go_sem] theorem aT5:aI 324=⟨.sc,1,8,[.pointer none],default⟩:=rfl
@[go_sem] theorem aT6:aI 325=⟨.st [(0,1),(1,1),(2,1),(3,1),(4,1)],5,56,[.pointer none, .pointer none, .bool false, .slice none 0 0, .nilFunc],default⟩:=rfl
@[go_sem] theorem aT7:aI 326=⟨.st [(0,1),(1,1),(2,1),(3,1),(4,1)],5,56,[.pointer none, .pointer none, .bool false, .slice none 0 0, .nilFunc],default⟩:=rfl
@[go_sem] theorem aT8:aI 329=⟨.sli 4 1 1 [.bool false],1,24,[.slice none 0 0], .v (.bool false)⟩:=rfl
@[go_sem] theorem aT9:aI 331=⟨.sc,1,8,[.nilFunc],default⟩:=rfl
@[go_sem] theorem aUa:aI 342=⟨.st [(0,1),(1,1),(2,1),(3,1),(4,1),(5,1)],6,80,[.pointer none, .pointer none, .slice none 0 0, .slice none 0 0, .bool false, .nilFunc],default⟩:=rfl
@[go_sem] theorem aUb:aI 343=⟨.st [(0,1),(1,1),(2,1),(3,1),(4,1),(5,1)],6,80,[.pointer none, .pointer none, .slice none 0 0, .slice none 0 0, .bool false, .nilFunc],default⟩:=rfl
@[go_sem] theorem aUc:aI 350=⟨.sc,1,8,[.pointer none],default⟩:=rfl
@[go_sem] theorem aUd:aI 359=⟨.sc,1,8,[.pointer none],default⟩:=rfl
@[go_sem] theorem aUe:aI 360=⟨.st [(0,12),(12,12),(24,1),(25,1),(26,1)],27,552,[.int .i64 0, .slice none 0 0, .slice none 0 0, .slice none 0 0, .slice none 0 0, .int .i64 0, .slice none 0 0, .slice none 0 0, .slice none 0 0, .slice none 0 0, .slice none 0 0, .slice none 0 0, .int .i64 0, .slice none 0 0, .slice none 0 0, .slice none 0 0, .slice none 0 0, .int .i64 0, .slice none 0 0, .slice none 0 0, .slice none 0 0, .slice none 0 0, .slice none 0 0, .slice none 0 0, .bool false, .int .i64 0, .slice none 0 0],default⟩:=rfl
@[go_sem] theorem aUf:aI 361=⟨.st [(0,12),(12,12),(24,1),(25,1),(26,1)],27,552,[.int .i64 0, .slice none 0 0, .slice none 0 0, .slice none 0 0, .slice none 0 0, .int .i64 0, .slice none 0 0, .slice none 0 0, .slice none 0 0, .slice none 0 0, .slice none 0 0, .slice none 0 0, .int .i64 0, .slice none 0 0, .slice none 0 0, .slice none 0 0, .slice none 0 0, .int .i64 0, .slice none 0 0, .slice none 0 0, .slice none 0 0, .slice none 0 0, .slice none 0 0, .slice none 0 0, .bool false, .int .i64 0, .slice none 0 0],default⟩:=rfl
@[go_sem] theorem aUg:aI 363=⟨.sc,1,8,[.pointer none],default⟩:=rfl
@[go_sem] theorem aUi:aI 365=⟨.sli 369 2 16 [.int .i64 0, .int .i64 0],1,24,[.slice none 0 0], .v (.int .i64 0)⟩:=rfl
@[go_sem] theorem aUj:aI 367=⟨.sc,1,8,[.pointer none],default⟩:=rfl
@[go_sem] theorem aUk:aI 368=⟨.st [(0,1),(1,1)],2,16,[.int .i64 0, .int .i64 0],default⟩:=rfl
@[go_sem] theorem aUl:aI 369=⟨.st [(0,1),(1,1)],2,16,[.int .i64 0, .int .i64 0],default⟩:=rfl
@[go_sem] theorem aUm:aI 370=⟨.sc,1,8,[.map none],default⟩:=rfl
@[go_sem] theorem aUn:aI 373=⟨.sc,1,8,[.nilFunc],default⟩:=rfl
@[go_sem] theorem aUo:aI 377=⟨.sli 380 3 40 [.int .i64 0, .int .i64 0, .slice none 0 0],1,24,[.slice none 0 0], .v (.int .i64 0)⟩:=rfl
@[go_sem] theorem aUp:aI 379=⟨.st [(0,1),(1,1),(2,1)],3,40,[.int .i64 0, .int .i64 0, .slice none 0 0],default⟩:=rfl
@[go_sem] theorem aUq:aI 380=⟨.st [(0,1),(1,1),(2,1)],3,40,[.int .i64 0, .int .i64 0, .slice none 0 0],default⟩:=rfl
@[go_sem] theorem aUr:aI 382=⟨.sc,1,8,[.pointer none],default⟩:=rfl
@[go_sem] theorem aUs:aI 384=⟨.sc,1,8,[.pointer none],default⟩:=rfl
@[go_sem] theorem aUt:aI 389=⟨.sc,1,8,[.pointer none],default⟩:=rfl
@[go_sem] theorem aUu:aI 393=⟨.sc,1,8,[.pointer none],default⟩:=rfl
@[go_sem] theorem aUv:aI 395=⟨.sc,1,8,[.pointer none],default⟩:=rfl
@[go_sem] theorem aUw:aI 400=⟨.sc,1,8,[.nilFunc],default⟩:=rfl
@[go_sem] theorem aUx:aI 404=⟨.st [(0,1),(1,1),(2,1),(3,1)],4,40,[.pointer none, .pointer none, .pointer none, .string ⟨#[]⟩],default⟩:=rfl
@[go_sem] theorem aUy:aI 405=⟨.st [(0,1),(1,1),(2,1),(3,1)],4,40,[.pointer none, .pointer none, .pointer none, .string ⟨#[]⟩],default⟩:=rfl
@[go_sem] theorem aUz:aI 410=⟨.ik .u8,1,1,[.int .u8 0],default⟩:=rfl
@[go_sem] theorem aUA:aI 411=⟨.ik .u8,1,1,[.int .u8 0],default⟩:=rfl
@[go_sem] theorem aUB:aI 413=⟨.sc,1,8,[.pointer none],default⟩:=rfl
@[go_sem] theorem aUC:aI 414=⟨.ik .i32,1,4,[.int .i32 0],default⟩:=rfl
@[go_sem] theorem aUD:aI 415=⟨.ik .i32,1,4,[.int .i32 0],default⟩:=rfl
@[go_sem] theorem aUE:aI 416=⟨.st [(0,1),(1,1),(2,1),(3,1),(4,1),(5,1),(6,1),(7,1),(8,1),(9,1),(10,1)],11,48,[.int .u64 0, .int .u64 0, .int .u32 0, .int .u8 0, .int .u8 0, .int .u8 0, .int .u8 0, .nilFunc, .pointer none, .int .i32 0, .int .i32 0],default⟩:=rfl
@[go_sem] theorem aUF:aI 417=⟨.st [(0,1),(1,1),(2,1),(3,1),(4,1),(5,1),(6,1),(7,1),(8,1),(9,1),(10,1)],11,48,[.int .u64 0, .int .u64 0, .int .u32 0, .int .u8 0, .int .u8 0, .int .u8 0, .int .u8 0, .nilFunc, .pointer none, .int .i32 0, .int .i32 0],default⟩:=rfl
set_option maxRecDepth 100000 in
theorem ty2:aR Tryz.prog 2 (aI 2):=⟨⟨_,_,Tryz.type2,rfl,rfl,rfl,rfl⟩,Tryz.underlying2⟩
set_option maxRecDepth 100000 in
theorem ty3:aR Tryz.prog 3 (aI 3):=⟨⟨_,_,Tryz.type3,rfl,rfl,rfl,rfl⟩,Tryz.underlying3⟩
set_option maxRecDepth 100000 in
theorem ty4:aR Tryz.prog 4 (aI 4):=⟨⟨_,_,Tryz.type4,rfl,rfl,rfl,rfl⟩,Tryz.underlying4⟩
set_option maxRecDepth 100000 in
theorem ty5:aR Tryz.prog 5 (aI 5):=⟨⟨_,_,Tryz.type5,rfl,rfl,rfl,rfl⟩,Tryz.underlying5⟩
set_option maxRecDepth 100000 in
theorem ty6:aR Tryz.prog 6 (aI 6):=⟨⟨_,_,Tryz.type6,rfl,rfl,rfl,rfl⟩,Tryz.underlying6⟩
set_option maxRecDepth 100000 in
theorem ty7:aR Tryz.prog 7 (aI 7):=⟨⟨_,_,Tryz.type7,rfl,rfl,rfl,rfl⟩,_,Tryz.underlying7,rfl,by kernel_rfl,rfl⟩
set_option maxRecDepth 100000 in
theorem ty8:aR Tryz.prog 8 (aI 8):=⟨⟨_,_,Tryz.type8,rfl,rfl,rfl,rfl⟩,_,Tryz.underlying8,rfl,by kernel_rfl,rfl⟩
set_option maxRecDepth 100000 in
theorem ty9:aR Tryz.prog 9 (aI 9):=⟨⟨_,_,Tryz.type9,rfl,rfl,rfl,rfl⟩,Tryz.underlying9⟩
set_option maxRecDepth 100000 in
theorem aVM:aR Tryz.prog 10 (aI 10):=⟨⟨_,_,Tryz.type10,rfl,rfl,rfl,rfl⟩,Tryz.underlying10⟩
set_option maxRecDepth 100000 in
theorem aVN:aR Tryz.prog 11 (aI 11):=⟨⟨_,_,Tryz.type11,rfl,rfl,rfl,rfl⟩,Tryz.underlying11⟩
set_option maxRecDepth 100000 in
theorem aVO:aR Tryz.prog 12 (aI 12):=⟨⟨_,_,Tryz.type12,rfl,rfl,rfl,rfl⟩,Tryz.underlying12⟩
set_option maxRecDepth 100000 in
theorem aVP:aR Tryz.prog 13 (aI 13):=⟨⟨_,_,Tryz.type13,rfl,rfl,rfl,rfl⟩,_,Tryz.underlying13,rfl,by kernel_rfl,rfl⟩
set_option maxRecDepth 100000 in
theorem aVQ:aR Tryz.prog 14 (aI 14):=⟨⟨_,_,Tryz.type14,rfl,rfl,rfl,rfl⟩,_,Tryz.underlying14,rfl,by kernel_rfl,rfl⟩
set_option maxRecDepth 100000 in
theorem aVR:aR Tryz.prog 15 (aI 15):=⟨⟨_,_,Tryz.type15,rfl,rfl,rfl,rfl⟩,_,Tryz.underlying15,trivial⟩
set_option maxRecDepth 100000 in
theorem aVS:aR Tryz.prog 16 (aI 16):=⟨⟨_,_,Tryz.type16,rfl,rfl,rfl,rfl⟩,_,Tryz.underlying16,trivial⟩
set_option maxRecDepth 100000 in
theorem aVT:aR Tryz.prog 17 (aI 17):=⟨⟨_,_,Tryz.type17,rfl,rfl,rfl,rfl⟩,_,Tryz.underlying17,trivial⟩
set_option maxRecDepth 100000 in
theorem aVU:aR Tryz.prog 18 (aI 18):=⟨⟨_,_,Tryz.type18,rfl,rfl,rfl,rfl⟩,_,Tryz.underlying18,rfl,by kernel_rfl,rfl⟩
set_option maxRecDepth 100000 in
theorem aVV:aR Tryz.prog 19 (aI 19):=⟨⟨_,_,Tryz.type19,rfl,rfl,rfl,rfl⟩,_,Tryz.underlying19,rfl,by kernel_rfl,rfl⟩
set_option maxRecDepth 100000 in
theorem aVW:aR Tryz.prog 21 (aI 21):=⟨⟨_,_,Tryz.type21,rfl,rfl,rfl,rfl⟩,Tryz.underlying21⟩
set_option maxRecDepth 100000 in
theorem aVX:aR Tryz.prog 22 (aI 22):=⟨⟨_,_,Tryz.type22,rfl,rfl,rfl,rfl⟩,Tryz.underlying22,⟨_,_,Tryz.type5,rfl,rfl,rfl,rfl⟩⟩
set_option maxRecDepth 100000 in
theorem aVY:aR Tryz.prog 24 (aI 24):=⟨⟨_,_,Tryz.type24,rfl,rfl,rfl,rfl⟩,Tryz.underlying24,⟨_,_,Tryz.type2,rfl,rfl,rfl,rfl⟩⟩
set_option maxRecDepth 100000 in
theorem aVZ:aR Tryz.prog 25 (aI 25):=⟨⟨_,_,Tryz.type25,rfl,rfl,rfl,rfl⟩,Tryz.underlying25,⟨_,_,Tryz.type24,rfl,rfl,rfl,rfl⟩⟩
set_option maxRecDepth 100000 in
theorem aV0:aR Tryz.prog 26 (aI 26):=⟨⟨_,_,Tryz.type26,rfl,rfl,rfl,rfl⟩,_,Tryz.underlying26,rfl,by kernel_rfl,rfl⟩
set_option maxRecDepth 100000 in
theorem aV1:aR Tryz.prog 27 (aI 27):=⟨⟨_,_,Tryz.type27,rfl,rfl,rfl,rfl⟩,_,Tryz.underlying27,rfl,by kernel_rfl,rfl⟩
set_option maxRecDepth 100000 in
theorem aV2:aR Tryz.prog 30 (aI 30):=⟨⟨_,_,Tryz.type30,rfl,rfl,rfl,rfl⟩,_,Tryz.underlying30,rfl,by kernel_rfl,rfl⟩
set_option maxRecDepth 100000 in
theorem aV3:aR Tryz.prog 31 (aI 31):=⟨⟨_,_,Tryz.type31,rfl,rfl,rfl,rfl⟩,_,Tryz.underlying31,rfl,by kernel_rfl,rfl⟩
set_option maxRecDepth 100000 in
theorem aV4:aR Tryz.prog 35 (aI 35):=⟨⟨_,_,Tryz.type35,rfl,rfl,rfl,rfl⟩,_,Tryz.underlying35,trivial⟩
set_option maxRecDepth 100000 in
theorem aV5:aR Tryz.prog 37 (aI 37):=⟨⟨_,_,Tryz.type37,rfl,rfl,rfl,rfl⟩,Tryz.underlying37⟩
set_option maxRecDepth 100000 in
theorem aV6:aR Tryz.prog 39 (aI 39):=⟨⟨_,_,Tryz.type39,rfl,rfl,rfl,rfl⟩,_,Tryz.underlying39,trivial⟩
set_option maxRecDepth 100000 in
theorem aV7:aR Tryz.prog 45 (aI 45):=⟨⟨_,_,Tryz.type45,rfl,rfl,rfl,rfl⟩,Tryz.underlying45,⟨_,_,Tryz.type31,rfl,rfl,rfl,rfl⟩⟩
set_option maxRecDepth 100000 in
theorem aV8:aR Tryz.prog 63 (aI 63):=⟨⟨_,_,Tryz.type63,rfl,rfl,rfl,rfl⟩,_,Tryz.underlying63,rfl,by kernel_rfl,rfl⟩
set_option maxRecDepth 100000 in
theorem aV9:aR Tryz.prog 64 (aI 64):=⟨⟨_,_,Tryz.type64,rfl,rfl,rfl,rfl⟩,_,Tryz.underlying64,rfl,by kernel_rfl,rfl⟩
set_option maxRecDepth 100000 in
theorem aWa:aR Tryz.prog 65 (aI 65):=⟨⟨_,_,Tryz.type65,rfl,rfl,rfl,rfl⟩,_,Tryz.underlying65,rfl,by kernel_rfl,rfl⟩
set_option maxRecDepth 100000 in
theorem aWb:aR Tryz.prog 66 (aI 66):=⟨⟨_,_,Tryz.type66,rfl,rfl,rfl,rfl⟩,_,Tryz.underlying66,rfl,by kernel_rfl,rfl⟩
set_option maxRecDepth 100000 in
theorem aWc:aR Tryz.prog 79 (aI 79):=⟨⟨_,_,Tryz.type79,rfl,rfl,rfl,rfl⟩,Tryz.underlying79,⟨_,_,Tryz.type25,rfl,rfl,rfl,rfl⟩⟩
set_option maxRecDepth 100000 in
theorem aWd:aR Tryz.prog 85 (aI 85):=⟨⟨_,_,Tryz.type85,rfl,rfl,rfl,rfl⟩,_,Tryz.underlying85,trivial⟩
set_option maxRecDepth 100000 in
theorem aWe:aR Tryz.prog 95 (aI 95):=⟨⟨_,_,Tryz.type95,rfl,rfl,rfl,rfl⟩,_,Tryz.underlying95,trivial⟩
set_option maxRecDepth 100000 in
theorem aWf:aR Tryz.prog 97 (aI 97):=⟨⟨_,_,Tryz.type97,rfl,rfl,rfl,rfl⟩,_,Tryz.underlying97,rfl,by kernel_rfl,rfl⟩
set_option maxRecDepth 100000 in
theorem aWg:aR Tryz.prog 98 (aI 98):=⟨⟨_,_,Tryz.type98,rfl,rfl,rfl,rfl⟩,_,Tryz.underlying98,rfl,by kernel_rfl,rfl⟩
set_option maxRecDepth 100000 in
theorem aQy:aR Tryz.prog 101 (aI 101):=⟨⟨_,_,Tryz.type101,rfl,rfl,rfl,rfl⟩,Tryz.underlying101,⟨_,_,Tryz.type27,rfl,rfl,rfl,rfl⟩⟩
set_option maxRecDepth 100000 in
theorem aQz:aR Tryz.prog 109 (aI 109):=⟨⟨_,_,Tryz.type109,rfl,rfl,rfl,rfl⟩,_,Tryz.underlying109,trivial⟩
set_option maxRecDepth 100000 in
theorem aQA:aR Tryz.prog 112 (aI 112):=⟨⟨_,_,Tryz.type112,rfl,rfl,rfl,rfl⟩,_,Tryz.underlying112,trivial⟩
set_option maxRecDepth 100000 in
theorem aQB:aR Tryz.prog 113 (aI 113):=⟨⟨_,_,Tryz.type113,rfl,rfl,rfl,rfl⟩,_,Tryz.underlying113,trivial⟩
set_option maxRecDepth 100000 in
theorem aQC:aR Tryz.prog 116 (aI 116):=⟨⟨_,_,Tryz.type116,rfl,rfl,rfl,rfl⟩,_,Tryz.underlying116,trivial⟩
set_option maxRecDepth 100000 in
theorem aQD:aR Tryz.prog 118 (aI 118):=⟨⟨_,_,Tryz.type118,rfl,rfl,rfl,rfl⟩,_,Tryz.underlying118,trivial⟩
set_option maxRecDepth 100000 in
theorem aQE:aR Tryz.prog 119 (aI 119):=⟨⟨_,_,Tryz.type119,rfl,rfl,rfl,rfl⟩,_,Tryz.underlying119,trivial⟩
set_option maxRecDepth 100000 in
theorem aQF:aR Tryz.prog 121 (aI 121):=⟨⟨_,_,Tryz.type121,rfl,rfl,rfl,rfl⟩,_,Tryz.underlying121,trivial⟩
set_option maxRecDepth 100000 in
theorem aQG:aR Tryz.prog 122 (aI 122):=⟨⟨_,_,Tryz.type122,rfl,rfl,rfl,rfl⟩,_,Tryz.underlying122,rfl,by kernel_rfl,rfl⟩
set_option maxRecDepth 100000 in
theorem aQH:aR Tryz.prog 123 (aI 123):=⟨⟨_,_,Tryz.type123,rfl,rfl,rfl,rfl⟩,_,Tryz.underlying123,rfl,by kernel_rfl,rfl⟩
set_option maxRecDepth 100000 in
theorem aQI:aR Tryz.prog 124 (aI 124):=⟨⟨_,_,Tryz.type124,rfl,rfl,rfl,rfl⟩,_,Tryz.underlying124,rfl,by kernel_rfl,rfl⟩
set_option maxRecDepth 100000 in
theorem aQJ:aR Tryz.prog 125 (aI 125):=⟨⟨_,_,Tryz.type125,rfl,rfl,rfl,rfl⟩,_,Tryz.underlying125,rfl,by kernel_rfl,rfl⟩
set_option maxRecDepth 100000 in
theorem aQK:aR Tryz.prog 132 (aI 132):=⟨⟨_,_,Tryz.type132,rfl,rfl,rfl,rfl⟩,_,Tryz.underlying132,rfl,by kernel_rfl,rfl⟩
set_option maxRecDepth 100000 in
theorem aQL:aR Tryz.prog 133 (aI 133):=⟨⟨_,_,Tryz.type133,rfl,rfl,rfl,rfl⟩,_,Tryz.underlying133,rfl,by kernel_rfl,rfl⟩
set_option maxRecDepth 100000 in
theorem aQM:aR Tryz.prog 134 (aI 134):=⟨⟨_,_,Tryz.type134,rfl,rfl,rfl,rfl⟩,_,Tryz.underlying134,trivial⟩
set_option maxRecDepth 100000 in
theorem aQN:aR Tryz.prog 135 (aI 135):=⟨⟨_,_,Tryz.type135,rfl,rfl,rfl,rfl⟩,Tryz.underlying135⟩
set_option maxRecDepth 100000 in
theorem aQO:aR Tryz.prog 137 (aI 137):=⟨⟨_,_,Tryz.type137,rfl,rfl,rfl,rfl⟩,_,Tryz.underlying137,trivial⟩
set_option maxRecDepth 100000 in
theorem aQP:aR Tryz.prog 140 (aI 140):=⟨⟨_,_,Tryz.type140,rfl,rfl,rfl,rfl⟩,_,Tryz.underlying140,trivial⟩
set_option maxRecDepth 100000 in
theorem aQQ:aR Tryz.prog 144 (aI 144):=⟨⟨_,_,Tryz.type144,rfl,rfl,rfl,rfl⟩,Tryz.underlying144,⟨_,_,Tryz.type2,rfl,rfl,rfl,rfl⟩⟩
set_option maxRecDepth 100000 in
theorem aQR:aR Tryz.prog 146 (aI 146):=⟨⟨_,_,Tryz.type146,rfl,rfl,rfl,rfl⟩,_,Tryz.underlying146,trivial⟩
set_option maxRecDepth 100000 in
theorem aQS:aR Tryz.prog 147 (aI 147):=⟨⟨_,_,Tryz.type147,rfl,rfl,rfl,rfl⟩,Tryz.underlying147,⟨_,_,Tryz.type2,rfl,rfl,rfl,rfl⟩⟩
set_option maxRecDepth 100000 in
theorem aQT:aR Tryz.prog 159 (aI 159):=⟨⟨_,_,Tryz.type159,rfl,rfl,rfl,rfl⟩,_,Tryz.underlying159,trivial⟩
set_option maxRecDepth 100000 in
theorem aQU:aR Tryz.prog 162 (aI 162):=⟨⟨_,_,Tryz.type162,rfl,rfl,rfl,rfl⟩,_,Tryz.underlying162,trivial⟩
set_option maxRecDepth 100000 in
theorem aQV:aR Tryz.prog 167 (aI 167):=⟨⟨_,_,Tryz.type167,rfl,rfl,rfl,rfl⟩,_,Tryz.underlying167,trivial⟩
set_option maxRecDepth 100000 in
theorem aQW:aR Tryz.prog 172 (aI 172):=⟨⟨_,_,Tryz.type172,rfl,rfl,rfl,rfl⟩,_,Tryz.underlying172,trivial⟩
set_option maxRecDepth 100000 in
theorem aQX:aR Tryz.prog 180 (aI 180):=⟨⟨_,_,Tryz.type180,rfl,rfl,rfl,rfl⟩,_,Tryz.underlying180,trivial⟩
set_option maxRecDepth 100000 in
theorem aQY:aR Tryz.prog 188 (aI 188):=⟨⟨_,_,Tryz.type188,rfl,rfl,rfl,rfl⟩,_,Tryz.underlying188,trivial⟩
set_option maxRecDepth 100000 in
theorem aQZ:aR Tryz.prog 191 (aI 191):=⟨⟨_,_,Tryz.type191,rfl,rfl,rfl,rfl⟩,_,Tryz.underlying191,rfl,by kernel_rfl,rfl⟩
set_option maxRecDepth 100000 in
theorem aQ0:aR Tryz.prog 192 (aI 192):=⟨⟨_,_,Tryz.type192,rfl,rfl,rfl,rfl⟩,_,Tryz.underlying192,rfl,by kernel_rfl,rfl⟩
set_option maxRecDepth 100000 in
theorem aQ1:aR Tryz.prog 198 (aI 198):=⟨⟨_,_,Tryz.type198,rfl,rfl,rfl,rfl⟩,_,Tryz.underlying198,trivial⟩
set_option maxRecDepth 100000 in
theorem aQ2:aR Tryz.prog 210 (aI 210):=⟨⟨_,_,Tryz.type210,rfl,rfl,rfl,rfl⟩,_,Tryz.underlying210,trivial⟩
set_option maxRecDepth 100000 in
theorem aQ3:aR Tryz.prog 213 (aI 213):=⟨⟨_,_,Tryz.type213,rfl,rfl,rfl,rfl⟩,_,Tryz.underlying213,rfl,by kernel_rfl,rfl⟩
set_option maxRecDepth 100000 in
theorem aQ4:aR Tryz.prog 214 (aI 214):=⟨⟨_,_,Tryz.type214,rfl,rfl,rfl,rfl⟩,_,Tryz.underlying214,rfl,by kernel_rfl,rfl⟩
set_option maxRecDepth 100000 in
theorem aQ5:aR Tryz.prog 215 (aI 215):=⟨⟨_,_,Tryz.type215,rfl,rfl,rfl,rfl⟩,Tryz.underlying215,⟨_,_,Tryz.type112,rfl,rfl,rfl,rfl⟩⟩
set_option maxRecDepth 100000 in
theorem aQ6:aR Tryz.prog 226 (aI 226):=⟨⟨_,_,Tryz.type226,rfl,rfl,rfl,rfl⟩,_,Tryz.underlying226,trivial⟩
set_option maxRecDepth 100000 in
theorem aQ7:aR Tryz.prog 228 (aI 228):=⟨⟨_,_,Tryz.type228,rfl,rfl,rfl,rfl⟩,Tryz.underlying228,⟨_,_,Tryz.type137,rfl,rfl,rfl,rfl⟩⟩
set_option maxRecDepth 100000 in
theorem aQ8:aR Tryz.prog 235 (aI 235):=⟨⟨_,_,Tryz.type235,rfl,rfl,rfl,rfl⟩,_,Tryz.underlying235,trivial⟩
set_option maxRecDepth 100000 in
theorem aQ9:aR Tryz.prog 236 (aI 236):=⟨⟨_,_,Tryz.type236,rfl,rfl,rfl,rfl⟩,_,Tryz.underlying236,trivial⟩
set_option maxRecDepth 100000 in
theorem aRa:aR Tryz.prog 237 (aI 237):=⟨⟨_,_,Tryz.type237,rfl,rfl,rfl,rfl⟩,_,Tryz.underlying237,trivial⟩
set_option maxRecDepth 100000 in
theorem aRb:aR Tryz.prog 241 (aI 241):=⟨⟨_,_,Tryz.type241,rfl,rfl,rfl,rfl⟩,Tryz.underlying241⟩
set_option maxRecDepth 100000 in
theorem aRc:aR Tryz.prog 244 (aI 244):=⟨⟨_,_,Tryz.type244,rfl,rfl,rfl,rfl⟩,_,Tryz.underlying244,rfl,by kernel_rfl,rfl⟩
set_option maxRecDepth 100000 in
theorem aRd:aR Tryz.prog 245 (aI 245):=⟨⟨_,_,Tryz.type245,rfl,rfl,rfl,rfl⟩,_,Tryz.underlying245,rfl,by kernel_rfl,rfl⟩
set_option maxRecDepth 100000 in
theorem aRe:aR Tryz.prog 250 (aI 250):=⟨⟨_,_,Tryz.type250,rfl,rfl,rfl,rfl⟩,_,Tryz.underlying250,rfl,by kernel_rfl,rfl⟩
set_option maxRecDepth 100000 in
theorem aRf:aR Tryz.prog 251 (aI 251):=⟨⟨_,_,Tryz.type251,rfl,rfl,rfl,rfl⟩,_,Tryz.underlying251,rfl,by kernel_rfl,rfl⟩
set_option maxRecDepth 100000 in
theorem aRg:aR Tryz.prog 258 (aI 258):=⟨⟨_,_,Tryz.type258,rfl,rfl,rfl,rfl⟩,Tryz.underlying258,⟨_,_,Tryz.type167,rfl,rfl,rfl,rfl⟩⟩
set_option maxRecDepth 100000 in
theorem aRi:aR Tryz.prog 263 (aI 263):=⟨⟨_,_,Tryz.type263,rfl,rfl,rfl,rfl⟩,_,Tryz.underlying263,trivial⟩
set_option maxRecDepth 100000 in
theorem aRj:aR Tryz.prog 265 (aI 265):=⟨⟨_,_,Tryz.type265,rfl,rfl,rfl,rfl⟩,_,Tryz.underlying265,trivial⟩
set_option maxRecDepth 100000 in
theorem aRk:aR Tryz.prog 266 (aI 266):=⟨⟨_,_,Tryz.type266,rfl,rfl,rfl,rfl⟩,_,Tryz.underlying266,rfl,by kernel_rfl,rfl⟩
set_option maxRecDepth 100000 in
theorem aRl:aR Tryz.prog 267 (aI 267):=⟨⟨_,_,Tryz.type267,rfl,rfl,rfl,rfl⟩,_,Tryz.underlying267,rfl,by kernel_rfl,rfl⟩
set_option maxRecDepth 100000 in
theorem aRm:aR Tryz.prog 276 (aI 276):=⟨⟨_,_,Tryz.type276,rfl,rfl,rfl,rfl⟩,_,Tryz.underlying276,trivial⟩
set_option maxRecDepth 100000 in
theorem aRn:aR Tryz.prog 278 (aI 278):=⟨⟨_,_,Tryz.type278,rfl,rfl,rfl,rfl⟩,_,Tryz.underlying278,trivial⟩
set_option maxRecDepth 100000 in
theorem aRo:aR Tryz.prog 282 (aI 282):=⟨⟨_,_,Tryz.type282,rfl,rfl,rfl,rfl⟩,Tryz.underlying282,⟨_,_,Tryz.type290,rfl,rfl,rfl,rfl⟩⟩
set_option maxRecDepth 100000 in
theorem aRp:aR Tryz.prog 283 (aI 283):=⟨⟨_,_,Tryz.type283,rfl,rfl,rfl,rfl⟩,_,Tryz.underlying283,rfl,by kernel_rfl,rfl⟩
set_option maxRecDepth 100000 in
theorem aRq:aR Tryz.prog 284 (aI 284):=⟨⟨_,_,Tryz.type284,rfl,rfl,rfl,rfl⟩,_,Tryz.underlying284,rfl,by kernel_rfl,rfl⟩
set_option maxRecDepth 100000 in
theorem aRr:aR Tryz.prog 289 (aI 289):=⟨⟨_,_,Tryz.type289,rfl,rfl,rfl,rfl⟩,_,Tryz.underlying289,rfl,by kernel_rfl,rfl⟩
set_option maxRecDepth 100000 in
theorem aRs:aR Tryz.prog 290 (aI 290):=⟨⟨_,_,Tryz.type290,rfl,rfl,rfl,rfl⟩,_,Tryz.underlying290,rfl,by kernel_rfl,rfl⟩
set_option maxRecDepth 100000 in
theorem aRt:aR Tryz.prog 291 (aI 291):=⟨⟨_,_,Tryz.type291,rfl,rfl,rfl,rfl⟩,_,Tryz.underlying291,trivial⟩
set_option maxRecDepth 100000 in
theorem aRu:aR Tryz.prog 295 (aI 295):=⟨⟨_,_,Tryz.type295,rfl,rfl,rfl,rfl⟩,_,Tryz.underlying295,trivial⟩
set_option maxRecDepth 100000 in
theorem aRv:aR Tryz.prog 296 (aI 296):=⟨⟨_,_,Tryz.type296,rfl,rfl,rfl,rfl⟩,_,Tryz.underlying296,rfl,by kernel_rfl,rfl⟩
set_option maxRecDepth 100000 in
theorem aRw:aR Tryz.prog 297 (aI 297):=⟨⟨_,_,Tryz.type297,rfl,rfl,rfl,rfl⟩,_,Tryz.underlying297,rfl,by kernel_rfl,rfl⟩
set_option maxRecDepth 100000 in
theorem aRx:aR Tryz.prog 302 (aI 302):=⟨⟨_,_,Tryz.type302,rfl,rfl,rfl,rfl⟩,_,_,_,Tryz.underlying302,⟨_,_,Tryz.type2,rfl,rfl,rfl,rfl⟩⟩
set_option maxRecDepth 100000 in
theorem aRy:aR Tryz.prog 311 (aI 311):=⟨⟨_,_,Tryz.type311,rfl,rfl,rfl,rfl⟩,_,Tryz.underlying311,trivial⟩
set_option maxRecDepth 100000 in
theorem aRz:aR Tryz.prog 315 (aI 315):=⟨⟨_,_,Tryz.type315,rfl,rfl,rfl,rfl⟩,_,Tryz.underlying315,rfl,by kernel_rfl,rfl⟩
set_option maxRecDepth 100000 in
theorem aRA:aR Tryz.prog 316 (aI 316):=⟨⟨_,_,Tryz.type316,rfl,rfl,rfl,rfl⟩,_,Tryz.underlying316,rfl,by kernel_rfl,rfl⟩
set_option maxRecDepth 100000 in
theorem aRB:aR Tryz.prog 318 (aI 318):=⟨⟨_,_,Tryz.type318,rfl,rfl,rfl,rfl⟩,_,Tryz.underlying318,trivial⟩
set_option maxRecDepth 100000 in
theorem aRC:aR Tryz.prog 323 (aI 323):=⟨⟨_,_,Tryz.type323,rfl,rfl,rfl,rfl⟩,Tryz.underlying323,⟨_,_,Tryz.type159,rfl,rfl,rfl,rfl⟩⟩
set_option maxRecDepth 100000 in
theorem aRD:aR Tryz.prog 324 (aI 324):=⟨⟨_,_,Tryz.type324,rfl,rfl,rfl,rfl⟩,_,Tryz.underlying324,trivial⟩
set_option maxRecDepth 100000 in
theorem aRE:aR Tryz.prog 325 (aI 325):=⟨⟨_,_,Tryz.type325,rfl,rfl,rfl,rfl⟩,_,Tryz.underlying325,rfl,by kernel_rfl,rfl⟩
set_option maxRecDepth 100000 in
theorem aRF:aR Tryz.prog 326 (aI 326):=⟨⟨_,_,Tryz.type326,rfl,rfl,rfl,rfl⟩,_,Tryz.underlying326,rfl,by kernel_rfl,rfl⟩
set_option maxRecDepth 100000 in
theorem aRG:aR Tryz.prog 329 (aI 329):=⟨⟨_,_,Tryz.type329,rfl,rfl,rfl,rfl⟩,Tryz.underlying329,⟨_,_,Tryz.type4,rfl,rfl,rfl,rfl⟩⟩
set_option maxRecDepth 100000 in
theorem aRH:aR Tryz.prog 331 (aI 331):=⟨⟨_,_,Tryz.type331,rfl,rfl,rfl,rfl⟩,_,Tryz.underlying331,trivial⟩
set_option maxRecDepth 100000 in
theorem aRI:aR Tryz.prog 342 (aI 342):=⟨⟨_,_,Tryz.type342,rfl,rfl,rfl,rfl⟩,_,Tryz.underlying342,rfl,by kernel_rfl,rfl⟩
set_option maxRecDepth 100000 in
theorem aRJ:aR Tryz.prog 343 (aI 343):=⟨⟨_,_,Tryz.type343,rfl,rfl,rfl,rfl⟩,_,Tryz.underlying343,rfl,by kernel_rfl,rfl⟩
set_option maxRecDepth 100000 in
theorem aRK:aR Tryz.prog 350 (aI 350):=⟨⟨_,_,Tryz.type350,rfl,rfl,rfl,rfl⟩,_,Tryz.underlying350,trivial⟩
set_option maxRecDepth 100000 in
theorem aRL:aR Tryz.prog 359 (aI 359):=⟨⟨_,_,Tryz.type359,rfl,rfl,rfl,rfl⟩,_,Tryz.underlying359,trivial⟩
set_option maxRecDepth 100000 in
theorem aRM:aR Tryz.prog 360 (aI 360):=⟨⟨_,_,Tryz.type360,rfl,rfl,rfl,rfl⟩,_,Tryz.underlying360,rfl,by kernel_rfl,rfl⟩
set_option maxRecDepth 100000 in
theorem aRN:aR Tryz.prog 361 (aI 361):=⟨⟨_,_,Tryz.type361,rfl,rfl,rfl,rfl⟩,_,Tryz.underlying361,rfl,by kernel_rfl,rfl⟩
set_option maxRecDepth 100000 in
theorem aRO:aR Tryz.prog 363 (aI 363):=⟨⟨_,_,Tryz.type363,rfl,rfl,rfl,rfl⟩,_,Tryz.underlying363,trivial⟩
set_option maxRecDepth 100000 in
theorem aRP:aR Tryz.prog 365 (aI 365):=⟨⟨_,_,Tryz.type365,rfl,rfl,rfl,rfl⟩,Tryz.underlying365,⟨_,_,Tryz.type369,rfl,rfl,rfl,rfl⟩⟩
set_option maxRecDepth 100000 in
theorem aRQ:aR Tryz.prog 367 (aI 367):=⟨⟨_,_,Tryz.type367,rfl,rfl,rfl,rfl⟩,_,Tryz.underlying367,trivial⟩
set_option maxRecDepth 100000 in
theorem aRR:aR Tryz.prog 368 (aI 368):=⟨⟨_,_,Tryz.type368,rfl,rfl,rfl,rfl⟩,_,Tryz.underlying368,rfl,by kernel_rfl,rfl⟩
set_option maxRecDepth 100000 in
theorem aRS:aR Tryz.prog 369 (aI 369):=⟨⟨_,_,Tryz.type369,rfl,rfl,rfl,rfl⟩,_,Tryz.underlying369,rfl,by kernel_rfl,rfl⟩
set_option maxRecDepth 100000 in
theorem aRT:aR Tryz.prog 370 (aI 370):=⟨⟨_,_,Tryz.type370,rfl,rfl,rfl,rfl⟩,_,Tryz.underlying370,trivial⟩
set_option maxRecDepth 100000 in
theorem aRU:aR Tryz.prog 373 (aI 373):=⟨⟨_,_,Tryz.type373,rfl,rfl,rfl,rfl⟩,_,Tryz.underlying373,trivial⟩
set_option maxRecDepth 100000 in
theorem aRV:aR Tryz.prog 377 (aI 377):=⟨⟨_,_,Tryz.type377,rfl,rfl,rfl,rfl⟩,Tryz.underlying377,⟨_,_,Tryz.type380,rfl,rfl,rfl,rfl⟩⟩
set_option maxRecDepth 100000 in
theorem aRW:aR Tryz.prog 379 (aI 379):=⟨⟨_,_,Tryz.type379,rfl,rfl,rfl,rfl⟩,_,Tryz.underlying379,rfl,by kernel_rfl,rfl⟩
set_option maxRecDepth 100000 in
theorem aRX:aR Tryz.prog 380 (aI 380):=⟨⟨_,_,Tryz.type380,rfl,rfl,rfl,rfl⟩,_,Tryz.underlying380,rfl,by kernel_rfl,rfl⟩
set_option maxRecDepth 100000 in
theorem aRY:aR Tryz.prog 382 (aI 382):=⟨⟨_,_,Tryz.type382,rfl,rfl,rfl,rfl⟩,_,Tryz.underlying382,trivial⟩
set_option maxRecDepth 100000 in
theorem aRZ:aR Tryz.prog 384 (aI 384):=⟨⟨_,_,Tryz.type384,rfl,rfl,rfl,rfl⟩,_,Tryz.underlying384,trivial⟩
set_option maxRecDepth 100000 in
theorem aR0:aR Tryz.prog 389 (aI 389):=⟨⟨_,_,Tryz.type389,rfl,rfl,rfl,rfl⟩,_,Tryz.underlying389,trivial⟩
set_option maxRecDepth 100000 in
theorem aR1:aR Tryz.prog 393 (aI 393):=⟨⟨_,_,Tryz.type393,rfl,rfl,rfl,rfl⟩,_,Tryz.underlying393,trivial⟩
set_option maxRecDepth 100000 in
theorem aR2:aR Tryz.prog 395 (aI 395):=⟨⟨_,_,Tryz.type395,rfl,rfl,rfl,rfl⟩,_,Tryz.underlying395,trivial⟩
set_option maxRecDepth 100000 in
theorem aR3:aR Tryz.prog 400 (aI 400):=⟨⟨_,_,Tryz.type400,rfl,rfl,rfl,rfl⟩,_,Tryz.underlying400,trivial⟩
set_option maxRecDepth 100000 in
theorem aR4:aR Tryz.prog 404 (aI 404):=⟨⟨_,_,Tryz.type404,rfl,rfl,rfl,rfl⟩,_,Tryz.underlying404,rfl,by kernel_rfl,rfl⟩
set_option maxRecDepth 100000 in
theorem aR5:aR Tryz.prog 405 (aI 405):=⟨⟨_,_,Tryz.type405,rfl,rfl,rfl,rfl⟩,_,Tryz.underlying405,rfl,by kernel_rfl,rfl⟩
set_option maxRecDepth 100000 in
theorem aR6:aR Tryz.prog 410 (aI 410):=⟨⟨_,_,Tryz.type410,rfl,rfl,rfl,rfl⟩,Tryz.underlying410⟩
set_option maxRecDepth 100000 in
theorem aR7:aR Tryz.prog 411 (aI 411):=⟨⟨_,_,Tryz.type411,rfl,rfl,rfl,rfl⟩,Tryz.underlying411⟩
set_option maxRecDepth 100000 in
theorem aR8:aR Tryz.prog 413 (aI 413):=⟨⟨_,_,Tryz.type413,rfl,rfl,rfl,rfl⟩,_,Tryz.underlying413,trivial⟩
set_option maxRecDepth 100000 in
theorem aR9:aR Tryz.prog 414 (aI 414):=⟨⟨_,_,Tryz.type414,rfl,rfl,rfl,rfl⟩,Tryz.underlying414⟩
set_option maxRecDepth 100000 in
theorem aSa:aR Tryz.prog 415 (aI 415):=⟨⟨_,_,Tryz.type415,rfl,rfl,rfl,rfl⟩,Tryz.underlying415⟩
set_option maxRecDepth 100000 in
theorem aSb:aR Tryz.prog 416 (aI 416):=⟨⟨_,_,Tryz.type416,rfl,rfl,rfl,rfl⟩,_,Tryz.underlying416,rfl,by kernel_rfl,rfl⟩
set_option maxRecDepth 100000 in
theorem aSc:aR Tryz.prog 417 (aI 417):=⟨⟨_,_,Tryz.type417,rfl,rfl,rfl,rfl⟩,_,Tryz.underlying417,rfl,by kernel_rfl,rfl⟩
theorem tok:∀t,aR Tryz.prog t (aI t):=by
 intro t
 by_cases h:t∈[2,3,4,5,6,7,8,9,10,11,12,13,14,15,16,17,18,19,21,22,24,25,26,27,30,31,35,37,39,45,63,64,65,66,79,85,95,97,98,101,109,112,113,116,118,119,121,122,123,124,125,132,133,134,135,137,140,144,146,147,159,162,167,172,180,188,191,192,198,210,213,214,215,226,228,235,236,237,241,244,245,250,251,258,263,265,266,267,276,278,282,283,284,289,290,291,295,296,297,302,311,315,316,318,323,324,325,326,329,331,342,343,350,359,360,361,363,365,367,368,369,370,373,377,379,380,382,384,389,393,395,400,404,405,410,411,413,414,415,416,417]
 ·simp only [List.mem_cons,List.not_mem_nil,or_false]at h
  rcases h with rfl|rfl|rfl|rfl|rfl|rfl|rfl|rfl|rfl|rfl|rfl|rfl|rfl|rfl|rfl|rfl|rfl|rfl|rfl|rfl|rfl|rfl|rfl|rfl|rfl|rfl|rfl|rfl|rfl|rfl|rfl|rfl|rfl|rfl|rfl|rfl|rfl|rfl|rfl|rfl|rfl|rfl|rfl|rfl|rfl|rfl|rfl|rfl|rfl|rfl|rfl|rfl|rfl|rfl|rfl|rfl|rfl|rfl|rfl|rfl|rfl|rfl|rfl|rfl|rfl|rfl|rfl|rfl|rfl|rfl|rfl|rfl|rfl|rfl|rfl|rfl|rfl|rfl|rfl|rfl|rfl|rfl|rfl|rfl|rfl|rfl|rfl|rfl|rfl|rfl|rfl|rfl|rfl|rfl|rfl|rfl|rfl|rfl|rfl|rfl|rfl|rfl|rfl|rfl|rfl|rfl|rfl|rfl|rfl|rfl|rfl|rfl|rfl|rfl|rfl|rfl|rfl|rfl|rfl|rfl|rfl|rfl|rfl|rfl|rfl|rfl|rfl|rfl|rfl|rfl|rfl|rfl|rfl|rfl|rfl|rfl|rfl|rfl|rfl|rfl|rfl
  ·exact ty2
  ·exact ty3
  ·exact ty4
  ·exact ty5
  ·exact ty6
  ·exact ty7
  ·exact ty8
  ·exact ty9
  ·exact aVM
  ·exact aVN
  ·exact aVO
  ·exact aVP
  ·exact aVQ
  ·exact aVR
  ·exact aVS
  ·exact aVT
  ·exact aVU
  ·exact aVV
  ·exact aVW
  ·exact aVX
  ·exact aVY
  ·exact aVZ
  ·exact aV0
  ·exact aV1
  ·exact aV2
  ·exact aV3
  ·exact aV4
  ·exact aV5
  ·exact aV6
  ·exact aV7
  ·exact aV8
  ·exact aV9
  ·exact aWa
  ·exact aWb
  ·exact aWc
  ·exact aWd
  ·exact aWe
  ·exact aWf
  ·exact aWg
  ·exact aQy
  ·exact aQz
  ·exact aQA
  ·exact aQB
  ·exact aQC
  ·exact aQD
  ·exact aQE
  ·exact aQF
  ·exact aQG
  ·exact aQH
  ·exact aQI
  ·exact aQJ
  ·exact aQK
  ·exact aQL
  ·exact aQM
  ·exact aQN
  ·exact aQO
  ·exact aQP
  ·exact aQQ
  ·exact aQR
  ·exact aQS
  ·exact aQT
  ·exact aQU
  ·exact aQV
  ·exact aQW
  ·exact aQX
  ·exact aQY
  ·exact aQZ
  ·exact aQ0
  ·exact aQ1
  ·exact aQ2
  ·exact aQ3
  ·exact aQ4
  ·exact aQ5
  ·exact aQ6
  ·exact aQ7
  ·exact aQ8
  ·exact aQ9
  ·exact aRa
  ·exact aRb
  ·exact aRc
  ·exact aRd
  ·exact aRe
  ·exact aRf
  ·exact aRg
  ·exact aRi
  ·exact aRj
  ·exact aRk
  ·exact aRl
  ·exact aRm
  ·exact aRn
  ·exact aRo
  ·exact aRp
  ·exact aRq
  ·exact aRr
  ·exact aRs
  ·exact aRt
  ·exact aRu
  ·exact aRv
  ·exact aRw
  ·exact aRx
  ·exact aRy
  ·exact aRz
  ·exact aRA
  ·exact aRB
  ·exact aRC
  ·exact aRD
  ·exact aRE
  ·exact aRF
  ·exact aRG
  ·exact aRH
  ·exact aRI
  ·exact aRJ
  ·exact aRK
  ·exact aRL
  ·exact aRM
  ·exact aRN
  ·exact aRO
  ·exact aRP
  ·exact aRQ
  ·exact aRR
  ·exact aRS
  ·exact aRT
  ·exact aRU
  ·exact aRV
  ·exact aRW
  ·exact aRX
  ·exact aRY
  ·exact aRZ
  ·exact aR0
  ·exact aR1
  ·exact aR2
  ·exact aR3
  ·exact aR4
  ·exact aR5
  ·exact aR6
  ·exact aR7
  ·exact aR8
  ·exact aR9
  ·exact aSa
  ·exact aSb
  ·exact aSc
 ·have:aI t=Ti.no:=by
   unfold aI
   split
   all_goals first|rfl|(exfalso;apply h;decide)
  rw [this];trivial
noncomputable def TE:Env:={P:=Tryz.prog,ti:=aI,ok:=tok}
@[go_sem] theorem aWi (t:TypeId):TE.ti t=aI t:=rfl
@[go_sem] theorem aWC:TE.P=Tryz.prog:=rfl
end Go.Eng
