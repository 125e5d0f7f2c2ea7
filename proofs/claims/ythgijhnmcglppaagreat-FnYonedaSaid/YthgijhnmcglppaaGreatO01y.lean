/- Several texts in one: O01, O02. -/
import Derived.Test.YthgijhnmcglppaaGreatKgx
import Derived.Tactics
import Derived.Tactics2
import Derived.Defers
import Derived.Laws.Pointers
import Derived.Laws.LoneSync
import Derived.RegionTactic
import Derived.RegionCalls
import Derived.ChangeAlike
set_option maxRecDepth 100000
set_option maxHeartbeats 8000000
set_option linter.unusedSimpArgs false
set_option linter.unusedVariables false
section
namespace Go.Eng.Once
open Go Go.Proofs
theorem disable (w:World):(callFunc 369 #[]).run Tryz.prog w= .ok (.value (.tuple #[])) w:=run_call_mark0 Tryz.func369 (by kernel_rfl) (by kernel_rfl) (by kernel_rfl) .disable (by kernel_rfl) w
theorem enable (w:World):(callFunc 371 #[]).run Tryz.prog w= .ok (.value (.tuple #[])) w:=run_call_mark0 Tryz.func371 (by kernel_rfl) (by kernel_rfl) (by kernel_rfl) .enable (by kernel_rfl) w
theorem acquire (a:Addr) (w:World):(callFunc 372 #[.pointer (some a)]).run Tryz.prog w= .ok (.value (.tuple #[])) w:=run_call_marked Tryz.func372 (by kernel_rfl) (by kernel_rfl) (by kernel_rfl) .acquire (by kernel_rfl) a w
theorem releaseMerge (a:Addr) (w:World):(callFunc 374 #[.pointer (some a)]).run Tryz.prog w= .ok (.value (.tuple #[])) w:=run_call_marked Tryz.func374 (by kernel_rfl) (by kernel_rfl) (by kernel_rfl) .releaseMerge (by kernel_rfl) a w
theorem load_done (b off:Nat) (x:Int) (w:World) (h0:w.cell? ⟨b,off,none⟩=some (.int .u32 x)):
  Calls Tryz.prog 331 #[.pointer (some ⟨b,off,none⟩)] w fun e w'=>e= .returned (.bool (x !=0))∧w'=w:=by
 have hl:=run_call_load (P:=Tryz.prog) Tryz.func352 (by kernel_rfl) (by kernel_rfl) (by kernel_rfl) .u32 (by kernel_rfl) h0
 go_enter Tryz.func331,Tryz.ntmps331
 go_wp2
 go_ret
 exact⟨rfl,rfl⟩
theorem store_deferred (a:Addr) (x:Value) (u:FrameMode) (w:World) (hc:w.cell? a=some x) (hz:w.frozen? a=false):
  CallsD Tryz.prog 355 #[.pointer (some a), .bool true] u w fun e u' w'=>u'=u∧(e= .returned (.tuple #[])∧w'=w.drew.setCell a (.int .u32 1)):=by
 have hc':w.drew.cell? a=some x:=by go_simp
 have hz':w.drew.frozen? a=false:=by go_simp
 have hst:=run_call_store (P:=Tryz.prog) Tryz.func364 (by kernel_rfl) (by kernel_rfl) (by kernel_rfl) (by kernel_rfl) (k:= .u32) (y:=1) hc' hz'
 go_enter_d Tryz.func355,Tryz.ntmps355
 go_wp2
 go_region_calls
 all_goals(go_end0;exact⟨rfl,rfl⟩)
theorem unlock_deferred (a:Addr) (u:FrameMode) (w:World) (hc:w.cell? a=some (.int .i32 1)) (hz:w.frozen? a=false):
  CallsD Tryz.prog 354 #[.pointer (some a)] u w fun e u' w'=>u'=u∧(e= .returned (.tuple #[])∧w'=w.setCell a (.int .i32 0)):=by
 have hd:=disable
 have he:=enable
 have hr:=releaseMerge
 have hadd:=run_call_add (P:=Tryz.prog) Tryz.func375 (by kernel_rfl) (by kernel_rfl) (by kernel_rfl) .i32 (by kernel_rfl) (y:= -1) (s:=0) hc hz (by simp [go_sem];rfl)
 have hcv:=run_convert_to_unsafe (P:=Tryz.prog) (src:=393) (dst:=397) Tryz.underlying393 Tryz.underlying397 (by kernel_rfl) hc
 go_enter_d Tryz.func354,Tryz.ntmps354
 go_wp2
 go_end0
 go_wp2
 go_end0
 exact⟨rfl,rfl⟩
theorem lock_free (a:Addr) (w:World) (hc:w.cell? a=some (.int .i32 0)) (hz:w.frozen? a=false):
  Calls Tryz.prog 353 #[.pointer (some a)] w fun e w'=>e= .returned (.tuple #[])∧w'=w.setCell a (.int .i32 1):=by
 have hd:=disable
 have he:=enable
 have ha:=acquire
 have hcas:=run_call_cas_hit (P:=Tryz.prog) Tryz.func370 (by kernel_rfl) (by kernel_rfl) (by kernel_rfl) .i32 (by kernel_rfl) (y:=1) hc hz
 have hc':(w.setCell a (.int .i32 1)).cell? a=some (.int .i32 1):=World.cell?_setCell_same w a _ hc
 have hcv:=run_convert_to_unsafe (P:=Tryz.prog) (src:=393) (dst:=397) Tryz.underlying393 Tryz.underlying397 (by kernel_rfl) hc'
 go_enter Tryz.func353,Tryz.ntmps353
 go_wp2
 first|go_end0|(simp only [Exit.inBlock,Exit.then];refine bodyPost_ret (results_none rfl _ _ _) rfl ?_)|refine bodyPost_ret (results_none rfl _ _ _) rfl ?_
 go_wp2
 go_end0
 exact⟨rfl,rfl⟩
theorem do_done (d:Int) (hd:¬d=0) (b off:Nat) (fv:Value) (w:World) (h0:w.cell? ⟨b,off,none⟩=some (.int .u32 d)):
  Calls Tryz.prog 279 #[.pointer (some ⟨b,off,none⟩),fv] w fun e w'=>e= .returned (.tuple #[])∧w'=w:=by
 have hl:=run_call_load (P:=Tryz.prog) Tryz.func352 (by kernel_rfl) (by kernel_rfl) (by kernel_rfl) .u32 (by kernel_rfl) h0
 have hnot:∀(x:Bool) (w:World),(Op.unary .not (.bool x)).run Tryz.prog w= .ok (.bool (!x)) w:=fun _ _=>rfl
 have hd':(d !=0)=true:=by simp [hd]
 go_enter Tryz.func279,Tryz.ntmps279
 go_wp2
 go_end0
 exact⟨rfl,rfl⟩
end Go.Eng.Once
end
section
namespace Go.Eng
open Go Go.Proofs Go.Cats
@[go_sem] theorem Cat.homs_zero (c:Cat) (x:Int):c.homs x 0=[]:=rfl
theorem Cat.homs_succ (c:Cat) (x:Int) (n:Nat):c.homs x (n+1)=c.homs x n++[c.hom x n]:=by simp [Cat.homs,List.range_succ]
@[go_sem] theorem Cat.homs_len (c:Cat) (x:Int) (n:Nat):(c.homs x n).length=n:=by simp [Cat.homs]
theorem Cat.homs_get (c:Cat) (x:Int) (n i:Nat) (h:i<n):(c.homs x n).getD i []=c.hom x i:=by
 simp [Cat.homs,List.getD_eq_getElem?_getD,h]
def onc (c:Cat) (x:Int) (d s:Int) (rows:Sv):List Sv:=[.bptr [] (fP c),iv x, .v (.int .u32 d), .v (.int .i32 s), .v (.int .u32 0),rows]
attribute [go_sem] onc
theorem pY {c:Cat} (hs:Shape c) {x:Int}:Spec Tryz.prog 280 [.ptr 1 0] [(0,⟨2, .box (onc c x 0 1 (.v (.slice none 0 0)))⟩),(1,⟨1, .box [.ptr 0 0]⟩)] (.tup []) [(0,⟨1, .box (onc c x 0 1 (.sl 2))⟩),(1,⟨1, .box [.ptr 0 0]⟩),(2,⟨1, .arr (aC (c.homs x c.ob.toNat))⟩)]:=by
 refine aD (E:=TE) 2 Tryz.func280 rfl (by simp [Tryz.f280]) fun X hn hX=>?_
 have ⟨s1,s2,s3,s4,s5,s6,s7,s8,s9,s10,s11⟩:=hs
 refine dN (Imp.adoptBs 0 5 2 _ rfl rfl rfl (by rw [hX];rfl)) ?_
 repeat'(first|refine wkQ ?_|refine Tw.f ?_ ?_|(refine fun(hc:(_:Bool)=_)=>?_;try simp only [hcS]at hc))
 refine aH (G:={i:Nat//i≤c.ob.toNat∧(True)}) (fun⟨i,_⟩=>[(1,iv i)]) [0] (fun⟨i,_⟩=>[(0,⟨1, .box (onc c x 0 1 (.sl 2))⟩),(1,⟨1, .box [.ptr 0 0]⟩),(2,⟨1, .arr (aC (c.homs x i))⟩)]) [0,1,2] (fun zz=>c.ob.toNat-zz.1) ⟨0,Nat.zero_le _,by first|trivial|simp⟩ ?_ ?_
 ·exact Imp.au hX
 rintro⟨i,hii,hwi⟩
 simp only [go_sem,simprocAttr]
 have hlen:=c.hom_len x i
 repeat'(first|refine wkQ ?_|refine Tw.f ?_ ?_|(refine kcQ iC ?_;refine krQ (jD ?_ ?_) ?_)|(refine fun(hc:(_:Bool)=_)=>?_;try simp only [hcS]at hc))
 all_goals try exact om_
 ·refine⟨⟨i+1,by omega,(by trivial)⟩,by simp only;omega,Imp.auto hX (by simp only [go_sem,simprocAttr,Cat.homs_succ])⟩
 ·(first|refine aB ?_|refine aA ?_);simp only [go_sem,simprocAttr,Tryz.f280]
  rw [show c.ob.toNat=i from by omega]
end Go.Eng
end
