/- Several texts in one: O01, O02, O03. -/
import Derived.Test.YtipohdpnhodnmaaGreatKgx
import Derived.Tactics
import Derived.Tactics2
import Derived.Defers
import Derived.Laws.Pointers
import Derived.Laws.LoneSync
import Derived.RegionTactic
import Derived.RegionCalls
import Derived.ChangeAlike
set_option maxRecDepth 100000
set_option maxHeartbeats 8000000
set_option linter.unusedSimpArgs false
set_option linter.unusedVariables false
section
namespace Go.Eng.Once
open Go Go.Proofs
theorem disable (w:World):(callFunc 282 #[]).run Tryz.prog w= .ok (.value (.tuple #[])) w:=run_call_mark0 Tryz.func282 (by kernel_rfl) (by kernel_rfl) (by kernel_rfl) .disable (by kernel_rfl) w
theorem enable (w:World):(callFunc 284 #[]).run Tryz.prog w= .ok (.value (.tuple #[])) w:=run_call_mark0 Tryz.func284 (by kernel_rfl) (by kernel_rfl) (by kernel_rfl) .enable (by kernel_rfl) w
theorem acquire (a:Addr) (w:World):(callFunc 285 #[.pointer (some a)]).run Tryz.prog w= .ok (.value (.tuple #[])) w:=run_call_marked Tryz.func285 (by kernel_rfl) (by kernel_rfl) (by kernel_rfl) .acquire (by kernel_rfl) a w
theorem releaseMerge (a:Addr) (w:World):(callFunc 287 #[.pointer (some a)]).run Tryz.prog w= .ok (.value (.tuple #[])) w:=run_call_marked Tryz.func287 (by kernel_rfl) (by kernel_rfl) (by kernel_rfl) .releaseMerge (by kernel_rfl) a w
theorem load_done (b off:Nat) (x:Int) (w:World) (h0:w.cell? ⟨b,off,none⟩=some (.int .u32 x)):
  Calls Tryz.prog 237 #[.pointer (some ⟨b,off,none⟩)] w fun e w'=>e= .returned (.bool (x !=0))∧w'=w:=by
 have hl:=run_call_load (P:=Tryz.prog) Tryz.func265 (by kernel_rfl) (by kernel_rfl) (by kernel_rfl) .u32 (by kernel_rfl) h0
 go_enter Tryz.func237,Tryz.ntmps237
 go_wp2
 go_ret
 exact⟨rfl,rfl⟩
theorem store_deferred (a:Addr) (x:Value) (u:FrameMode) (w:World) (hc:w.cell? a=some x) (hz:w.frozen? a=false):
  CallsD Tryz.prog 268 #[.pointer (some a), .bool true] u w fun e u' w'=>u'=u∧(e= .returned (.tuple #[])∧w'=w.drew.setCell a (.int .u32 1)):=by
 have hc':w.drew.cell? a=some x:=by go_simp
 have hz':w.drew.frozen? a=false:=by go_simp
 have hst:=run_call_store (P:=Tryz.prog) Tryz.func276 (by kernel_rfl) (by kernel_rfl) (by kernel_rfl) (by kernel_rfl) (k:= .u32) (y:=1) hc' hz'
 go_enter_d Tryz.func268,Tryz.ntmps268
 go_wp2
 go_region_calls
 all_goals(go_end0;exact⟨rfl,rfl⟩)
theorem unlock_deferred (a:Addr) (u:FrameMode) (w:World) (hc:w.cell? a=some (.int .i32 1)) (hz:w.frozen? a=false):
  CallsD Tryz.prog 267 #[.pointer (some a)] u w fun e u' w'=>u'=u∧(e= .returned (.tuple #[])∧w'=w.setCell a (.int .i32 0)):=by
 have hd:=disable
 have he:=enable
 have hr:=releaseMerge
 have hadd:=run_call_add (P:=Tryz.prog) Tryz.func288 (by kernel_rfl) (by kernel_rfl) (by kernel_rfl) .i32 (by kernel_rfl) (y:= -1) (s:=0) hc hz (by simp [go_sem];rfl)
 have hcv:=run_convert_to_unsafe (P:=Tryz.prog) (src:=322) (dst:=326) Tryz.underlying322 Tryz.underlying326 (by kernel_rfl) hc
 go_enter_d Tryz.func267,Tryz.ntmps267
 go_wp2
 go_end0
 go_wp2
 go_end0
 exact⟨rfl,rfl⟩
theorem lock_free (a:Addr) (w:World) (hc:w.cell? a=some (.int .i32 0)) (hz:w.frozen? a=false):
  Calls Tryz.prog 266 #[.pointer (some a)] w fun e w'=>e= .returned (.tuple #[])∧w'=w.setCell a (.int .i32 1):=by
 have hd:=disable
 have he:=enable
 have ha:=acquire
 have hcas:=run_call_cas_hit (P:=Tryz.prog) Tryz.func283 (by kernel_rfl) (by kernel_rfl) (by kernel_rfl) .i32 (by kernel_rfl) (y:=1) hc hz
 have hc':(w.setCell a (.int .i32 1)).cell? a=some (.int .i32 1):=World.cell?_setCell_same w a _ hc
 have hcv:=run_convert_to_unsafe (P:=Tryz.prog) (src:=322) (dst:=326) Tryz.underlying322 Tryz.underlying326 (by kernel_rfl) hc'
 go_enter Tryz.func266,Tryz.ntmps266
 go_wp2
 first|go_end0|(simp only [Exit.inBlock,Exit.then];refine bodyPost_ret (results_none rfl _ _ _) rfl ?_)|refine bodyPost_ret (results_none rfl _ _ _) rfl ?_
 go_wp2
 go_end0
 exact⟨rfl,rfl⟩
theorem do_done (d:Int) (hd:¬d=0) (b off:Nat) (fv:Value) (w:World) (h0:w.cell? ⟨b,off,none⟩=some (.int .u32 d)):
  Calls Tryz.prog 196 #[.pointer (some ⟨b,off,none⟩),fv] w fun e w'=>e= .returned (.tuple #[])∧w'=w:=by
 have hl:=run_call_load (P:=Tryz.prog) Tryz.func265 (by kernel_rfl) (by kernel_rfl) (by kernel_rfl) .u32 (by kernel_rfl) h0
 have hnot:∀(x:Bool) (w:World),(Op.unary .not (.bool x)).run Tryz.prog w= .ok (.bool (!x)) w:=fun _ _=>rfl
 have hd':(d !=0)=true:=by simp [hd]
 go_enter Tryz.func196,Tryz.ntmps196
 go_wp2
 go_end0
 exact⟨rfl,rfl⟩
end Go.Eng.Once
end
section
namespace Go.Eng
open Go Go.Proofs Go.Cats
@[go_sem] theorem Cat.homs_zero (c:Cat) (x:Int):c.homs x 0=[]:=rfl
theorem Cat.homs_succ (c:Cat) (x:Int) (n:Nat):c.homs x (n+1)=c.homs x n++[c.hom x n]:=by simp [Cat.homs,List.range_succ]
@[go_sem] theorem Cat.homs_len (c:Cat) (x:Int) (n:Nat):(c.homs x n).length=n:=by simp [Cat.homs]
theorem Cat.homs_get (c:Cat) (x:Int) (n i:Nat) (h:i<n):(c.homs x n).getD i []=c.hom x i:=by
 simp [Cat.homs,List.getD_eq_getElem?_getD,h]
def onc (c:Cat) (x:Int) (d s:Int) (rows:Sv):List Sv:=[.bptr [] (dJ c),iv x, .v (.int .u32 d), .v (.int .i32 s), .v (.int .u32 0),rows]
attribute [go_sem] onc
theorem pV {c:Cat} (hs:Shape c) {x:Int}:Spec Tryz.prog 197 [.ptr 1 0] [(0,⟨2, .box (onc c x 0 1 (.v (.slice none 0 0)))⟩),(1,⟨1, .box [.ptr 0 0]⟩)] (.tup []) [(0,⟨1, .box (onc c x 0 1 (.sl 2))⟩),(1,⟨1, .box [.ptr 0 0]⟩),(2,⟨1, .arr (aC (c.homs x c.ob.toNat))⟩)]:=by
 refine aD (E:=TE) 2 Tryz.func197 rfl (by simp [Tryz.f197]) fun X hn hX=>?_
 have ⟨s1,s2,s3,s4,s5,s6,s7,s8,s9,s10,s11⟩:=hs
 refine cZ (Imp.adoptBs 0 5 2 _ rfl rfl rfl (by rw [hX];rfl)) ?_
 repeat'(first|refine wkQ ?_|refine Tw.f ?_ ?_|(refine fun(hc:(_:Bool)=_)=>?_;try simp only [hcS]at hc))
 refine aG (G:={i:Nat//i≤c.ob.toNat∧(True)}) (fun⟨i,_⟩=>[(1,iv i)]) [0] (fun⟨i,_⟩=>[(0,⟨1, .box (onc c x 0 1 (.sl 2))⟩),(1,⟨1, .box [.ptr 0 0]⟩),(2,⟨1, .arr (aC (c.homs x i))⟩)]) [0,1,2] (fun zz=>c.ob.toNat-zz.1) ⟨0,Nat.zero_le _,by first|trivial|simp⟩ ?_ ?_
 ·exact Imp.au hX
 rintro⟨i,hii,hwi⟩
 simp only [go_sem,simprocAttr]
 have hlen:=c.hom_len x i
 repeat'(first|refine wkQ ?_|refine Tw.f ?_ ?_|(refine kcQ fI ?_;refine krQ (fO ?_ ?_) ?_)|(refine fun(hc:(_:Bool)=_)=>?_;try simp only [hcS]at hc))
 all_goals try exact om_
 ·refine⟨⟨i+1,by omega,(by trivial)⟩,by simp only;omega,Imp.auto hX (by simp only [go_sem,simprocAttr,Cat.homs_succ])⟩
 ·(first|refine aB ?_|refine aA ?_);simp only [go_sem,simprocAttr,Tryz.f197]
  rw [show c.ob.toNat=i from by omega]
end Go.Eng
end
section
namespace Go.Eng
open Go Go.Proofs Go.Cats
theorem Hp.rebase {w0 w:World} {U S:Nat→Prop} {c:Nat→Cn} {rs:Nat→Rs} (hp:Hp w0 U S c rs w):Hp w U S c rs w:=
 ⟨rfl,rfl,rfl,Nat.le_refl _,Agree.refl _ _,hp.sub,fun b hb=>Nat.lt_of_lt_of_le (hp.ult b hb) hp.size,hp.res,hp.flt,hp.fu,hp.dis,hp.one⟩
theorem Hp.back {w0 w w':World} {U S:Nat→Prop} {c c':Nat→Cn} {rs rs':Nat→Rs} (hp:Hp w0 U S c rs w) (hq:Hp w U S c' rs' w'):Hp w0 U S c' rs' w':=
 ⟨hq.os.trans hp.os,hq.tape.trans hp.tape,hq.output.trans hp.output,Nat.le_trans hp.size hq.size,hp.unch.trans hq.unch,hq.sub,hp.ult,hq.res,hq.flt,hq.fu,hq.dis,hq.one⟩
theorem zM (i:Nat) (a b:Rs) (l:List (Nat×Rs)):upd (rsL ((i,b)::l)) i a=rsL ((i,a)::l):=by
 funext j
 simp only [rsL,dC,upd]
 split<;>simp_all
theorem uQ:aF Tryz.prog 196:=⟨_,Tryz.func196,rfl,rfl⟩
theorem vV:Spec Tryz.prog 196 [.bptr [] [.v (.int .u32 1), .v (.int .i32 0), .v (.int .u32 0)], .dead] [] (.tup []) []:=by
 intro w0 U S c0 vs hp ha
 simp only [Sv.okL,Sv.ok]at ha
 obtain⟨p,r,rfl,⟨_,_,hpt⟩,q,r',rfl,_,rfl⟩:=ha
 obtain⟨b,o,vs,rfl,_,hrd,hcell⟩:=hpt (oV _)
 simp only [RdL,RdV]at hrd
 obtain⟨x,r,rfl,rfl,hr2⟩:=hrd
 have h0:w0.cell? ⟨b,o,none⟩=some (.int .u32 1):=by simpa using hcell 0 _ rfl
 refine(Go.Eng.Once.do_done 1 (by decide) b o q w0 h0).mono ?_
 rintro e w' ⟨rfl,rfl⟩
 exact⟨.tuple #[],c0,rfl,hp,by simp [Sv.ok,Sv.okL],fun i hi=>⟨hi,rfl,rfl⟩⟩
section
variable {c:Cat} {x:Int}
def aDM (c:Cat) (x:Int):List (Nat×Rs):=[(0,⟨1, .box (onc c x 0 0 (.v (.slice none 0 0)))⟩),(1,⟨1, .box [.ptr 0 0]⟩)]
def aJW (c:Cat) (x:Int) (k:Nat) (d s:Int):List (Nat×Rs):=[(0,⟨k, .box (onc c x d s (.sl 2))⟩),(1,⟨1, .box [.ptr 0 0]⟩),(2,⟨1, .arr (aC (c.homs x c.ob.toNat))⟩)]
theorem aFr (hs:Shape c):Spec Tryz.prog 238 [.ptr 0 2, .fn 197 [.ptr 1 0]] (aDM c x) (.tup []) (aJW c x 3 1 0):=by
 intro w0 U S c0 vs hp ha
 simp only [Sv.okL,Sv.ok]at ha
 obtain⟨p,r,rfl,⟨_,rfl⟩,q,r',rfl,⟨us,rfl,u,r'',rfl,⟨_,rfl⟩,rfl⟩,rfl⟩:=ha
 obtain⟨d0,e0,f0,g0⟩:=hp.peek 0 2 1 (onc c x 0 0 (.v (.slice none 0 0))) rfl _ rfl
 obtain⟨d1,e1,f1,g1⟩:=hp.peek 0 3 1 (onc c x 0 0 (.v (.slice none 0 0))) rfl _ rfl
 simp only [Sv.ok]at g0 g1
 subst g0 g1
 have hp1:=hp.poke 0 3 1 (onc c x 0 0 (.v (.slice none 0 0))) rfl (by decide) (by show 3<6;decide) (.int .i32 1)
 rw [aDM,zM]at hp1
 obtain⟨d2,e2,f2,g2⟩:=hp1.peek 0 2 2 (onc c x 0 1 (.v (.slice none 0 0))) rfl _ rfl
 simp only [Sv.ok]at g2
 subst g2
 have hl:=run_call_load (P:=Tryz.prog) Tryz.func265 (by kernel_rfl) (by kernel_rfl) (by kernel_rfl) .u32 (by kernel_rfl) e2
 have hnot:∀(x:Bool) (w:World),(Op.unary .not (.bool x)).run Tryz.prog w= .ok (.bool (!x)) w:=fun _ _=>rfl
 have hcl:=pV hs (x:=x) (w0.setCell ⟨(c0 0).blk,3,none⟩ (.int .i32 1)) U S c0 [.pointer (some ⟨(c0 1).blk,0,none⟩)] hp1.rebase (by simp [Sv.okL,Sv.ok,rsL,dC,upd])
 show Calls Tryz.prog 238 #[.pointer (some ⟨(c0 0).blk,2,none⟩), .func (.func 197) #[] #[.pointer (some ⟨(c0 1).blk,0,none⟩)]] w0 _
 go_enter_defers Tryz.func238,Tryz.ntmps238
 go_wp2_with (first
  |(go_at_call 266;refine(Go.Eng.Once.lock_free ⟨(c0 0).blk,3,none⟩ _ (by go_simp) (by go_simp)).mono ?_;rintro e w' ⟨rfl,rfl⟩)
  |(go_at_call 237;refine(Go.Eng.Once.load_done _ _ 0 _ e2).mono ?_;rintro e w' ⟨rfl,rfl⟩)
  |(go_at_call 197;refine hcl.mono ?_;rintro e w2 ⟨v,c2,rfl,hp2,hv,hk⟩))
 simp only [Sv.ok,Sv.okL]at hv
 obtain⟨_,rfl,rfl⟩:=hv
 have hb:=(hk 0 (by show 1≤2;decide)).2.1
 have hp3:=(hp1.back hp2).drew.poke 0 2 1 (onc c x 0 1 (.sl 2)) rfl (by decide) (by show 2<6;decide) (.int .u32 1)
 rw [zM]at hp3
 have hp4:=hp3.poke 0 3 2 (onc c x 1 1 (.sl 2)) rfl (by decide) (by show 3<6;decide) (.int .i32 0)
 rw [zM]at hp4
 obtain⟨x1,a1,b1,r1⟩:=hp2.peek 0 2 1 (onc c x 0 1 (.sl 2)) rfl _ rfl
 obtain⟨x2,a2,b2,r2⟩:=hp3.peek 0 3 2 (onc c x 1 1 (.sl 2)) rfl _ rfl
 simp only [Sv.ok]at r1 r2
 subst r1 r2
 rw [hb]at hp3 hp4 a1 b1 a2 b2
 go_wp2
 refine leaves_cons (f:=268) (args:= #[.pointer (some ⟨(c0 0).blk,2,none⟩), .bool true]) (by simp) (by simp [go_sem]) ?_
 refine(Go.Eng.Once.store_deferred ⟨(c0 0).blk,2,none⟩ (.int .u32 0) .returning _ a1 b1).mono ?_
 rintro e u' w'' ⟨rfl,rfl,rfl⟩
 refine leaves_cons (f:=267) (args:= #[.pointer (some ⟨(c0 0).blk,3,none⟩)]) (by simp [settle]) (by simp [go_sem]) ?_
 refine(Go.Eng.Once.unlock_deferred ⟨(c0 0).blk,3,none⟩ _ _ a2 b2).mono ?_
 rintro e u' w'' ⟨rfl,rfl,rfl⟩
 simp [Leaves,settle,results,Tryz.results238]
 refine⟨c2,hp4,by simp [Sv.ok,Sv.okL],fun i hi=>?_⟩
 rcases i with _|_|i
 ·exact⟨by show 1≤3;decide,(hk 0 (by show 1≤2;decide)).2⟩
 ·exact⟨by show 1≤1;decide,(hk 1 (by show 1≤1;decide)).2⟩
 ·simp [aDM,rsL,dC,upd]at hi
theorem aFu (hs:Shape c):Spec Tryz.prog 196 [.ptr 0 2, .fn 197 [.ptr 1 0]] (aDM c x) (.tup []) (aJW c x 3 1 0):=by
 intro w0 U S c0 vs hp ha
 have hslow:=aFr hs (x:=x) w0 U S c0 vs hp ha
 simp only [Sv.okL,Sv.ok]at ha
 obtain⟨p,r,rfl,⟨_,rfl⟩,q,r',rfl,⟨us,rfl,u,r'',rfl,⟨_,rfl⟩,rfl⟩,rfl⟩:=ha
 obtain⟨d0,e0,f0,g0⟩:=hp.peek 0 2 1 (onc c x 0 0 (.v (.slice none 0 0))) rfl _ rfl
 simp only [Sv.ok]at g0
 subst g0
 have hnot:∀(x:Bool) (w:World),(Op.unary .not (.bool x)).run Tryz.prog w= .ok (.bool (!x)) w:=fun _ _=>rfl
 have hslow':Calls Tryz.prog 238 #[.pointer (some ⟨(c0 0).blk,2,none⟩), .func (.func 197) #[] #[.pointer (some ⟨(c0 1).blk,0,none⟩)]] w0 _:=hslow
 show Calls Tryz.prog 196 #[.pointer (some ⟨(c0 0).blk,2,none⟩), .func (.func 197) #[] #[.pointer (some ⟨(c0 1).blk,0,none⟩)]] w0 _
 go_enter Tryz.func196,Tryz.ntmps196
 go_wp2_with (first
  |(go_at_call 237;refine(Go.Eng.Once.load_done _ _ 0 _ e0).mono ?_;rintro e w' ⟨rfl,rfl⟩)
  |(go_at_call 238;refine hslow'.mono ?_;rintro e w2 ⟨v,c2,rfl,hp2,hv,hk⟩))
 go_end0
 simp only [Sv.ok,Sv.okL]at hv
 obtain⟨_,rfl,rfl⟩:=hv
 exact⟨_,c2,rfl,hp2,by simp [Sv.ok,Sv.okL],hk⟩
end
end Go.Eng
end
