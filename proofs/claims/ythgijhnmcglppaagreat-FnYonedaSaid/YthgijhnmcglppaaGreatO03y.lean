/- Several texts in one: O03, O04, H06, P41b. -/
import Derived.Test.YthgijhnmcglppaaGreatKex
import Derived.Test.YthgijhnmcglppaaGreatH01q
import Derived.Test.YthgijhnmcglppaaGreatO01y
import Derived.Test.YthgijhnmcglppaaGreatRows
import Derived.JoinedOf
import Derived.ProofKit
set_option linter.unusedSimpArgs false
set_option linter.unusedVariables false
set_option maxRecDepth 100000
set_option maxHeartbeats 16000000
section
namespace Go.Eng
open Go Go.Proofs Go.Cats
theorem Hp.rebase {w0 w:World} {U S:Nat→Prop} {c:Nat→Cn} {rs:Nat→Rs} (hp:Hp w0 U S c rs w):Hp w U S c rs w:=
 ⟨rfl,rfl,rfl,Nat.le_refl _,Agree.refl _ _,hp.sub,fun b hb=>Nat.lt_of_lt_of_le (hp.ult b hb) hp.size,hp.res,hp.flt,hp.fu,hp.dis,hp.one⟩
theorem Hp.back {w0 w w':World} {U S:Nat→Prop} {c c':Nat→Cn} {rs rs':Nat→Rs} (hp:Hp w0 U S c rs w) (hq:Hp w U S c' rs' w'):Hp w0 U S c' rs' w':=
 ⟨hq.os.trans hp.os,hq.tape.trans hp.tape,hq.output.trans hp.output,Nat.le_trans hp.size hq.size,hp.unch.trans hq.unch,hq.sub,hp.ult,hq.res,hq.flt,hq.fu,hq.dis,hq.one⟩
theorem zC (i:Nat) (a b:Rs) (l:List (Nat×Rs)):upd (rsL ((i,b)::l)) i a=rsL ((i,a)::l):=by
 funext j
 simp only [rsL,dJ,upd]
 split<;>simp_all
theorem uQ:aE Tryz.prog 279:=⟨_,Tryz.func279,rfl,rfl⟩
theorem vV:Spec Tryz.prog 279 [.bptr [] [.v (.int .u32 1), .v (.int .i32 0), .v (.int .u32 0)], .dead] [] (.tup []) []:=by
 intro w0 U S c0 vs hp ha
 simp only [Sv.okL,Sv.ok]at ha
 obtain⟨p,r,rfl,⟨_,_,hpt⟩,q,r',rfl,_,rfl⟩:=ha
 obtain⟨b,o,vs,rfl,_,hrd,hcell⟩:=hpt (oX _)
 simp only [RdL,RdV]at hrd
 obtain⟨x,r,rfl,rfl,hr2⟩:=hrd
 have h0:w0.cell? ⟨b,o,none⟩=some (.int .u32 1):=by simpa using hcell 0 _ rfl
 refine(Go.Eng.Once.do_done 1 (by decide) b o q w0 h0).mono ?_
 rintro e w' ⟨rfl,rfl⟩
 exact⟨.tuple #[],c0,rfl,hp,by simp [Sv.ok,Sv.okL],fun i hi=>⟨hi,rfl,rfl⟩⟩
section
variable {c:Cat} {x:Int}
def aDs (c:Cat) (x:Int):List (Nat×Rs):=[(0,⟨1, .box (onc c x 0 0 (.v (.slice none 0 0)))⟩),(1,⟨1, .box [.ptr 0 0]⟩)]
def aI1 (c:Cat) (x:Int) (k:Nat) (d s:Int):List (Nat×Rs):=[(0,⟨k, .box (onc c x d s (.sl 2))⟩),(1,⟨1, .box [.ptr 0 0]⟩),(2,⟨1, .arr (aC (c.homs x c.ob.toNat))⟩)]
theorem aE0 (hs:Shape c):Spec Tryz.prog 332 [.ptr 0 2, .fn 280 [.ptr 1 0]] (aDs c x) (.tup []) (aI1 c x 3 1 0):=by
 intro w0 U S c0 vs hp ha
 simp only [Sv.okL,Sv.ok]at ha
 obtain⟨p,r,rfl,⟨_,rfl⟩,q,r',rfl,⟨us,rfl,u,r'',rfl,⟨_,rfl⟩,rfl⟩,rfl⟩:=ha
 obtain⟨d0,e0,f0,g0⟩:=hp.peek 0 2 1 (onc c x 0 0 (.v (.slice none 0 0))) rfl _ rfl
 obtain⟨d1,e1,f1,g1⟩:=hp.peek 0 3 1 (onc c x 0 0 (.v (.slice none 0 0))) rfl _ rfl
 simp only [Sv.ok]at g0 g1
 subst g0 g1
 have hp1:=hp.poke 0 3 1 (onc c x 0 0 (.v (.slice none 0 0))) rfl (by decide) (by show 3<6;decide) (.int .i32 1)
 rw [aDs,zC]at hp1
 obtain⟨d2,e2,f2,g2⟩:=hp1.peek 0 2 2 (onc c x 0 1 (.v (.slice none 0 0))) rfl _ rfl
 simp only [Sv.ok]at g2
 subst g2
 have hl:=run_call_load (P:=Tryz.prog) Tryz.func352 (by kernel_rfl) (by kernel_rfl) (by kernel_rfl) .u32 (by kernel_rfl) e2
 have hnot:∀(x:Bool) (w:World),(Op.unary .not (.bool x)).run Tryz.prog w= .ok (.bool (!x)) w:=fun _ _=>rfl
 have hcl:=pY hs (x:=x) (w0.setCell ⟨(c0 0).blk,3,none⟩ (.int .i32 1)) U S c0 [.pointer (some ⟨(c0 1).blk,0,none⟩)] hp1.rebase (by simp [Sv.okL,Sv.ok,rsL,dJ,upd])
 show Calls Tryz.prog 332 #[.pointer (some ⟨(c0 0).blk,2,none⟩), .func (.func 280) #[] #[.pointer (some ⟨(c0 1).blk,0,none⟩)]] w0 _
 go_enter_defers Tryz.func332,Tryz.ntmps332
 go_wp2_with (first
  |(go_at_call 353;refine(Go.Eng.Once.lock_free ⟨(c0 0).blk,3,none⟩ _ (by go_simp) (by go_simp)).mono ?_;rintro e w' ⟨rfl,rfl⟩)
  |(go_at_call 331;refine(Go.Eng.Once.load_done _ _ 0 _ e2).mono ?_;rintro e w' ⟨rfl,rfl⟩)
  |(go_at_call 280;refine hcl.mono ?_;rintro e w2 ⟨v,c2,rfl,hp2,hv,hk⟩))
 simp only [Sv.ok,Sv.okL]at hv
 obtain⟨_,rfl,rfl⟩:=hv
 have hb:=(hk 0 (by show 1≤2;decide)).2.1
 have hp3:=(hp1.back hp2).drew.poke 0 2 1 (onc c x 0 1 (.sl 2)) rfl (by decide) (by show 2<6;decide) (.int .u32 1)
 rw [zC]at hp3
 have hp4:=hp3.poke 0 3 2 (onc c x 1 1 (.sl 2)) rfl (by decide) (by show 3<6;decide) (.int .i32 0)
 rw [zC]at hp4
 obtain⟨x1,a1,b1,r1⟩:=hp2.peek 0 2 1 (onc c x 0 1 (.sl 2)) rfl _ rfl
 obtain⟨x2,a2,b2,r2⟩:=hp3.peek 0 3 2 (onc c x 1 1 (.sl 2)) rfl _ rfl
 simp only [Sv.ok]at r1 r2
 subst r1 r2
 rw [hb]at hp3 hp4 a1 b1 a2 b2
 go_wp2
 refine leaves_cons (f:=355) (args:= #[.pointer (some ⟨(c0 0).blk,2,none⟩), .bool true]) (by simp) (by simp [go_sem]) ?_
 refine(Go.Eng.Once.store_deferred ⟨(c0 0).blk,2,none⟩ (.int .u32 0) .returning _ a1 b1).mono ?_
 rintro e u' w'' ⟨rfl,rfl,rfl⟩
 refine leaves_cons (f:=354) (args:= #[.pointer (some ⟨(c0 0).blk,3,none⟩)]) (by simp [settle]) (by simp [go_sem]) ?_
 refine(Go.Eng.Once.unlock_deferred ⟨(c0 0).blk,3,none⟩ _ _ a2 b2).mono ?_
 rintro e u' w'' ⟨rfl,rfl,rfl⟩
 simp [Leaves,settle,results,Tryz.results332]
 refine⟨c2,hp4,by simp [Sv.ok,Sv.okL],fun i hi=>?_⟩
 rcases i with _|_|i
 ·exact⟨by show 1≤3;decide,(hk 0 (by show 1≤2;decide)).2⟩
 ·exact⟨by show 1≤1;decide,(hk 1 (by show 1≤1;decide)).2⟩
 ·simp [aDs,rsL,dJ,upd]at hi
theorem aE4 (hs:Shape c):Spec Tryz.prog 279 [.ptr 0 2, .fn 280 [.ptr 1 0]] (aDs c x) (.tup []) (aI1 c x 3 1 0):=by
 intro w0 U S c0 vs hp ha
 have hslow:=aE0 hs (x:=x) w0 U S c0 vs hp ha
 simp only [Sv.okL,Sv.ok]at ha
 obtain⟨p,r,rfl,⟨_,rfl⟩,q,r',rfl,⟨us,rfl,u,r'',rfl,⟨_,rfl⟩,rfl⟩,rfl⟩:=ha
 obtain⟨d0,e0,f0,g0⟩:=hp.peek 0 2 1 (onc c x 0 0 (.v (.slice none 0 0))) rfl _ rfl
 simp only [Sv.ok]at g0
 subst g0
 have hnot:∀(x:Bool) (w:World),(Op.unary .not (.bool x)).run Tryz.prog w= .ok (.bool (!x)) w:=fun _ _=>rfl
 have hslow':Calls Tryz.prog 332 #[.pointer (some ⟨(c0 0).blk,2,none⟩), .func (.func 280) #[] #[.pointer (some ⟨(c0 1).blk,0,none⟩)]] w0 _:=hslow
 show Calls Tryz.prog 279 #[.pointer (some ⟨(c0 0).blk,2,none⟩), .func (.func 280) #[] #[.pointer (some ⟨(c0 1).blk,0,none⟩)]] w0 _
 go_enter Tryz.func279,Tryz.ntmps279
 go_wp2_with (first
  |(go_at_call 331;refine(Go.Eng.Once.load_done _ _ 0 _ e0).mono ?_;rintro e w' ⟨rfl,rfl⟩)
  |(go_at_call 332;refine hslow'.mono ?_;rintro e w2 ⟨v,c2,rfl,hp2,hv,hk⟩))
 go_end0
 simp only [Sv.ok,Sv.okL]at hv
 obtain⟨_,rfl,rfl⟩:=hv
 exact⟨_,c2,rfl,hp2,by simp [Sv.ok,Sv.okL],hk⟩
end
end Go.Eng
end
section
namespace Go.Eng
open Go Go.Proofs Go.Cats
attribute [go_sem] aDs aI1
def aI0 (c:Cat) (x:Int) (rows:List (List Int)):List Dt:=[.pt (fP c), .v (.int .i64 x), .v (.int .u32 1), .v (.int .i32 0), .v (.int .u32 0),aC rows]
section
variable (c:Cat) (x:Int) (rows:List (List Int))
@[go_sem] theorem aU9:((aI0 c x rows).drop 2).take 3=[.v (.int .u32 1), .v (.int .i32 0), .v (.int .u32 0)]:=rfl
@[go_sem] theorem aVa:((aI0 c x rows).drop 5).take 1=[aC rows]:=rfl
end
theorem dV:aE Tryz.prog 208:=⟨_,Tryz.func208,rfl,rfl⟩
theorem lM {c:Cat} (hs:Shape c) {x:Int}:Spec Tryz.prog 208 [.ptr 0 0] [(0,⟨1, .box (onc c x 0 0 (.v (.slice none 0 0)))⟩)] (.sl 1) [(0,⟨1, .box (onc c x 1 0 (.sl 1))⟩),(1,⟨1, .arr (aC (c.homs x c.ob.toNat))⟩)]:=by
 refine aD (E:=TE) 1 Tryz.func208 rfl (by simp [Tryz.f208]) fun X hn hX=>?_
 repeat'(first|refine wkQ ?_|refine Tw.f ?_ ?_|(refine kcQ uQ ?_;refine kwQ (aE4 (x:=x) hs) [(0,0),(1,1),(2,2)] [] ?_)|(refine fun(hc:(_:Bool)=_)=>?_;try simp only [hcS]at hc))
 all_goals try exact om_
 (first|refine aB ?_|refine aA ?_);simp only [go_sem,simprocAttr,Tryz.f208]
theorem gW {c:Cat} {x:Int} {rows:List (List Int)}:Spec Tryz.prog 208 [.bptr [] (aI0 c x rows)] [] (.bor [] (aC rows)) []:=by
 refine aD (E:=TE) 0 Tryz.func208 rfl (by simp [Tryz.f208]) fun X hn hX=>?_
 repeat'(first|refine wkQ ?_|refine Tw.f ?_ ?_|(refine kcQ uQ ?_;refine kwQ (vV) [] [] ?_)|(refine fun(hc:(_:Bool)=_)=>?_;try simp only [hcS]at hc))
 all_goals try exact om_
 (first|refine aB ?_|refine aA ?_);simp only [go_sem,simprocAttr,Tryz.f208]
end Go.Eng
end
section
namespace Go.Eng
open Go Go.Proofs Go.Cats
theorem aLo:SMB aIX:=by
 have hnil:SFB aDr:=⟨⟨by decide,by decide,by decide,by decide,by decide,by decide,fun f h=>by simp [aDr]at h⟩,by decide,by decide,fun a h=>by simp [aDr]at h⟩
 exact⟨hnil,hnil,by decide,fun a h=>by simp [aIX]at h⟩
end Go.Eng
end
section
namespace Go.Proofs.YthgijhnmcglppaaGreat
open Go Go.Eng Go.Cats Go.ChangeShapes Go.WideShapes Go.RowKit
theorem aGv:joinedFacts Tryz.pinned.checked.prog 7 Tryz.f7 Rows.fnYonedaSpec Rows.fnYonedaRow=true:=by
 unfold joinedFacts
 simp only [Bool.and_eq_true]
 repeat' with_reducible apply And.intro
 all_goals(as_aux_lemma=>kernel_rfl)
end Go.Proofs.YthgijhnmcglppaaGreat
end
