/- The search of functors by the program: object by object; all functors. -/
import Derived.Test.YthgijhnmcglppaaGreatKcgx
set_option linter.unusedSimpArgs false
set_option linter.unusedVariables false
set_option maxRecDepth 100000
set_option maxHeartbeats 16000000
namespace Go.Eng
open Go Go.Proofs Go.Cats
attribute [local go_sem] List.set_cons_zero List.set_cons_succ aDx tZ List.map_nil
def _root_.Go.Cats.endO (r:Bool×List Fun) (A:List Int):List Int:=if r.1=true then A else(r.2.getLastD default).obs
theorem aQL {o:List Fun} {A:List Int}:endO (true,o) A=A:=rfl
theorem mH:aD Tryz.prog 253:=⟨_,Tryz.func253,rfl,rfl⟩
theorem aAN {c d:Cat} {b:Bool} {P A:List Int} {M:Nat} {F:List Fun} (sc:IsCat c) (sd:IsCat d) (bc:CatB c) (bd:CatB d) (hM:M≤4096) (hP:XOK c d b P) (hA:A.length=c.fr.length) (hF:F.length≤M):
  Spec Tryz.prog 253 [.ptr 0 0,iv P.length] [(0,⟨1, .box [.bptr [] (aW c), .bptr [] (aW d), .sl 1, .sl 2, .v (.bool b), .fn 252 [.ptr 3 0, .ptr 4 0, .ptr 5 0, .ptr 6 0]]⟩),(1,⟨1, .arr (ints (P))⟩),(2,⟨1, .arr (ints (A))⟩),(3,⟨1, .bx [.dead] 0 (bM (F))⟩),(4,⟨1, .box [.bptr [] (aW c)]⟩),(5,⟨1, .box [.bptr [] (aW d)]⟩),(6,⟨1, .box [iv M]⟩)] (bv (eat (stL M) (F) (cZ c d b (0) (P))).1) [(0,⟨1, .box [.bptr [] (aW c), .bptr [] (aW d), .sl 1, .sl 2, .v (.bool b), .fn 252 [.ptr 3 0, .ptr 4 0, .ptr 5 0, .ptr 6 0]]⟩),(1,⟨1, .arr (ints (endO (eat (stL M) (F) (cZ c d b (0) (P))) (rG c d b 0 (P,A)).1))⟩),(2,⟨1, .arr (ints (endA (eat (stL M) (F) (cZ c d b (0) (P))) (rG c d b 0 (P,A)).2))⟩),(3,⟨1, .bx [.dead] 0 (bM ((eat (stL M) (F) (cZ c d b (0) (P))).2))⟩),(4,⟨1, .box [.bptr [] (aW c)]⟩),(5,⟨1, .box [.bptr [] (aW d)]⟩),(6,⟨1, .box [iv M]⟩)]:=by
 have m40:=sc.toShape.m40
 have n40:=sd.toShape.m40
 have tol:=sc.toShape.tol
 have nol:=sd.toShape.tol
 have hPl:=hP.len
 have cil:=sc.toShape.idl
 have dil:=sd.toShape.idl
 have n8:=sc.toShape.ob8
 have o0:=sc.toShape.ob0
 refine aC (E:=TE) 7 Tryz.func253 rfl (by simp [Tryz.f253]) fun X hn hX=>?_
 repeat'(first|refine wkQ ?_|refine Tw.f ?_ ?_|(refine fun(hc:(_:Bool)=_)=>?_;try simp only [hcS]at hc))
 all_goals try exact om_
 refine aG (G:={a:Nat//a≤A.length∧(True)}) (fun⟨a,_⟩=>[(23,iv a)]) [0,1,4,22] (fun⟨a,_⟩=>[(2,⟨1, .arr (ints (List.replicate a (-1)++A.drop a))⟩)]) [2] (fun zz=>A.length-zz.1) ⟨0,Nat.zero_le _,by first|trivial|simp⟩ ?_ ?_
 ·exact Imp.au hX
 rintro⟨a,hia,hwa⟩
 simp only [go_sem,simprocAttr]
 rcases Nat.lt_or_ge a A.length with hlt|hge
 ·have e1:=aTD (v:= -1) hlt
  repeat'(first|refine wkQ ?_|refine Tw.f ?_ ?_|(refine fun(hc:(_:Bool)=_)=>?_;try simp only [hcS]at hc))
  all_goals try exact om_
  ·refine⟨⟨a+1,by omega,(by trivial)⟩,by simp only;omega,Imp.auto hX (by simp only [go_sem,simprocAttr,e1])⟩
 ·have ea:List.replicate a (-1)++A.drop a=bW c d P 0:=by rw [List.drop_eq_nil_of_le hge,List.append_nil,show a=c.fr.length by omega];rfl
  rw [ea]
  repeat'(first|refine wkQ ?_|refine Tw.f ?_ ?_|(refine fun(hc:(_:Bool)=_)=>?_;try simp only [hcS]at hc))
  all_goals try exact om_
  refine aG (G:={y:Nat//y≤c.id.length∧(True)}) (fun⟨y,_⟩=>[(41,iv y)]) [0,1,4,39,40] (fun⟨y,_⟩=>[(2,⟨1, .arr (ints (bW c d P y))⟩)]) [2] (fun zz=>c.id.length-zz.1) ⟨0,Nat.zero_le _,by first|trivial|simp⟩ ?_ ?_
  ·exact Imp.au hX
  rintro⟨y,hiy,hwy⟩
  simp only [go_sem,simprocAttr]
  have sl:=dX (c:=c) (d:=d) (X:=P) y
  rcases Nat.lt_or_ge y c.id.length with hly|hgy
  ·have i1:=qE sc.toShape hly
   have i2:=lX sc.toShape sd.toShape hP hly
   repeat'(first|refine wkQ ?_|refine Tw.f ?_ ?_|(refine fun(hc:(_:Bool)=_)=>?_;try simp only [hcS]at hc))
   all_goals try exact om_
   ·refine⟨⟨y+1,by omega,(by trivial)⟩,by simp only;omega,Imp.auto hX (by simp only [go_sem,simprocAttr,show(bW c d P y).set (c.id.getD y 0).toNat (d.id.getD (P.getD y 0).toNat 0)=bW c d P (y+1) from rfl])⟩
  ·have ey:y=c.id.length:=by omega
   subst ey
   have hsp:=oY (b:=b) (P:=P) (F:=F) (M:=M) sc.toShape sd.toShape (tB sc.toShape sd.toShape hP (Nat.le_refl _))
   have hT:=aK0 (b:=b) sc.toShape sd.toShape hP
   rw [show iE c d P=bW c d P c.id.length from rfl]at hT
   obtain⟨ok,C,hTe⟩:∃ok C,eL c d b (bW c d P c.id.length)=(ok,C):=⟨_,_,rfl⟩
   have hG:rG c d b 0 (P,A)=(P,C):=by
    show(P,(eL c d b (iE c d P)).2)=_
    rw [show iE c d P=bW c d P c.id.length from rfl,hTe]
   rw [hTe]at hT hsp
   simp only at hsp
   rw [hG]
   cases ok with
   |false=>
    have hE:=hT.no rfl
    have hfx:cZ c d b 0 P=[]:=by rw [cZ,hE];rfl
    rw [hfx]
    repeat'(first|refine wkQ ?_|refine Tw.f ?_ ?_|(refine kcQ eY ?_;refine kwQ (hsp) [(0,0),(1,1),(2,2),(3,3),(4,4),(5,5),(6,6)] [] ?_)|(refine fun(hc:(_:Bool)=_)=>?_;try simp only [hcS]at hc))
    all_goals try exact om_
    ·(first|refine aB ?_|refine aA ?_);simp only [go_sem,simprocAttr,Tryz.f253]
     exact⟨rfl,rfl⟩
   |true=>
    obtain⟨g1,g2⟩:=hT.yes rfl
    simp only at g1 g2
    have hrun:=oX sc sd bc bd hM hP (uns C+1) F C g1 (Nat.lt_succ_self _) hF
    have hfx:cZ c d b 0 P=(dO (WA c d b P) (sA c d) C).map (mkF c d P):=by rw [cZ,g2];rfl
    obtain⟨ok2,F3,hr⟩:∃ok2 F3,eat (stL M) F ((dO (WA c d b P) (sA c d) C).map (mkF c d P))=(ok2,F3):=⟨_,_,rfl⟩
    have hO:endO (ok2,F3) P=P:=by
     cases ok2 with
     |true=>rfl
     |false=>
      obtain⟨q,h1,h2⟩:=aFQ (z:=default) (by rw [hr]:(eat (stL M) F ((dO (WA c d b P) (sA c d) C).map (mkF c d P))).1=false)
      rw [hr]at h2
      obtain⟨Q,_,rfl⟩:=List.mem_map.1 h1
      show(F3.getLastD default).obs=P
      rw [h2];rfl
    rw [hr]at hrun
    rw [hfx,hr]
    simp only at hrun⊢
    rw [hO]
    repeat'(first|refine wkQ ?_|refine Tw.f ?_ ?_|(refine kcQ eY ?_;refine kwQ (hsp) [(0,0),(1,1),(2,2),(3,3),(4,4),(5,5),(6,6)] [] ?_)|(refine kcQ kZ ?_;refine kwQ (hrun) [(0,0),(1,1),(2,2),(3,3),(4,4),(5,5),(6,6)] [] ?_)|(refine fun(hc:(_:Bool)=_)=>?_;try simp only [hcS]at hc))
    all_goals try exact om_
    ·(first|refine aB ?_|refine aA ?_);simp only [go_sem,simprocAttr,Tryz.f253]
theorem xP {l:List Int} {n:Int} {v:Bool} (hl:l.length≤1048576) (h:dec (n∈l)=v):Spec Tryz.prog 305 [.bor [] (ints l),iv n] [] (bv v) []:=by
 subst h
 exact aRS hl
theorem aPg {f:Ps→Ps} {c d:Cat} {b:Bool} {x:Nat} {s:Ps}:rL f c d b x 0 s=s:=rfl
attribute [local go_sem] zS aPg
theorem qH {c d:Cat} {b:Bool} {M:Nat} (sc:IsCat c) (sd:IsCat d) (bc:CatB c) (bd:CatB d) (hM:M≤4096):∀(r x:Nat) (P A:List Int) (F:List Fun),(P.length:Int)=c.ob→x+r=P.length→Within (P.take x) d.ob→(b=true→NdI (P.take x))→A.length=c.fr.length→F.length≤M→
  Spec Tryz.prog 253 [.ptr 0 0,iv x] [(0,⟨1, .box [.bptr [] (aW c), .bptr [] (aW d), .sl 1, .sl 2, .v (.bool b), .fn 252 [.ptr 3 0, .ptr 4 0, .ptr 5 0, .ptr 6 0]]⟩),(1,⟨1, .arr (ints (P))⟩),(2,⟨1, .arr (ints (A))⟩),(3,⟨1, .bx [.dead] 0 (bM (F))⟩),(4,⟨1, .box [.bptr [] (aW c)]⟩),(5,⟨1, .box [.bptr [] (aW d)]⟩),(6,⟨1, .box [iv M]⟩)] (bv (eat (stL M) (F) (cZ c d b (r) (P.take x))).1) [(0,⟨1, .box [.bptr [] (aW c), .bptr [] (aW d), .sl 1, .sl 2, .v (.bool b), .fn 252 [.ptr 3 0, .ptr 4 0, .ptr 5 0, .ptr 6 0]]⟩),(1,⟨1, .arr (ints (endO (eat (stL M) (F) (cZ c d b (r) (P.take x))) (rG c d b r (P,A)).1))⟩),(2,⟨1, .arr (ints (endA (eat (stL M) (F) (cZ c d b (r) (P.take x))) (rG c d b r (P,A)).2))⟩),(3,⟨1, .bx [.dead] 0 (bM ((eat (stL M) (F) (cZ c d b (r) (P.take x))).2))⟩),(4,⟨1, .box [.bptr [] (aW c)]⟩),(5,⟨1, .box [.bptr [] (aW d)]⟩),(6,⟨1, .box [iv M]⟩)]
 |0,x,P,A,F,hPl,hx,hw,hnd,hA,hF=>by
  have ex:P.take x=P:=List.take_of_length_le (by omega)
  rw [ex]at hw hnd⊢
  rw [show x=P.length by omega]
  exact aAN sc sd bc bd hM ⟨hPl,hw,hnd⟩ hA hF
 |r+1,x,P,A,F,hPl,hx,hw,hnd,hA,hF=>by
  have m40:=sc.toShape.m40
  have n40:=sd.toShape.m40
  have n8:=sc.toShape.ob8
  have o0:=sc.toShape.ob0
  have q8:=sd.toShape.ob8
  have q0:=sd.toShape.ob0
  have hGx:rG c d b (r+1) (P,A)=rL (rG c d b r) c d b x d.ob.toNat (P,A):=by rw [rG,show P.length-(r+1)=x by omega]
  rw [hGx,aFW]
  refine aC (E:=TE) 7 Tryz.func253 rfl (by simp [Tryz.f253]) fun X hn hX=>?_
  repeat'(first|(with_reducible first|refine St.f ?_|refine V_c ?_|refine eDn ?_|refine And.intro ?_ ?_|refine aJ ?_ ?_|refine aO ?_)|((refine aV ?_);intro K hK)|((with_reducible refine So.f ?_);intro K hK;simp(contextual:=true)only [go_sem,simprocAttr])|((with_reducible refine hK _ ?_);clear hK K)|(refine fun(hc:(_:Bool)=_)=>?_;try simp only [hcS]at hc))
  all_goals try exact om_
  refine aG (G:={y:Nat//y≤d.ob.toNat∧((eat (stL M) F (gC c d b r (P.take x) y)).1=true)}) (fun⟨y,_⟩=>[(8,iv y)]) [0,1] (fun⟨y,_⟩=>[(1,⟨1, .arr (ints (rL (rG c d b r) c d b x y (P,A)).1)⟩),(2,⟨1, .arr (ints (rL (rG c d b r) c d b x y (P,A)).2)⟩),(3,⟨1, .bx [.dead] 0 (bM (eat (stL M) F (gC c d b r (P.take x) y)).2)⟩)]) [1,2,3] (fun zz=>d.ob.toNat-zz.1) ⟨0,Nat.zero_le _,by rfl⟩ ?_ ?_
  ·exact Imp.au hX
  rintro⟨y,hiy,hwy⟩
  simp only [go_sem,simprocAttr]
  have hF2:=aFP hF hwy
  obtain⟨k1,k2,k3⟩:=aCd (c:=c) (d:=d) (b:=b) (f:=rG c d b r) (x:=x) (n:=P.length) (m:=c.fr.length) (s:=(P,A)) (by have:=aGy (c:=c) (d:=d) (b:=b) (r:=r) (n:=P.length) (by omega);rwa [show P.length-r=x+1 by omega]at this) rfl hA y
  obtain⟨F2,hF2e⟩:∃F2,eat (stL M) F (gC c d b r (P.take x) y)=(true,F2):=⟨_,Prod.ext hwy rfl⟩
  rcases Nat.lt_or_ge y d.ob.toNat with hlt|hge
  ·have hskip:=aI9 (f:=rG c d b r) (c:=c) (d:=d) (b:=b) (x:=x) (y:=y) (s:=(P,A))
   have hno:=aQi (f:=rG c d b r) (c:=c) (d:=d) (b:=b) (x:=x) (y:=y) (s:=(P,A))
   have hyes:=aNb (f:=rG c d b r) (c:=c) (d:=d) (b:=b) (x:=x) (y:=y) (s:=(P,A))
   obtain⟨Z1,Z2,hZ⟩:∃Z1 Z2,rL (rG c d b r) c d b x y (P,A)=(Z1,Z2):=⟨_,_,rfl⟩
   rw [hZ]at hskip hno hyes k1 k2 k3⊢
   rw [hF2e]at hF2 hwy⊢
   simp only at hskip hno hyes k1 k2 k3 hF2
   have hbs:=nI (c:=c) (d:=d) (b:=b) (r:=r) (X:=P.take x) (y:=y)
   have htk:(Z1.set x (y:Int)).take (x+1)=P.take x++[(y:Int)]:=by rw [aDl (by omega),k3]
   have htl:(Z1.take x).length≤1048576:=by rw [List.length_take];omega
   by_cases hs:b=true∧(y:Int)∈Z1.take x
   ·have eZ:=hskip hs
    obtain⟨hb,hmem⟩:=hs
    subst hb
    have hm:dec ((y:Int)∈Z1.take x)=true:=cV hmem
    have hne:eat (stL M) F (gC c d true r (P.take x) (y+1))=(true,F2):=by rw [hbs,aIY (by rw [←k3];exact hmem),List.append_nil,hF2e]
    repeat'(first|(with_reducible first|refine St.f ?_|refine V_c ?_|refine eDn ?_|refine And.intro ?_ ?_|refine aJ ?_ ?_|refine aO ?_)|((refine aV ?_);intro K hK)|((with_reducible refine So.f ?_);intro K hK;simp(contextual:=true)only [go_sem,simprocAttr])|((with_reducible refine hK _ ?_);clear hK K)|((with_reducible refine aE 305 ?_);refine EvCall.rq (a:=(xP (v:=true) (by first|omega|assumption|rfl) (by first|omega|assumption|rfl))) (b:=aAV) (c:=?_);all_goals try simp only [go_sem,simprocAttr])|(refine wR (k:= .i64) (i:=1) (A:=Z1) (n:=x) (by simp only [go_sem,simprocAttr];rfl) (by simp only [go_sem,simprocAttr]) (by simp only [go_sem,simprocAttr];rfl) (by decide) (by simp only [go_sem,simprocAttr]) (by omega) ?_;simp only [go_sem,simprocAttr])|(refine fun(hc:(_:Bool)=_)=>?_;try simp only [hcS]at hc))
    all_goals try exact om_
    ·refine⟨⟨y+1,by omega,(by(rw [hne]))⟩,by simp only;omega,Imp.auto hX (by simp only [go_sem,simprocAttr,hne,eZ])⟩
   ·have hm:b=true→dec ((y:Int)∈Z1.take x)=false:=fun e=>iZ fun h=>hs ⟨e,h⟩
    have hpl:=zJ (d:=d) (b:=b) (P:=Z1.set x (y:Int)) (A:=Z2) (F:=F2) (M:=M) (x:=x) sc.toShape sd.toShape (by simp;omega)
    by_cases hp:pA c d b (Z1.set x (y:Int)) x
    ·have eZ:=hyes hs hp
     rw [cV hp]at hpl
     have hrun:=qH (b:=b) sc sd bc bd hM r (x+1) (Z1.set x (y:Int)) Z2 F2 (by rw [List.length_set];omega) (by rw [List.length_set];omega) (by rw [htk];exact aAs hw (by omega)) (by rw [htk];exact fun e=>aGi (hnd e) (by rw [←k3];exact dec_not.1 (hm e))) k2 hF2
     rw [htk,show((x+1:Nat):Int)=(x:Int)+1 from rfl]at hrun
     obtain⟨ok2,F3,hr⟩:∃ok2 F3,eat (stL M) F2 (cZ c d b r (P.take x++[(y:Int)]))=(ok2,F3):=⟨_,_,rfl⟩
     have hnext:eat (stL M) F (gC c d b r (P.take x) (y+1))=(ok2,F3):=by rw [hbs,aHr (by rw [hF2e]),hF2e,hr]
     rw [hr]at hrun
     obtain⟨W1,W2,hW⟩:∃W1 W2,rG c d b r (Z1.set x (y:Int),Z2)=(W1,W2):=⟨_,_,rfl⟩
     rw [hW]at hrun eZ
     simp only at hrun
     cases ok2 with
     |true=>
      rw [aLR,aQL]at hrun
      cases b
      case' true=>replace hm:=hm rfl
      all_goals(repeat'(first|(with_reducible first|refine St.f ?_|refine V_c ?_|refine eDn ?_|refine And.intro ?_ ?_|refine aJ ?_ ?_|refine aO ?_)|((refine aV ?_);intro K hK)|((with_reducible refine So.f ?_);intro K hK;simp(contextual:=true)only [go_sem,simprocAttr])|((with_reducible refine hK _ ?_);clear hK K)|((with_reducible refine aE 305 ?_);refine EvCall.rq (a:=(xP (v:=false) (by first|omega|assumption|rfl) (by first|omega|assumption|rfl))) (b:=aAV) (c:=?_);all_goals try simp only [go_sem,simprocAttr])|((with_reducible refine aE 306 ?_);refine EvCall.mr (hpl) jM [(0,0),(1,1),(2,2),(3,3),(4,4),(5,5),(6,6)] [] ?_)|((with_reducible refine aE 253 ?_);refine EvCall.mr (hrun) mH [(0,0),(1,1),(2,2),(3,3),(4,4),(5,5),(6,6)] [] ?_)|(refine wR (k:= .i64) (i:=1) (A:=Z1) (n:=x) (by simp only [go_sem,simprocAttr];rfl) (by simp only [go_sem,simprocAttr]) (by simp only [go_sem,simprocAttr];rfl) (by decide) (by simp only [go_sem,simprocAttr]) (by omega) ?_;simp only [go_sem,simprocAttr])|(refine fun(hc:(_:Bool)=_)=>?_;try simp only [hcS]at hc)))
      all_goals try exact om_
      all_goals(refine⟨⟨y+1,by omega,(by(rw [hnext]))⟩,by simp only;omega,Imp.auto hX (by simp only [go_sem,simprocAttr,hnext,eZ])⟩)
     |false=>
      obtain⟨R,hR⟩:=vN (c:=c) (d:=d) (b:=b) (r:=r) (X:=P.take x) hlt
      have hall:eat (stL M) F (gC c d b r (P.take x) d.ob.toNat)=(false,F3):=by rw [hR,aBL (by rw [hnext]),hnext]
      rw [hall]
      cases b
      case' true=>replace hm:=hm rfl
      all_goals(repeat'(first|(with_reducible first|refine St.f ?_|refine V_c ?_|refine eDn ?_|refine And.intro ?_ ?_|refine aJ ?_ ?_|refine aO ?_)|((refine aV ?_);intro K hK)|((with_reducible refine So.f ?_);intro K hK;simp(contextual:=true)only [go_sem,simprocAttr])|((with_reducible refine hK _ ?_);clear hK K)|((with_reducible refine aE 305 ?_);refine EvCall.rq (a:=(xP (v:=false) (by first|omega|assumption|rfl) (by first|omega|assumption|rfl))) (b:=aAV) (c:=?_);all_goals try simp only [go_sem,simprocAttr])|((with_reducible refine aE 306 ?_);refine EvCall.mr (hpl) jM [(0,0),(1,1),(2,2),(3,3),(4,4),(5,5),(6,6)] [] ?_)|((with_reducible refine aE 253 ?_);refine EvCall.mr (hrun) mH [(0,0),(1,1),(2,2),(3,3),(4,4),(5,5),(6,6)] [] ?_)|(refine wR (k:= .i64) (i:=1) (A:=Z1) (n:=x) (by simp only [go_sem,simprocAttr];rfl) (by simp only [go_sem,simprocAttr]) (by simp only [go_sem,simprocAttr];rfl) (by decide) (by simp only [go_sem,simprocAttr]) (by omega) ?_;simp only [go_sem,simprocAttr])|(refine fun(hc:(_:Bool)=_)=>?_;try simp only [hcS]at hc)))
      all_goals try exact om_
      all_goals((first|refine aB ?_|refine aA ?_);simp only [go_sem,simprocAttr,Tryz.f253];exact⟨rfl,rfl⟩)
    ·have eZ:=hno hs hp
     rw [iZ hp]at hpl
     have hne:eat (stL M) F (gC c d b r (P.take x) (y+1))=(true,F2):=by
      rw [hbs,aKu sc.toShape (x:=x) (by simp;omega) (fun h=>hp ?_),List.append_nil,hF2e]
      rw [←htk,aGt sc.toShape (by simp;omega)]at h
      exact h
     cases b
     case' true=>replace hm:=hm rfl
     all_goals(repeat'(first|(with_reducible first|refine St.f ?_|refine V_c ?_|refine eDn ?_|refine And.intro ?_ ?_|refine aJ ?_ ?_|refine aO ?_)|((refine aV ?_);intro K hK)|((with_reducible refine So.f ?_);intro K hK;simp(contextual:=true)only [go_sem,simprocAttr])|((with_reducible refine hK _ ?_);clear hK K)|((with_reducible refine aE 305 ?_);refine EvCall.rq (a:=(xP (v:=false) (by first|omega|assumption|rfl) (by first|omega|assumption|rfl))) (b:=aAV) (c:=?_);all_goals try simp only [go_sem,simprocAttr])|((with_reducible refine aE 306 ?_);refine EvCall.mr (hpl) jM [(0,0),(1,1),(2,2),(3,3),(4,4),(5,5),(6,6)] [] ?_)|(refine wR (k:= .i64) (i:=1) (A:=Z1) (n:=x) (by simp only [go_sem,simprocAttr];rfl) (by simp only [go_sem,simprocAttr]) (by simp only [go_sem,simprocAttr];rfl) (by decide) (by simp only [go_sem,simprocAttr]) (by omega) ?_;simp only [go_sem,simprocAttr])|(refine fun(hc:(_:Bool)=_)=>?_;try simp only [hcS]at hc)))
     all_goals try exact om_
     all_goals(refine⟨⟨y+1,by omega,(by(rw [hne]))⟩,by simp only;omega,Imp.auto hX (by simp only [go_sem,simprocAttr,hne,eZ])⟩)
  ·have ey:y=d.ob.toNat:=by omega
   subst ey
   rw [hF2e]
   obtain⟨Z1,Z2,hZ⟩:∃Z1 Z2,rL (rG c d b r) c d b x d.ob.toNat (P,A)=(Z1,Z2):=⟨_,_,rfl⟩
   rw [hZ]
   repeat'(first|(with_reducible first|refine St.f ?_|refine V_c ?_|refine eDn ?_|refine And.intro ?_ ?_|refine aJ ?_ ?_|refine aO ?_)|((refine aV ?_);intro K hK)|((with_reducible refine So.f ?_);intro K hK;simp(contextual:=true)only [go_sem,simprocAttr])|((with_reducible refine hK _ ?_);clear hK K)|(refine fun(hc:(_:Bool)=_)=>?_;try simp only [hcS]at hc))
   all_goals try exact om_
   ·(first|refine aB ?_|refine aA ?_);simp only [go_sem,simprocAttr,Tryz.f253]
    exact⟨rfl,rfl⟩
end Go.Eng
