/- The reference's search of isomorphisms: object by object. -/
import Derived.Test.YthgijhnmcglppaaGreatQ07q
set_option linter.unusedSimpArgs false
set_option linter.unusedVariables false
set_option maxRecDepth 100000
set_option maxHeartbeats 16000000
namespace Go.Eng
open Go Go.Proofs Go.Cats
attribute [local go_sem] List.set_cons_zero List.set_cons_succ
theorem qZ:aD Tryz.prog 257:=⟨_,Tryz.func257,rfl,rfl⟩
theorem aAM {c d:Cat} {cc dd P:List Int} {m:Nat} {F:List Fun} (sc:IsCat c) (sd:IsCat d) (bc:CatB c) (bd:CatB d) (ho:c.ob=d.ob) (ha:c.fr.length=d.fr.length) (hk:aBk c d cc dd) (h1:cc.length=c.fr.length) (h2:dd.length=d.fr.length) (hP:XOK c d true P) (hm:m≤4096) (hF:F.length<m):
  Spec Tryz.prog 257 [.ptr 0 0, .sl 3] [(0,⟨1, .bx [iv c.ob, .bor [] (ints c.fr), .bor [] (ints c.to), .bor [] (ints c.id), .bor [] (aF c.co),iv d.ob, .bor [] (ints d.fr), .bor [] (ints d.to), .bor [] (ints d.id), .bor [] (aF d.co), .sl 1, .sl 2,iv m, .dead] 13 (bM (F))⟩),(1,⟨1, .arr (ints cc)⟩),(2,⟨1, .arr (ints dd)⟩),(3,⟨1, .arr (ints (P))⟩)] (.tup []) [(0,⟨1, .bx [iv c.ob, .bor [] (ints c.fr), .bor [] (ints c.to), .bor [] (ints c.id), .bor [] (aF c.co),iv d.ob, .bor [] (ints d.fr), .bor [] (ints d.to), .bor [] (ints d.id), .bor [] (aF d.co), .sl 1, .sl 2,iv m, .dead] 13 (bM ((F++cZ c d true 0 P).take m))⟩),(1,⟨1, .arr (ints cc)⟩),(2,⟨1, .arr (ints dd)⟩),(3,⟨1, .arr (ints (P))⟩)]:=by
 have m40:=sc.toShape.m40
 have n40:=sd.toShape.m40
 have n8:=sc.toShape.ob8
 have tol:=sc.toShape.tol
 have nol:=sd.toShape.tol
 have hPl:=hP.len
 have cil:=sc.toShape.idl
 have dil:=sd.toShape.idl
 have hfx:cZ c d true 0 P=(dO (WA c d true P) (sA c d) (bW c d P c.id.length)).map (mkF c d P):=by
  rw [cZ,aHw sc.toShape];rfl
 have hny:=aNN sc sd hP
 have hrun:=sD (cc:=cc) (dd:=dd) sc sd bc bd ho ha hk h1 h2 hP hm (uns (bW c d P c.id.length)+1) F (bW c d P c.id.length) hny (Nat.lt_succ_self _) hF
 rw [hfx]
 refine aC (E:=TE) 4 Tryz.func257 rfl (by simp [Tryz.f257]) fun X hn hX=>?_
 repeat'(first|(refine dM 0 (Imp.openB 0 13 _ _ rfl (Nat.le_refl 1) rfl rfl) ?_;simp only [go_sem,simprocAttr])|(with_reducible first|refine St.f ?_|refine V_c ?_|refine eDn ?_|refine And.intro ?_ ?_|refine aJ ?_ ?_|refine aO ?_)|((refine aV ?_);intro K hK)|((with_reducible refine So.f ?_);intro K hK;simp(contextual:=true)only [go_sem,simprocAttr])|((with_reducible refine hK _ ?_);clear hK K)|(refine fun(hc:(_:Bool)=_)=>?_;try simp only [hcS]at hc))
 all_goals try exact om_
 refine aG (G:={a:Nat//a≤c.fr.length∧(True)}) (fun⟨a,_⟩=>[(6,iv a),(5, .sl 5)]) [0,1,4] (fun⟨a,_⟩=>[(5,⟨1, .arr (ints (List.replicate a (-1)))⟩)]) [5] (fun zz=>c.fr.length-zz.1) ⟨0,Nat.zero_le _,by first|trivial|simp⟩ ?_ ?_
 ·exact Imp.au hX
 rintro⟨a,hia,hwa⟩
 simp only [go_sem,simprocAttr]
 rcases Nat.lt_or_ge a c.fr.length with hlt|hge
 ·have e1:List.replicate (a+1) (-1:Int)=List.replicate a (-1)++[-1]:=List.replicate_succ'
  repeat'(first|refine wkQ ?_|refine Tw.f ?_ ?_|(refine fun(hc:(_:Bool)=_)=>?_;try simp only [hcS]at hc))
  all_goals try exact om_
  ·refine⟨⟨a+1,by omega,(by trivial)⟩,by simp only;omega,Imp.auto hX (by simp only [go_sem,simprocAttr,e1])⟩
 ·have ea:List.replicate a (-1:Int)=bW c d P 0:=by rw [show a=c.fr.length by omega];rfl
  rw [ea]
  repeat'(first|refine wkQ ?_|refine Tw.f ?_ ?_|(refine fun(hc:(_:Bool)=_)=>?_;try simp only [hcS]at hc))
  all_goals try exact om_
  refine aG (G:={y:Nat//y≤P.length∧(True)}) (fun⟨y,_⟩=>[(7,iv y)]) [0,1,4,5] (fun⟨y,_⟩=>[(5,⟨1, .arr (ints (bW c d P y))⟩)]) [5] (fun zz=>P.length-zz.1) ⟨0,Nat.zero_le _,by first|trivial|simp⟩ ?_ ?_
  ·exact Imp.au hX
  rintro⟨y,hiy,hwy⟩
  simp only [go_sem,simprocAttr]
  have sl:=dX (c:=c) (d:=d) (X:=P) y
  rcases Nat.lt_or_ge y P.length with hly|hgy
  ·have i1:=qE sc.toShape (x:=y) (by omega)
   have i2:=lX sc.toShape sd.toShape hP (x:=y) (by omega)
   repeat'(first|refine wkQ ?_|refine Tw.f ?_ ?_|(refine fun(hc:(_:Bool)=_)=>?_;try simp only [hcS]at hc))
   all_goals try exact om_
   ·refine⟨⟨y+1,by omega,(by trivial)⟩,by simp only;omega,Imp.auto hX (by simp only [go_sem,simprocAttr,show(bW c d P y).set (c.id.getD y 0).toNat (d.id.getD (P.getD y 0).toNat 0)=bW c d P (y+1) from rfl])⟩
  ·have ey:y=c.id.length:=by omega
   rw [ey]
   repeat'(first|(refine dM 11 (Imp.closeB 0 4 13 _ _ rfl rfl rfl (by decide)) ?_;simp only [go_sem,simprocAttr])|(with_reducible first|refine St.f ?_|refine V_c ?_|refine eDn ?_|refine And.intro ?_ ?_|refine aJ ?_ ?_|refine aO ?_)|((refine aV ?_);intro K hK)|((with_reducible refine So.f ?_);intro K hK;simp(contextual:=true)only [go_sem,simprocAttr])|((with_reducible refine hK _ ?_);clear hK K)|((with_reducible refine aE 313 ?_);refine EvCall.mr (hrun) tO [(0,0),(1,1),(2,2),(3,3),(4,5)] [] ?_)|(refine fun(hc:(_:Bool)=_)=>?_;try simp only [hcS]at hc))
   all_goals try exact om_
   ·(first|refine aB ?_|refine aA ?_);simp only [go_sem,simprocAttr,Tryz.f257]
noncomputable def aLq (c d:Cat) (N:List Int) (n x:Nat):Bool:=dec (∀j,j<x→aBm c d N n j)
theorem aJJ (c d:Cat) (N:List Int) (n:Nat):aLq c d N n 0=true:=cV fun j hj=>by omega
theorem aLs {c d:Cat} {N:List Int} {n x:Nat} (h:∀j,j<x→aBm c d N n j):aLq c d N n x=true:=cV h
theorem aLr {c d:Cat} {N:List Int} {n x:Nat} (h:¬∀j,j<x→aBm c d N n j):aLq c d N n x=false:=iZ h
attribute [local go_sem] aJJ
theorem aNH {P:List Int} {y:Int}:(P++[y]).getD P.length 0=y:=by
 rw [List.getD_eq_getElem?_getD,List.getElem?_append_right (Nat.le_refl _),Nat.sub_self];rfl
theorem qG {c d:Cat} {cc dd:List Int} {m:Nat} (sc:IsCat c) (sd:IsCat d) (bc:CatB c) (bd:CatB d) (ho:c.ob=d.ob) (ha:c.fr.length=d.fr.length) (hk:aBk c d cc dd) (h1:cc.length=c.fr.length) (h2:dd.length=d.fr.length) (hm:m≤4096):∀(r:Nat) (P:List Int) (F:List Fun),(P.length:Int)+r=c.ob→Within P d.ob→NdI P→F.length<m→
  Spec Tryz.prog 257 [.ptr 0 0, .sl 3] [(0,⟨1, .bx [iv c.ob, .bor [] (ints c.fr), .bor [] (ints c.to), .bor [] (ints c.id), .bor [] (aF c.co),iv d.ob, .bor [] (ints d.fr), .bor [] (ints d.to), .bor [] (ints d.id), .bor [] (aF d.co), .sl 1, .sl 2,iv m, .dead] 13 (bM (F))⟩),(1,⟨1, .arr (ints cc)⟩),(2,⟨1, .arr (ints dd)⟩),(3,⟨1, .arr (ints (P))⟩)] (.tup []) [(0,⟨1, .bx [iv c.ob, .bor [] (ints c.fr), .bor [] (ints c.to), .bor [] (ints c.id), .bor [] (aF c.co),iv d.ob, .bor [] (ints d.fr), .bor [] (ints d.to), .bor [] (ints d.id), .bor [] (aF d.co), .sl 1, .sl 2,iv m, .dead] 13 (bM ((F++cZ c d true r P).take m))⟩),(1,⟨1, .arr (ints cc)⟩),(2,⟨1, .arr (ints dd)⟩),(3,⟨1, .arr (ints (P))⟩)]
 |0,P,F,hr,hw,hnd,hF=>aAM sc sd bc bd ho ha hk h1 h2 ⟨by omega,hw,fun _=>hnd⟩ hm hF
 |r+1,P,F,hr,hw,hnd,hF=>by
  have m40:=sc.toShape.m40
  have n40:=sd.toShape.m40
  have n8:=sc.toShape.ob8
  have q8:=sd.toShape.ob8
  have q0:=sd.toShape.ob0
  have tol:=sc.toShape.tol
  have nol:=sd.toShape.tol
  rw [aFW]
  obtain⟨fd,hfd⟩:∃fd:Nat→List Fun,∀y,fd y=(F++gC c d true r P y).take m:=⟨_,fun _=>rfl⟩
  have fd0:fd 0=F:=by rw [hfd,zS,List.append_nil,List.take_of_length_le (by omega)]
  have fdl:∀k,(fd k).length≤m:=fun k=>by rw [hfd];simp only [List.length_take];omega
  have fdn:∀y,fd (y+1)=(fd y++cZ c d true r (P++[(y:Int)])).take m:=fun y=>by rw [hfd,hfd,nI,aBi]
  have fdS:∀y,y≤d.ob.toNat→¬(fd y).length<m→fd y=(F++gC c d true r P d.ob.toNat).take m:=fun y hy hk=>by
   have e1:∃R,gC c d true r P d.ob.toNat=gC c d true r P y++R:=by
    rcases Nat.lt_or_ge y d.ob.toNat with q|q
    ·obtain⟨R,hR⟩:=vN (c:=c) (d:=d) (b:=true) (r:=r) (X:=P) q
     rw [nI,List.append_assoc]at hR
     exact⟨_,hR⟩
    ·exact⟨[],by rw [List.append_nil,show y=d.ob.toNat by omega]⟩
   obtain⟨R,hR⟩:=e1
   rw [hR,←aBi,←hfd,List.take_append_of_le_length (by omega),List.take_of_length_le (fdl y)]
  refine aC (E:=TE) 4 Tryz.func257 rfl (by simp [Tryz.f257]) fun X hn hX=>?_
  refine aHf ?_
  repeat'(first|(refine dM 0 (Imp.openB 0 13 _ _ rfl (Nat.le_refl 1) rfl rfl) ?_;simp only [go_sem,simprocAttr])|(with_reducible first|refine St.f ?_|refine V_c ?_|refine eDn ?_|refine And.intro ?_ ?_|refine aJ ?_ ?_|refine aO ?_)|((refine aV ?_);intro K hK)|((with_reducible refine So.f ?_);intro K hK;simp(contextual:=true)only [go_sem,simprocAttr])|((with_reducible refine hK _ ?_);clear hK K)|(refine fun(hc:(_:Bool)=_)=>?_;try simp only [hcS]at hc))
  all_goals try exact om_
  rw [←fd0]
  refine aG (G:={y:Nat//y≤d.ob.toNat∧(True)}) (fun⟨y,_⟩=>[(8,iv y)]) [0,1,4] (fun⟨y,_⟩=>[(4,⟨1, .arr (bM (fd y))⟩)]) [4] (fun zz=>d.ob.toNat-zz.1) ⟨0,Nat.zero_le _,by first|trivial|simp⟩ ?_ ?_
  ·exact Imp.au hX
  rintro⟨y,hiy,hwy⟩
  simp only [go_sem,simprocAttr]
  have l1:=fdl y
  rcases Nat.lt_or_ge y d.ob.toNat with hlt|hge
  ·rcases Nat.lt_or_ge (fd y).length m with hl2|hg2
   ·have en:=fdn y
    have hPl2:P.length≤1048576:=by omega
    by_cases hm1:(y:Int)∈P
    ·have hm2:dec ((y:Int)∈P)=true:=cV hm1
     rw [aIY hm1,List.append_nil,List.take_of_length_le l1]at en
     repeat'(first|refine wkQ ?_|refine Tw.f ?_ ?_|(refine kcQ kD ?_;refine ksQ (a:=jD (v:=true) (by first|omega|assumption|rfl) (by first|omega|assumption|rfl)) (c:=?_))|(refine fun(hc:(_:Bool)=_)=>?_;try simp only [hcS]at hc))
     all_goals try exact om_
     ·refine⟨⟨y+1,by omega,(by trivial)⟩,by simp only;omega,Imp.auto hX (by simp only [go_sem,simprocAttr,en])⟩
    ·have hm2:dec ((y:Int)∈P)=false:=iZ hm1
     have hsn:=aNH (P:=P) (y:=(y:Int))
     repeat'(first|(refine dM 17 (Imp.dropL 6 _ _ rfl (Nat.succ_le_succ (Nat.zero_le _))) ?_;simp only [go_sem,simprocAttr])|(with_reducible first|refine St.f ?_|refine V_c ?_|refine eDn ?_|refine And.intro ?_ ?_|refine aJ ?_ ?_|refine aO ?_)|((refine aV ?_);intro K hK)|((with_reducible refine So.f ?_);intro K hK;simp(contextual:=true)only [go_sem,simprocAttr])|((with_reducible refine hK _ ?_);clear hK K)|((with_reducible refine aE 290 ?_);refine EvCall.rq (a:=(jD (v:=false) (by first|omega|assumption|rfl) (by first|omega|assumption|rfl))) (b:=kD) (c:=?_);all_goals try simp only [go_sem,simprocAttr])|((with_reducible refine aE 194 ?_);refine EvCall.rr (eQ ?_) dK ?_)|(refine fun(hc:(_:Bool)=_)=>?_;try simp only [hcS]at hc))
     all_goals try exact om_
     refine aG (G:={x:Nat//x≤(P.length+1)∧(True)}) (fun⟨x,_⟩=>[(11,iv x),(10,bv (aLq c d (P++[(y:Int)]) P.length x)),(9, .sl 7)]) [0,1,4,8,74,75,76,77,78,79,80,81,82,83] (fun⟨x,_⟩=>[(7,⟨1, .arr (ints (P++[(y:Int)]))⟩)]) [7] (fun zz=>(P.length+1)-zz.1) ⟨0,Nat.zero_le _,by trivial⟩ ?_ ?_
     ·exact Imp.au hX
     rintro⟨x,hix,hwx⟩
     simp only [go_sem,simprocAttr]
     by_cases hall:∀j,j<x→aBm c d (P++[(y:Int)]) P.length j
     ·rw [aLs hall]
      rcases Nat.lt_or_ge x (P.length+1)with hltx|hgex
      ·have hNl:(P++[(y:Int)]).length=P.length+1:=by simp
       by_cases hs:aBm c d (P++[(y:Int)]) P.length x
       ·have e1:=aLs (bB hall hs)
        obtain⟨s1,s2⟩:=hs
        rw [hsn]at s1 s2
        have e2:decide (((c.hom (P.length:Int) (x:Int)).length:Int)=((d.hom (y:Int) ((P++[(y:Int)]).getD x 0)).length:Int))=true:=decide_eq_true (by omega)
        repeat'(first|(refine dM 20 (Imp.dropL 8 _ _ rfl (Nat.succ_le_succ (Nat.zero_le _))) ?_;simp only [go_sem,simprocAttr])|(refine dM 20 (Imp.dropL 9 _ _ rfl (Nat.succ_le_succ (Nat.zero_le _))) ?_;simp only [go_sem,simprocAttr])|(refine dM 20 (Imp.dropL 10 _ _ rfl (Nat.succ_le_succ (Nat.zero_le _))) ?_;simp only [go_sem,simprocAttr])|(refine dM 20 (Imp.dropL 11 _ _ rfl (Nat.succ_le_succ (Nat.zero_le _))) ?_;simp only [go_sem,simprocAttr])|(with_reducible first|refine St.f ?_|refine V_c ?_|refine eDn ?_|refine And.intro ?_ ?_|refine aJ ?_ ?_|refine aO ?_)|((refine aV ?_);intro K hK)|((with_reducible refine So.f ?_);intro K hK;simp(contextual:=true)only [go_sem,simprocAttr])|((with_reducible refine hK _ ?_);clear hK K)|((with_reducible refine aE 116 ?_);refine EvCall.rr (mB ?_ ?_) kE ?_)|(refine fun(hc:(_:Bool)=_)=>?_;try simp only [hcS]at hc))
        all_goals try exact om_
        ·refine⟨⟨x+1,by omega,(by trivial)⟩,by simp only;omega,Imp.auto hX (by simp only [go_sem,simprocAttr,e1,e2])⟩
       ·have e1:aLq c d (P++[(y:Int)]) P.length (x+1)=false:=aLr (fun h=>hs (h x (by omega)))
        have hs2:¬((c.hom (x:Int) (P.length:Int)).length=(d.hom ((P++[(y:Int)]).getD x 0) (y:Int)).length∧(c.hom (P.length:Int) (x:Int)).length=(d.hom (y:Int) ((P++[(y:Int)]).getD x 0)).length):=fun h=>hs (by unfold aBm;rw [hsn];exact h)
        repeat'(first|(refine dM 20 (Imp.dropL 8 _ _ rfl (Nat.succ_le_succ (Nat.zero_le _))) ?_;simp only [go_sem,simprocAttr])|(refine dM 20 (Imp.dropL 9 _ _ rfl (Nat.succ_le_succ (Nat.zero_le _))) ?_;simp only [go_sem,simprocAttr])|(refine dM 20 (Imp.dropL 10 _ _ rfl (Nat.succ_le_succ (Nat.zero_le _))) ?_;simp only [go_sem,simprocAttr])|(refine dM 20 (Imp.dropL 11 _ _ rfl (Nat.succ_le_succ (Nat.zero_le _))) ?_;simp only [go_sem,simprocAttr])|(with_reducible first|refine St.f ?_|refine V_c ?_|refine eDn ?_|refine And.intro ?_ ?_|refine aJ ?_ ?_|refine aO ?_)|((refine aV ?_);intro K hK)|((with_reducible refine So.f ?_);intro K hK;simp(contextual:=true)only [go_sem,simprocAttr])|((with_reducible refine hK _ ?_);clear hK K)|((with_reducible refine aE 116 ?_);refine EvCall.rr (mB ?_ ?_) kE ?_)|(refine fun(hc:(_:Bool)=_)=>?_;try simp only [hcS]at hc))
        all_goals try exact om_
        ·have e2:decide (((c.hom (P.length:Int) (x:Int)).length:Int)=((d.hom (y:Int) ((P++[(y:Int)]).getD x 0)).length:Int))=false:=decide_eq_false (by omega)
         refine⟨⟨x+1,by omega,(by trivial)⟩,by simp only;omega,Imp.auto hX (by simp only [go_sem,simprocAttr,e1,e2])⟩
        ·refine⟨⟨x+1,by omega,(by trivial)⟩,by simp only;omega,Imp.auto hX (by simp only [go_sem,simprocAttr,e1])⟩
      ·have ex:x=P.length+1:=by omega
       subst ex
       have hrec:=qG sc sd bc bd ho ha hk h1 h2 hm r (P++[(y:Int)]) (fd y) (by rw [List.length_append,List.length_singleton];omega) (aAs hw (by omega)) (aGi hnd hm1) hl2
       rw [←en]at hrec
       repeat'(first|(refine dM 23 (Imp.closeB 0 4 13 _ _ rfl rfl rfl (by decide)) ?_;simp only [go_sem,simprocAttr])|(refine dM 14 (Imp.trans (Imp.openB 0 13 _ _ rfl (Nat.succ_le_succ (Nat.zero_le _)) rfl rfl) (Imp.drop 7 (Nat.succ_le_succ (Nat.zero_le _)))) ?_;simp only [go_sem,simprocAttr])|(with_reducible first|refine St.f ?_|refine V_c ?_|refine eDn ?_|refine And.intro ?_ ?_|refine aJ ?_ ?_|refine aO ?_)|((refine aV ?_);intro K hK)|((with_reducible refine So.f ?_);intro K hK;simp(contextual:=true)only [go_sem,simprocAttr])|((with_reducible refine hK _ ?_);clear hK K)|((with_reducible refine aE 257 ?_);refine EvCall.mr (hrec) qZ [(0,0),(1,1),(2,2),(3,7)] [] ?_)|(refine fun(hc:(_:Bool)=_)=>?_;try simp only [hcS]at hc))
       all_goals try exact om_
       ·refine⟨⟨y+1,by omega,(by(trivial))⟩,by simp only;omega,Imp.ao hX⟩
     ·rw [aPs sc sd ho ha (by rw [List.length_append,List.length_singleton]) (by omega) (fun h=>hall (fun j hj=>h j (by omega))),List.append_nil,List.take_of_length_le l1]at en
      rw [aLr hall]
      repeat'(first|(refine dM 14 (Imp.dropL 7 _ _ rfl (Nat.succ_le_succ (Nat.zero_le _))) ?_;simp only [go_sem,simprocAttr])|(with_reducible first|refine St.f ?_|refine V_c ?_|refine eDn ?_|refine And.intro ?_ ?_|refine aJ ?_ ?_|refine aO ?_)|((refine aV ?_);intro K hK)|((with_reducible refine So.f ?_);intro K hK;simp(contextual:=true)only [go_sem,simprocAttr])|((with_reducible refine hK _ ?_);clear hK K)|(refine fun(hc:(_:Bool)=_)=>?_;try simp only [hcS]at hc))
      all_goals try exact om_
      ·refine⟨⟨y+1,by omega,(by(trivial))⟩,by simp only;omega,Imp.auto hX (by simp only [go_sem,simprocAttr,en])⟩
   ·repeat'(first|refine wkQ ?_|refine Tw.f ?_ ?_|(refine fun(hc:(_:Bool)=_)=>?_;try simp only [hcS]at hc))
    all_goals try exact om_
    ·refine sR (Imp.closeB 0 4 13 _ _ rfl rfl rfl (by decide)) ?_
     rw [fd0,←fdS y (by omega) (by omega)]
     (first|refine aB ?_|refine aA ?_);simp only [go_sem,simprocAttr,Tryz.f257]
  ·repeat'(first|refine wkQ ?_|refine Tw.f ?_ ?_|(refine fun(hc:(_:Bool)=_)=>?_;try simp only [hcS]at hc))
   all_goals try exact om_
   ·refine sR (Imp.closeB 0 4 13 _ _ rfl rfl rfl (by decide)) ?_
    rw [fd0,hfd,show y=d.ob.toNat by omega]
    (first|refine aB ?_|refine aA ?_);simp only [go_sem,simprocAttr,Tryz.f257]
end Go.Eng
