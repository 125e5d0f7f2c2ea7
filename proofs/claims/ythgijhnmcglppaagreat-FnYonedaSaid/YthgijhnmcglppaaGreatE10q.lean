/- The map of an element, both sides, all outcomes; representables by the program; natural maps are asked; elements are counted. -/
import Derived.Test.YthgijhnmcglppaaGreatE01q
import Derived.Test.YthgijhnmcglppaaGreatO11q
set_option linter.unusedSimpArgs false
set_option linter.unusedVariables false
set_option maxRecDepth 100000
set_option maxHeartbeats 16000000
namespace Go.Eng
open Go Go.Proofs Go.Cats
attribute [local go_sem] List.set_cons_zero List.set_cons_succ
def ElOut (f:SF) (x e:Int) (m:SM) (code:Int):Prop:=(m=aIX∧f.ENo x e code)∨(IsSF f∧f.Elem x e∧f.shape.small x∧m=f.eMap x e∧code=0)
theorem ElOut.ex (f:SF) (x e:Int):∃m code,ElOut f x e m code:=by
 by_cases s:IsSF f
 ·by_cases h:f.Elem x e
  ·by_cases n:f.shape.small x
   ·exact⟨_,_, .inr ⟨s,h,n,rfl,rfl⟩⟩
   ·exact⟨_,_, .inl ⟨rfl, .inr (.inr ⟨s,h,n,rfl⟩)⟩⟩
  ·exact⟨_,_, .inl ⟨rfl, .inr (.inl ⟨s,h,rfl⟩)⟩⟩
 ·exact⟨_,_, .inl ⟨rfl, .inl ⟨s,rfl⟩⟩⟩
theorem ElOut.b {f:SF} {x e code:Int} {m:SM} (ho:ElOut f x e m code) (hb:SFB f):SMB m:=by
 rcases ho with⟨rfl,_⟩|⟨s,_,_,rfl,_⟩
 ·exact aLo
 ·exact SF.eMap_smb s.cat.toShape hb x e
theorem ElOut.zero {f:SF} {x e:Int} {m:SM} (ho:ElOut f x e m 0):IsSF f∧f.Elem x e∧f.shape.small x∧m=f.eMap x e:=by
 rcases ho with⟨_,⟨_,q⟩|⟨_,_,q⟩|⟨_,_,_,q⟩⟩|⟨s,h,n,e,_⟩
 ·exact absurd q (by decide)
 ·exact absurd q (by decide)
 ·exact absurd q (by decide)
 ·exact⟨s,h,n,e⟩
theorem fL {f:SF} {x e code:Int} {m:SM} (hb:SFB f) (ho:ElOut f x e m code):Spec Tryz.prog 45 [sfV f,iv x,iv e] [] (.tup [smO 0 m,iv code]) (smQ 0 m):=by
 rcases ho with⟨rfl,h⟩|⟨s,h,n,rfl,rfl⟩
 ·exact uG hb h
 ·exact sX s hb h n
theorem eQ {f:SF} {x e code:Int} {m:SM} (hb:SFB f) (ho:ElOut f x e m code):Spec Tryz.prog 46 [sfV f,iv x,iv e] [] (.tup [smO 0 m,iv code]) (smQ 0 m):=by
 rcases ho with⟨rfl,h⟩|⟨s,h,n,rfl,rfl⟩
 ·exact nV hb h
 ·exact nL s hb h n
theorem kY:aE Tryz.prog 47:=⟨_,Tryz.func47,rfl,rfl⟩
theorem oQ {c:Cat} {x:Int} (hb:CatB c) (s:IsCat c) (x0:0≤x) (x1:x<c.ob) (hs:c.small x):Spec Tryz.prog 47 [iE c,iv x] [] (.tup [sfO 0 (c.rep x),iv 0]) (sfQ 0 (c.rep x)):=by
 have hS:=s.toShape
 have hw:Within [x] c.ob:=fun i hi=>by
  have:i=0:=by simp at hi;omega
  subst this
  exact⟨x0,x1⟩
 have hO:OC c [x] 0:= .inr (.inr ⟨s,hw,rfl⟩)
 have hl:[x].length≤1048576:=by simp
 have hR:=cG (x:=x) hS hb hs
 refine aD (E:=TE) 0 Tryz.func47 rfl (by simp [Tryz.f47]) fun X hn hX=>?_
 repeat'(first|refine wkQ ?_|refine Tw.f ?_ ?_|(refine kcQ xP ?_;refine ksQ (a:=uI (c:=c) (l:=[x]) (code:=0) (by first|omega|assumption|rfl|exact(by assumption:SMB _).src|exact(by assumption:SMB _).tgt) (by first|omega|assumption|rfl|exact(by assumption:SMB _).src|exact(by assumption:SMB _).tgt) (by first|omega|assumption|rfl|exact(by assumption:SMB _).src|exact(by assumption:SMB _).tgt)) (c:=?_))|(refine kcQ bK ?_;refine kwQ (hR) [(0,3),(1,4),(2,5),(3,6),(4,7),(5,8)] [0] ?_)|(refine fun(hc:(_:Bool)=_)=>?_;try simp only [hcS]at hc))
 all_goals try exact om_
 all_goals try(exfalso;omega)
 (first|refine aB ?_|refine aA ?_);simp only [go_sem,simprocAttr,Tryz.f47]
 all_goals repeat'(first|rfl|constructor)
theorem rM:aE Tryz.prog 49:=⟨_,Tryz.func49,rfl,rfl⟩
theorem vL {m:SM} (hb:SMB m):Spec Tryz.prog 49 [smV m] [] (bv (dec (IsSM m))) []:=by
 refine aD (E:=TE) 0 Tryz.func49 rfl (by simp [Tryz.f49]) fun X hn hX=>?_
 repeat'(first|refine wkQ ?_|refine Tw.f ?_ ?_|(refine kcQ dE ?_;refine krQ (dM (m:=m) ?_) ?_)|(refine fun(hc:(_:Bool)=_)=>?_;try simp only [hcS]at hc))
 all_goals try exact om_
 (first|refine aB ?_|refine aA ?_);simp only [go_sem,simprocAttr,Tryz.f49]
theorem aKf {l:List Int} (h:∀i,i<l.length→0≤l.getD i 0∧l.getD i 0≤1000):∀i,i≤l.length→0≤rF l i∧rF l i≤1000*i
 |0,_=>⟨Int.le_refl _,Int.le_refl _⟩
 |i+1,hi=>by
  have:=aKf h i (by omega)
  have:=h i (by omega)
  rw [pQ]
  omega
attribute [local go_sem] aBu
theorem aKF:aE Tryz.prog 139:=⟨_,Tryz.func139,rfl,rfl⟩
theorem aN6 {l:List Int} (hl:l.length≤1000) (h:∀i,i<l.length→0≤l.getD i 0∧l.getD i 0≤1000):Spec Tryz.prog 139 [.bor [] (ints l)] [] (iv (rF l l.length)) []:=by
 refine aD (E:=TE) 0 Tryz.func139 rfl (by simp [Tryz.f139]) fun X hn hX=>?_
 repeat'(first|refine wkQ ?_|refine Tw.f ?_ ?_|(refine fun(hc:(_:Bool)=_)=>?_;try simp only [hcS]at hc))
 all_goals try exact om_
 refine aH (G:={i:Nat//i≤l.length∧(True)}) (fun⟨i,_⟩=>[(4,iv i),(3,iv (rF l i))]) [0,2] (fun⟨i,_⟩=>[]) [] (fun zz=>l.length-zz.1) ⟨0,Nat.zero_le _,by first|trivial|simp⟩ ?_ ?_
 ·exact Imp.au hX
 rintro⟨i,hii,hwi⟩
 simp only [go_sem,simprocAttr]
 have b1:=aKf h i
 rcases Nat.lt_or_ge i l.length with hlt|hge
 ·have b2:=h i hlt
  have e1:=pQ l i
  repeat'(first|refine wkQ ?_|refine Tw.f ?_ ?_|(refine fun(hc:(_:Bool)=_)=>?_;try simp only [hcS]at hc))
  all_goals try exact om_
  all_goals try(exfalso;omega)
  refine⟨⟨i+1,by omega,(by trivial)⟩,by simp only;omega,Imp.auto hX (by simp only [go_sem,simprocAttr,e1])⟩
 ·obtain rfl:i=l.length:=by omega
  repeat'(first|refine wkQ ?_|refine Tw.f ?_ ?_|(refine fun(hc:(_:Bool)=_)=>?_;try simp only [hcS]at hc))
  all_goals try exact om_
  all_goals try(exfalso;omega)
  (first|refine aB ?_|refine aA ?_);simp only [go_sem,simprocAttr,Tryz.f139]
theorem aEo:aE Tryz.prog 51:=⟨_,Tryz.func51,rfl,rfl⟩
theorem aHn {f:SF} (s:IsSF f):Spec Tryz.prog 51 [sfV f] [] (iv f.elems) []:=by
 refine aD (E:=TE) 0 Tryz.func51 rfl (by simp [Tryz.f51]) fun X hn hX=>?_
 have h1:=s.szl
 have h2:=s.cat.ob8
 have h3:=s.szw
 have hs:=aN6 (l:=f.sizes) (by omega) (fun i hi=>by have:=h3 i hi;omega)
 repeat'(first|refine wkQ ?_|refine Tw.f ?_ ?_|(refine kcQ aKF ?_;refine kwQ (hs) [] [] ?_)|(refine fun(hc:(_:Bool)=_)=>?_;try simp only [hcS]at hc))
 all_goals try exact om_
 (first|refine aB ?_|refine aA ?_);simp only [go_sem,simprocAttr,Tryz.f51]
 rfl
end Go.Eng
