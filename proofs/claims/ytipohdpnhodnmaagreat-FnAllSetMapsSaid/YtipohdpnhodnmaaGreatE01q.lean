/- The free set functor on some objects, by the reference. -/
import Derived.Test.YtipohdpnhodnmaaGreatG11y
import Derived.Test.YtipohdpnhodnmaaGreatEngExq
set_option linter.unusedSimpArgs false
set_option linter.unusedVariables false
set_option maxRecDepth 100000
set_option maxHeartbeats 8000000
namespace Go.Eng
open Go Go.Proofs Go.Cats
abbrev sfO (n:Nat) (f:SF):Sv:= .agg [iv f.shape.ob, .sl n, .sl (n+1), .sl (n+2), .sl (n+3), .sl (n+4), .sl (n+5)]
abbrev sfQ (n:Nat) (f:SF):List (Nat×Rs):=[(n,⟨1, .arr (ints f.shape.fr)⟩),(n+1,⟨1, .arr (ints f.shape.to)⟩),(n+2,⟨1, .arr (ints f.shape.id)⟩),(n+3,⟨1, .arr (aD f.shape.co)⟩),(n+4,⟨1, .arr (ints f.sizes)⟩),(n+5,⟨1, .arr (aD f.acts)⟩)]
theorem aJY {l:List (List Int)} {x:List Int} (h:x∈l):∃k:Nat,k<l.length∧tN l x=k:=by
 unfold tN
 cases hs:aV l.length (tO l x)with
 |none=>
  obtain⟨i,hi,k⟩:=mW (d:=[]) h
  have:=scan_none.1 hs i hi
  unfold tO at this
  rw [if_pos k]at this
  cases this
 |some r=>
  obtain⟨i,hi,k⟩:=bN hs
  unfold tO at k
  split at k
  ·exact⟨i,hi,by simpa using k.symm⟩
  ·cases k
section
variable {c:Cat} {O:List Int} {a i j:Nat}
def frS (c:Cat) (O:List Int) (i:Nat):List Int:=(List.range i).map fun y:Nat=>((frA c O y O.length).length:Int)
def frR (c:Cat) (O:List Int) (a j:Nat):List Int:=((frA c O (c.fr.getD a 0) O.length).take j).map fun p=>tN (frA c O (c.to.getD a 0) O.length) [p.getD 0 0,c.C (p.getD 1 0) a]
def aD5 (c:Cat) (O:List Int) (a:Nat):List Int:=(frA c O (c.fr.getD a 0) O.length).map fun p=>tN (frA c O (c.to.getD a 0) O.length) [p.getD 0 0,c.C (p.getD 1 0) a]
def rX (c:Cat) (O:List Int) (i:Nat):List (List Int):=(List.range i).map (aD5 c O)
def aJJ (c:Cat) (O:List Int):SF:=⟨c,frS c O c.ob.toNat,rX c O c.fr.length⟩
theorem aJF:frS c O 0=[]:=rfl
theorem aJE:frS c O (i+1)=frS c O i++[((frA c O i O.length).length:Int)]:=by unfold frS;rw [List.range_succ,List.map_append];rfl
theorem aCR:(frS c O i).length=i:=by unfold frS;rw [List.length_map,List.length_range]
theorem aFG (h:j<i):(frS c O i).getD j 0=((frA c O j O.length).length:Int):=by unfold frS;rw [List.getD_eq_getElem?_getD,List.getElem?_map,List.getElem?_range h];rfl
theorem aH2:rX c O 0=[]:=rfl
theorem aH1:rX c O (i+1)=rX c O i++[aD5 c O i]:=by unfold rX;rw [List.range_succ,List.map_append];rfl
theorem zQ:(rX c O i).length=i:=by unfold rX;rw [List.length_map,List.length_range]
theorem aMp (h:j<i):(rX c O i).getD j []=aD5 c O j:=by unfold rX;rw [List.getD_eq_getElem?_getD,List.getElem?_map,List.getElem?_range h];rfl
theorem aJD:frR c O a 0=[]:=rfl
theorem aMu:(frR c O a j).length≤j:=by unfold frR;rw [List.length_map,List.length_take];omega
theorem aMt:frR c O a (frA c O (c.fr.getD a 0) O.length).length=aD5 c O a:=by unfold frR aD5;rw [List.take_length]
theorem aJC (h:j<(frA c O (c.fr.getD a 0) O.length).length):frR c O a (j+1)=frR c O a j++[tN (frA c O (c.to.getD a 0) O.length) [((frA c O (c.fr.getD a 0) O.length).getD j []).getD 0 0,c.C (((frA c O (c.fr.getD a 0) O.length).getD j []).getD 1 0) a]]:=by
 unfold frR
 rw [List.take_succ_eq_append_getElem h,List.map_append,List.getD_eq_getElem?_getD (l:=frA c O (c.fr.getD a 0) O.length),List.getElem?_eq_getElem h];rfl
theorem aD6:(aD5 c O a).length=(frA c O (c.fr.getD a 0) O.length).length:=by unfold aD5;rw [List.length_map]
theorem aFH (s:Shape c) (hl:O.length≤3):Loose (aJJ c O):=by
 have o0:=s.ob0
 have o8:=s.ob8
 have m40:=s.m40
 refine⟨s,aCR,fun x hx=>?_,zQ,fun a ha=>?_⟩
 ·have hx:x<c.ob.toNat:=by have h:x<(frS c O c.ob.toNat).length:=hx;rwa [aCR]at h
  show 0≤(frS c O c.ob.toNat).getD x 0∧(frS c O c.ob.toNat).getD x 0≤1000
  rw [aFG hx]
  have:=aCQ (c:=c) (O:=O) (x:=x) (k:=O.length)
  have:=Nat.mul_le_mul hl m40
  omega
 ·have ha:a<c.fr.length:=by have h:a<(rX c O c.fr.length).length:=ha;rwa [zQ]at h
  have f1:=s.frw a ha
  have f2:=s.tow a (by rw [s.tol];exact ha)
  show(((rX c O c.fr.length).getD a []).length:Int)=(frS c O c.ob.toNat).getD (c.fr.getD a 0).toNat 0∧Within ((rX c O c.fr.length).getD a []) ((frS c O c.ob.toNat).getD (c.to.getD a 0).toNat 0)
  rw [aMp ha,aFG (by omega),aFG (by omega),aD6,Int.toNat_of_nonneg f1.1,Int.toNat_of_nonneg f2.1]
  refine⟨rfl,fun e he=>?_⟩
  rw [aD6]at he
  unfold aD5
  rw [List.getD_eq_getElem?_getD,List.getElem?_map,List.getElem?_eq_getElem he]
  have hm:(frA c O (c.fr.getD a 0) O.length)[e]∈frA c O (c.fr.getD a 0) O.length:=List.getElem_mem he
  obtain⟨j,f,h1,h2,h3⟩:=mem_frA.1 hm
  show 0≤tN _ [((frA c O (c.fr.getD a 0) O.length)[e]).getD 0 0,c.C (((frA c O (c.fr.getD a 0) O.length)[e]).getD 1 0) a]∧tN _ [((frA c O (c.fr.getD a 0) O.length)[e]).getD 0 0,c.C (((frA c O (c.fr.getD a 0) O.length)[e]).getD 1 0) a]<_
  rw [h2]
  obtain⟨g0,g1,g2,g3⟩:=Cat.mem_hom.1 h3
  have eT:c.T f=c.F (a:Int):=by rw [g3];show _=c.fr.getD (a:Int).toNat 0;rw [Int.toNat_natCast]
  obtain⟨c0,c1,c2,c3⟩:=s.compI g0 g1 (by omega:0≤(a:Int)) (by omega) eT
  have hc:[(j:Int),c.C f a]∈frA c O (c.to.getD a 0) O.length:=mem_frA.2 ⟨j,_,h1,rfl,Cat.mem_hom.2 ⟨c0,c1,by rw [c2,g2],by rw [c3];show c.to.getD (a:Int).toNat 0=_;rw [Int.toNat_natCast]⟩⟩
  obtain⟨k,k1,k2⟩:=aJY hc
  show 0≤tN _ [(j:Int),c.C f a]∧tN _ [(j:Int),c.C f a]<_
  rw [k2]
  omega
end
attribute [local go_sem] aJF aH2 aJD aCR zQ iX
theorem aAR {c:Cat} {O:List Int} (hs:Shape c) (hb:CatB c) (hl:O.length≤3):Spec Tryz.prog 123 [jQ c, .bor [] (ints O)] [] (sfO 0 (aJJ c O)) (sfQ 0 (aJJ c O)):=by
 have ⟨s1,s2,s3,s4,s5,s6,s7,s8,s9,s10,s11⟩:=hs
 show Spec Tryz.prog 123 [jQ c, .bor [] (ints O)] [] (.agg [iv c.ob, .sl 0, .sl 1, .sl 2, .sl 3, .sl 4, .sl 5]) [(0,⟨1, .arr (ints c.fr)⟩),(1,⟨1, .arr (ints c.to)⟩),(2,⟨1, .arr (ints c.id)⟩),(3,⟨1, .arr (aD c.co)⟩),(4,⟨1, .arr (ints (frS c O c.ob.toNat))⟩),(5,⟨1, .arr (aD (rX c O c.fr.length))⟩)]
 refine aE (E:=TE) 0 Tryz.func123 rfl (by simp [Tryz.f123]) fun X hn hX=>?_
 repeat'(first|refine wkQ ?_|refine Tw.f ?_ ?_|(refine fun(hc:(_:Bool)=_)=>?_;try simp only [hcS]at hc))
 all_goals try exact om_
 refine gR (Imp.nilsR 2 c.ob.toNat 1 rfl) ?_
 rw [←aJI (c:=c) (O:=O)]
 refine aH (G:={k:Nat//k≤O.length∧(True)}) (fun⟨k,_⟩=>[(6,iv k)]) [1,2,4,5] (fun⟨k,_⟩=>[(2,⟨1, .arr (aU (frT c O k 0))⟩),(1,⟨1, .box [iv 0, .v (.slice none 0 0), .v (.slice none 0 0), .v (.slice none 0 0), .v (.slice none 0 0), .v (.slice none 0 0), .v (.slice none 0 0)]⟩),(0,⟨1, .box [iv c.ob, .bor [] (ints c.fr), .bor [] (ints c.to), .bor [] (ints c.id), .bor [] (aD c.co)]⟩)]) [0,1,2] (fun zz=>O.length-zz.1) ⟨0,Nat.zero_le _,by first|trivial|simp⟩ ?_ ?_
 ·exact Imp.au hX
 rintro⟨k,hik,hwk⟩
 simp only [go_sem,simprocAttr]
 rcases Nat.lt_or_ge k O.length with hk|hk
 ·repeat'(first|refine wkQ ?_|refine Tw.f ?_ ?_|(refine fun(hc:(_:Bool)=_)=>?_;try simp only [hcS]at hc))
  all_goals try exact om_
  all_goals try(exfalso;omega)
  refine aH (G:={h:Nat//h≤c.fr.length∧(True)}) (fun⟨h,_⟩=>[(7,iv h)]) [1,2,4,5,6] (fun⟨h,_⟩=>[(2,⟨1, .arr (aU (frT c O k h))⟩),(1,⟨1, .box [iv 0, .v (.slice none 0 0), .v (.slice none 0 0), .v (.slice none 0 0), .v (.slice none 0 0), .v (.slice none 0 0), .v (.slice none 0 0)]⟩),(0,⟨1, .box [iv c.ob, .bor [] (ints c.fr), .bor [] (ints c.to), .bor [] (ints c.id), .bor [] (aD c.co)]⟩)]) [0,1,2] (fun zz=>c.fr.length-zz.1) ⟨0,Nat.zero_le _,by first|trivial|simp⟩ ?_ ?_
  ·exact Imp.au hX
  rintro⟨h,hih,hwh⟩
  simp only [go_sem,simprocAttr]
  have wT:=s6 h
  rcases Nat.lt_or_ge h c.fr.length with hh|hh
  ·by_cases hx:c.fr.getD h 0=O.getD k 0
   ·have w:=wT (by omega)
    have e1:=aMv hx w.1 w.2
    have e2:=yF (c:=c) (O:=O) (k:=k) (h:=h) (y:=(c.to.getD h 0).toNat) (by omega)
    have e3:((frT c O k h).getD (c.to.getD h 0).toNat []).length≤120+40:=by
     rw [e2]
     have:=aMs (c:=c) (O:=O) (x:=((c.to.getD h 0).toNat:Int)) (k:=k) (h:=h)
     have:=Nat.mul_le_mul (show k≤3 by omega) s3
     omega
    refine gR (Imp.open_ 2 (c.to.getD h 0).toNat (aU (frT c O k h)) [] (.inr ⟨rfl,rfl⟩) (Nat.le_refl 1) (by simp only [go_sem,iX];omega) rfl (by simp only [go_sem]) rfl) ?_
    repeat'(first|refine wkQ ?_|refine Tw.f ?_ ?_|(refine fun(hc:(_:Bool)=_)=>?_;try simp only [hcS]at hc))
    all_goals try exact om_
    all_goals try(exfalso;omega)
    refine⟨⟨h+1,by omega,(by trivial)⟩,by simp only;omega,Imp.auto hX (by simp only [go_sem,simprocAttr,e1])⟩
   ·have e1:=aJG (c:=c) (O:=O) (k:=k) (h:=h) hx
    repeat'(first|refine wkQ ?_|refine Tw.f ?_ ?_|(refine fun(hc:(_:Bool)=_)=>?_;try simp only [hcS]at hc))
    all_goals try exact om_
    all_goals try(exfalso;omega)
    refine⟨⟨h+1,by omega,(by trivial)⟩,by simp only;omega,Imp.auto hX (by simp only [go_sem,simprocAttr,e1])⟩
  ·obtain rfl:h=c.fr.length:=by omega
   have e1:=aJH (c:=c) (O:=O) (k:=k)
   repeat'(first|refine wkQ ?_|refine Tw.f ?_ ?_|(refine fun(hc:(_:Bool)=_)=>?_;try simp only [hcS]at hc))
   all_goals try exact om_
   all_goals try(exfalso;omega)
   refine⟨⟨k+1,by omega,(by trivial)⟩,by simp only;omega,Imp.auto hX (by simp only [go_sem,simprocAttr,e1])⟩
 obtain rfl:k=O.length:=by omega
 have eG:∀y:Nat,y<c.ob.toNat→(frT c O O.length 0).getD y []=frA c O y O.length:=fun y hy=>by rw [yF hy,zR]
 have eL:∀y:Int,(frA c O y O.length).length≤120:=fun y=>by
  have:=aCQ (c:=c) (O:=O) (x:=y) (k:=O.length)
  have:=Nat.mul_le_mul hl s3
  omega
 repeat'(first|refine wkQ ?_|refine Tw.f ?_ ?_|(refine kcQ iF ?_;refine krQ (kE ?_) ?_)|(refine fun(hc:(_:Bool)=_)=>?_;try simp only [hcS]at hc))
 all_goals try exact om_
 all_goals try(exfalso;omega)
 refine gR (Imp.adoptBi 7 5 _ _ rfl rfl rfl (by rw [hX];rfl)) ?_
 refine gR (Imp.adoptBs 7 6 _ _ rfl rfl rfl (by rw [hX];rfl)) ?_
 refine aH (G:={i:Nat//i≤c.ob.toNat∧(True)}) (fun⟨i,_⟩=>[(9,iv i)]) [2,4,5,8] (fun⟨i,_⟩=>[(7,⟨1, .box [iv c.ob, .sl 3, .sl 4, .sl 5, .sl 6, .sl 8, .sl 9]⟩),(3,⟨1, .arr (ints c.fr)⟩),(4,⟨1, .arr (ints c.to)⟩),(5,⟨1, .arr (ints c.id)⟩),(6,⟨1, .arr (aD c.co)⟩),(2,⟨1, .arr (aU (frT c O O.length 0))⟩),(8,⟨1, .arr (ints (frS c O i))⟩),(9,⟨1, .arr (aD [])⟩),(1,⟨1, .box [iv 0, .v (.slice none 0 0), .v (.slice none 0 0), .v (.slice none 0 0), .v (.slice none 0 0), .v (.slice none 0 0), .v (.slice none 0 0)]⟩),(0,⟨1, .box [iv c.ob, .bor [] (ints c.fr), .bor [] (ints c.to), .bor [] (ints c.id), .bor [] (aD c.co)]⟩)]) [0,1,2,3,4,5,6,7,8,9] (fun zz=>c.ob.toNat-zz.1) ⟨0,Nat.zero_le _,by first|trivial|simp⟩ ?_ ?_
 ·exact Imp.au hX
 rintro⟨i,hii,hwi⟩
 simp only [go_sem,simprocAttr]
 have e0:=eG i
 have hlen:=eL i
 rcases Nat.lt_or_ge i c.ob.toNat with hi|hi
 ·have e0:=e0 hi
  repeat'(first|refine wkQ ?_|refine Tw.f ?_ ?_|(refine fun(hc:(_:Bool)=_)=>?_;try simp only [hcS]at hc))
  all_goals try exact om_
  all_goals try(exfalso;omega)
  refine⟨⟨i+1,by omega,(by trivial)⟩,by simp only;omega,Imp.auto hX (by simp only [go_sem,simprocAttr,aJE,e0])⟩
 obtain rfl:i=c.ob.toNat:=by omega
 repeat'(first|refine wkQ ?_|refine Tw.f ?_ ?_|(refine fun(hc:(_:Bool)=_)=>?_;try simp only [hcS]at hc))
 all_goals try exact om_
 all_goals try(exfalso;omega)
 refine aH (G:={a:Nat//a≤c.fr.length∧(True)}) (fun⟨a,_⟩=>[(10,iv a)]) [2,4,5,8] (fun⟨a,_⟩=>[(7,⟨1, .box [iv c.ob, .sl 3, .sl 4, .sl 5, .sl 6, .sl 8, .sl 9]⟩),(3,⟨1, .arr (ints c.fr)⟩),(4,⟨1, .arr (ints c.to)⟩),(5,⟨1, .arr (ints c.id)⟩),(6,⟨1, .arr (aD c.co)⟩),(2,⟨1, .arr (aU (frT c O O.length 0))⟩),(8,⟨1, .arr (ints (frS c O c.ob.toNat))⟩),(9,⟨1, .arr (aD (rX c O a))⟩),(1,⟨1, .box [iv 0, .v (.slice none 0 0), .v (.slice none 0 0), .v (.slice none 0 0), .v (.slice none 0 0), .v (.slice none 0 0), .v (.slice none 0 0)]⟩),(0,⟨1, .box [iv c.ob, .bor [] (ints c.fr), .bor [] (ints c.to), .bor [] (ints c.id), .bor [] (aD c.co)]⟩)]) [0,1,2,3,4,5,6,7,8,9] (fun zz=>c.fr.length-zz.1) ⟨0,Nat.zero_le _,by first|trivial|simp⟩ ?_ ?_
 ·exact Imp.au hX
 rintro⟨a,hia,hwa⟩
 simp only [go_sem,simprocAttr]
 rcases Nat.lt_or_ge a c.fr.length with ha|ha
 ·have wF:=s5 a ha
  have wT:=s6 a (by omega)
  have gF:(frT c O O.length 0).getD (c.fr.getD a 0).toNat []=frA c O (c.fr.getD a 0) O.length:=by rw [eG _ (by omega),Int.toNat_of_nonneg wF.1]
  have gT:(frT c O O.length 0).getD (c.to.getD a 0).toNat []=frA c O (c.to.getD a 0) O.length:=by rw [eG _ (by omega),Int.toNat_of_nonneg wT.1]
  have lF:=eL (c.fr.getD a 0)
  have lT:=eL (c.to.getD a 0)
  repeat'(first|refine wkQ ?_|refine Tw.f ?_ ?_|(refine fun(hc:(_:Bool)=_)=>?_;try simp only [hcS]at hc))
  all_goals try exact om_
  all_goals try(exfalso;omega)
  rw [gF,gT]
  refine aH (G:={j:Nat//j≤(frA c O (c.fr.getD a 0) O.length).length∧(True)}) (fun⟨j,_⟩=>[(14,iv j),(11, .sl 10)]) [2,4,5,8,10,12,13] (fun⟨j,_⟩=>[(7,⟨1, .box [iv c.ob, .sl 3, .sl 4, .sl 5, .sl 6, .sl 8, .sl 9]⟩),(3,⟨1, .arr (ints c.fr)⟩),(4,⟨1, .arr (ints c.to)⟩),(5,⟨1, .arr (ints c.id)⟩),(6,⟨1, .arr (aD c.co)⟩),(2,⟨1, .arr (aU (frT c O O.length 0))⟩),(8,⟨1, .arr (ints (frS c O c.ob.toNat))⟩),(9,⟨1, .arr (aD (rX c O a))⟩),(1,⟨1, .box [iv 0, .v (.slice none 0 0), .v (.slice none 0 0), .v (.slice none 0 0), .v (.slice none 0 0), .v (.slice none 0 0), .v (.slice none 0 0)]⟩),(0,⟨1, .box [iv c.ob, .bor [] (ints c.fr), .bor [] (ints c.to), .bor [] (ints c.id), .bor [] (aD c.co)]⟩),(10,⟨1, .arr (ints (frR c O a j))⟩)]) [0,1,2,3,4,5,6,7,8,9,10] (fun zz=>(frA c O (c.fr.getD a 0) O.length).length-zz.1) ⟨0,Nat.zero_le _,by first|trivial|simp⟩ ?_ ?_
  ·exact Imp.au hX
  rintro⟨j,hij,hwj⟩
  simp only [go_sem,simprocAttr]
  have rl:=aMu (c:=c) (O:=O) (a:=a) (j:=j)
  rcases Nat.lt_or_ge j (frA c O (c.fr.getD a 0) O.length).length with hj|hj
  ·obtain⟨k,f,k1,k2,k3⟩:=mem_frA.1 (cD (d:=[]) hj)
   obtain⟨g0,g1,g2,g3⟩:=Cat.mem_hom.1 k3
   have co:=s11 f.toNat (by omega)
   have e2:=aJC hj
   have b1:((frA c O (c.fr.getD a 0) O.length).getD j []).getD 1 0=f:=by rw [k2];rfl
   have b2:((frA c O (c.fr.getD a 0) O.length).getD j []).length=2:=by rw [k2];rfl
   have hP:=aEW (l:=frA c O (c.to.getD a 0) O.length) (x:=[((frA c O (c.fr.getD a 0) O.length).getD j []).getD 0 0,c.C (((frA c O (c.fr.getD a 0) O.length).getD j []).getD 1 0) a]) (by omega) (fun i hi=>by
    obtain⟨k',f',_,q,_⟩:=mem_frA.1 (cD (d:=[]) hi)
    rw [q];simp) (by simp)
   repeat'(first|refine wkQ ?_|refine Tw.f ?_ ?_|(refine kcQ aDP ?_;refine krQ (aGc (c:=c) (g:=a) ?_ ?_ ?_ ?_) ?_)|(refine kcQ aCB ?_;refine kwQ (hP) [] [2,11] ?_)|(refine fun(hc:(_:Bool)=_)=>?_;try simp only [hcS]at hc))
   all_goals try exact om_
   all_goals try(exfalso;omega)
   ·rw [b1];omega
   refine⟨⟨j+1,by omega,(by trivial)⟩,by simp only;omega,Imp.auto hX (by simp only [go_sem,simprocAttr,e2])⟩
  ·obtain rfl:j=(frA c O (c.fr.getD a 0) O.length).length:=by omega
   have e:=aMt (c:=c) (O:=O) (a:=a)
   repeat'(first|refine wkQ ?_|refine Tw.f ?_ ?_|(refine fun(hc:(_:Bool)=_)=>?_;try simp only [hcS]at hc))
   all_goals try exact om_
   all_goals try(exfalso;omega)
   refine⟨⟨a+1,by omega,(by trivial)⟩,by simp only;omega,Imp.auto hX (by simp only [go_sem,simprocAttr,aH1,e])⟩
 obtain rfl:a=c.fr.length:=by omega
 repeat'(first|refine wkQ ?_|refine Tw.f ?_ ?_|(refine fun(hc:(_:Bool)=_)=>?_;try simp only [hcS]at hc))
 all_goals try exact om_
 all_goals try(exfalso;omega)
 (first|refine aB ?_|refine aA ?_);simp only [go_sem,simprocAttr,Tryz.f123]
end Go.Eng
