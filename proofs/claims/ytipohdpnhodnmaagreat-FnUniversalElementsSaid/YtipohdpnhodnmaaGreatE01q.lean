/- The free set functor on some objects, by the reference. -/
import Derived.Test.YtipohdpnhodnmaaGreatO07q
import Derived.Test.YtipohdpnhodnmaaGreatEngExq
set_option linter.unusedSimpArgs false
set_option linter.unusedVariables false
set_option maxRecDepth 100000
set_option maxHeartbeats 8000000
namespace Go.Eng
open Go Go.Proofs Go.Cats
abbrev sfO (n:Nat) (f:SF):Sv:= .agg [iv f.shape.ob, .sl n, .sl (n+1), .sl (n+2), .sl (n+3), .sl (n+4), .sl (n+5)]
abbrev sfQ (n:Nat) (f:SF):List (Nat×Rs):=[(n,⟨1, .arr (ints f.shape.fr)⟩),(n+1,⟨1, .arr (ints f.shape.to)⟩),(n+2,⟨1, .arr (ints f.shape.id)⟩),(n+3,⟨1, .arr (aC f.shape.co)⟩),(n+4,⟨1, .arr (ints f.sizes)⟩),(n+5,⟨1, .arr (aC f.acts)⟩)]
theorem aJs {l:List (List Int)} {x:List Int} (h:x∈l):∃k:Nat,k<l.length∧pP l x=k:=by
 unfold pP
 cases hs:aW l.length (oH l x)with
 |none=>
  obtain⟨i,hi,k⟩:=fB (d:=[]) h
  have:=scan_none.1 hs i hi
  unfold oH at this
  rw [if_pos k]at this
  cases this
 |some r=>
  obtain⟨i,hi,k⟩:=bN hs
  unfold oH at k
  split at k
  ·exact⟨i,hi,by simpa using k.symm⟩
  ·cases k
section
variable {c:Cat} {O:List Int} {a i j:Nat}
def frS (c:Cat) (O:List Int) (i:Nat):List Int:=(List.range i).map fun y:Nat=>((frA c O y O.length).length:Int)
def frR (c:Cat) (O:List Int) (a j:Nat):List Int:=((frA c O (c.fr.getD a 0) O.length).take j).map fun p=>pP (frA c O (c.to.getD a 0) O.length) [p.getD 0 0,c.C (p.getD 1 0) a]
def aDn (c:Cat) (O:List Int) (a:Nat):List Int:=(frA c O (c.fr.getD a 0) O.length).map fun p=>pP (frA c O (c.to.getD a 0) O.length) [p.getD 0 0,c.C (p.getD 1 0) a]
def qU (c:Cat) (O:List Int) (i:Nat):List (List Int):=(List.range i).map (aDn c O)
def aJa (c:Cat) (O:List Int):SF:=⟨c,frS c O c.ob.toNat,qU c O c.fr.length⟩
theorem aI6:frS c O 0=[]:=rfl
theorem aI5:frS c O (i+1)=frS c O i++[((frA c O i O.length).length:Int)]:=by unfold frS;rw [List.range_succ,List.map_append];rfl
theorem aCi:(frS c O i).length=i:=by unfold frS;rw [List.length_map,List.length_range]
theorem aEW (h:j<i):(frS c O i).getD j 0=((frA c O j O.length).length:Int):=by unfold frS;rw [List.getD_eq_getElem?_getD,List.getElem?_map,List.getElem?_range h];rfl
theorem aHf:qU c O 0=[]:=rfl
theorem aHe:qU c O (i+1)=qU c O i++[aDn c O i]:=by unfold qU;rw [List.range_succ,List.map_append];rfl
theorem yN:(qU c O i).length=i:=by unfold qU;rw [List.length_map,List.length_range]
theorem aL6 (h:j<i):(qU c O i).getD j []=aDn c O j:=by unfold qU;rw [List.getD_eq_getElem?_getD,List.getElem?_map,List.getElem?_range h];rfl
theorem aI4:frR c O a 0=[]:=rfl
theorem aMb:(frR c O a j).length≤j:=by unfold frR;rw [List.length_map,List.length_take];omega
theorem aMa:frR c O a (frA c O (c.fr.getD a 0) O.length).length=aDn c O a:=by unfold frR aDn;rw [List.take_length]
theorem aI3 (h:j<(frA c O (c.fr.getD a 0) O.length).length):frR c O a (j+1)=frR c O a j++[pP (frA c O (c.to.getD a 0) O.length) [((frA c O (c.fr.getD a 0) O.length).getD j []).getD 0 0,c.C (((frA c O (c.fr.getD a 0) O.length).getD j []).getD 1 0) a]]:=by
 unfold frR
 rw [List.take_succ_eq_append_getElem h,List.map_append,List.getD_eq_getElem?_getD (l:=frA c O (c.fr.getD a 0) O.length),List.getElem?_eq_getElem h];rfl
theorem aDo:(aDn c O a).length=(frA c O (c.fr.getD a 0) O.length).length:=by unfold aDn;rw [List.length_map]
theorem aEX (s:Shape c) (hl:O.length≤3):Loose (aJa c O):=by
 have o0:=s.ob0
 have o8:=s.ob8
 have m40:=s.m40
 refine⟨s,aCi,fun x hx=>?_,yN,fun a ha=>?_⟩
 ·have hx:x<c.ob.toNat:=by have h:x<(frS c O c.ob.toNat).length:=hx;rwa [aCi]at h
  show 0≤(frS c O c.ob.toNat).getD x 0∧(frS c O c.ob.toNat).getD x 0≤1000
  rw [aEW hx]
  have:=aCg (c:=c) (O:=O) (x:=x) (k:=O.length)
  have:=Nat.mul_le_mul hl m40
  omega
 ·have ha:a<c.fr.length:=by have h:a<(qU c O c.fr.length).length:=ha;rwa [yN]at h
  have f1:=s.frw a ha
  have f2:=s.tow a (by rw [s.tol];exact ha)
  show(((qU c O c.fr.length).getD a []).length:Int)=(frS c O c.ob.toNat).getD (c.fr.getD a 0).toNat 0∧Within ((qU c O c.fr.length).getD a []) ((frS c O c.ob.toNat).getD (c.to.getD a 0).toNat 0)
  rw [aL6 ha,aEW (by omega),aEW (by omega),aDo,Int.toNat_of_nonneg f1.1,Int.toNat_of_nonneg f2.1]
  refine⟨rfl,fun e he=>?_⟩
  rw [aDo]at he
  unfold aDn
  rw [List.getD_eq_getElem?_getD,List.getElem?_map,List.getElem?_eq_getElem he]
  have hm:(frA c O (c.fr.getD a 0) O.length)[e]∈frA c O (c.fr.getD a 0) O.length:=List.getElem_mem he
  obtain⟨j,f,h1,h2,h3⟩:=mem_frA.1 hm
  show 0≤pP _ [((frA c O (c.fr.getD a 0) O.length)[e]).getD 0 0,c.C (((frA c O (c.fr.getD a 0) O.length)[e]).getD 1 0) a]∧pP _ [((frA c O (c.fr.getD a 0) O.length)[e]).getD 0 0,c.C (((frA c O (c.fr.getD a 0) O.length)[e]).getD 1 0) a]<_
  rw [h2]
  obtain⟨g0,g1,g2,g3⟩:=Cat.mem_hom.1 h3
  have eT:c.T f=c.F (a:Int):=by rw [g3];show _=c.fr.getD (a:Int).toNat 0;rw [Int.toNat_natCast]
  obtain⟨c0,c1,c2,c3⟩:=s.compI g0 g1 (by omega:0≤(a:Int)) (by omega) eT
  have hc:[(j:Int),c.C f a]∈frA c O (c.to.getD a 0) O.length:=mem_frA.2 ⟨j,_,h1,rfl,Cat.mem_hom.2 ⟨c0,c1,by rw [c2,g2],by rw [c3];show c.to.getD (a:Int).toNat 0=_;rw [Int.toNat_natCast]⟩⟩
  obtain⟨k,k1,k2⟩:=aJs hc
  show 0≤pP _ [(j:Int),c.C f a]∧pP _ [(j:Int),c.C f a]<_
  rw [k2]
  omega
end
attribute [local go_sem] aI6 aHf aI4 aCi yN iS
theorem aAq {c:Cat} {O:List Int} (hs:Shape c) (hb:CatB c) (hl:O.length≤3):Spec Tryz.prog 123 [jX c, .bor [] (ints O)] [] (sfO 0 (aJa c O)) (sfQ 0 (aJa c O)):=by
 have ⟨s1,s2,s3,s4,s5,s6,s7,s8,s9,s10,s11⟩:=hs
 show Spec Tryz.prog 123 [jX c, .bor [] (ints O)] [] (.agg [iv c.ob, .sl 0, .sl 1, .sl 2, .sl 3, .sl 4, .sl 5]) [(0,⟨1, .arr (ints c.fr)⟩),(1,⟨1, .arr (ints c.to)⟩),(2,⟨1, .arr (ints c.id)⟩),(3,⟨1, .arr (aC c.co)⟩),(4,⟨1, .arr (ints (frS c O c.ob.toNat))⟩),(5,⟨1, .arr (aC (qU c O c.fr.length))⟩)]
 refine aD (E:=TE) 0 Tryz.func123 rfl (by simp [Tryz.f123]) fun X hn hX=>?_
 repeat'(first|refine wkQ ?_|refine Tw.f ?_ ?_|(refine fun(hc:(_:Bool)=_)=>?_;try simp only [hcS]at hc))
 all_goals try exact om_
 refine cZ (Imp.nilsR 2 c.ob.toNat 1 rfl) ?_
 rw [←aI9 (c:=c) (O:=O)]
 refine aG (G:={k:Nat//k≤O.length∧(True)}) (fun⟨k,_⟩=>[(6,iv k)]) [1,2,4,5] (fun⟨k,_⟩=>[(2,⟨1, .arr (bH (frT c O k 0))⟩),(1,⟨1, .box [iv 0, .v (.slice none 0 0), .v (.slice none 0 0), .v (.slice none 0 0), .v (.slice none 0 0), .v (.slice none 0 0), .v (.slice none 0 0)]⟩),(0,⟨1, .box [iv c.ob, .bor [] (ints c.fr), .bor [] (ints c.to), .bor [] (ints c.id), .bor [] (aC c.co)]⟩)]) [0,1,2] (fun zz=>O.length-zz.1) ⟨0,Nat.zero_le _,by first|trivial|simp⟩ ?_ ?_
 ·exact Imp.au hX
 rintro⟨k,hik,hwk⟩
 simp only [go_sem,simprocAttr]
 rcases Nat.lt_or_ge k O.length with hk|hk
 ·repeat'(first|refine wkQ ?_|refine Tw.f ?_ ?_|(refine fun(hc:(_:Bool)=_)=>?_;try simp only [hcS]at hc))
  all_goals try exact om_
  all_goals try(exfalso;omega)
  refine aG (G:={h:Nat//h≤c.fr.length∧(True)}) (fun⟨h,_⟩=>[(7,iv h)]) [1,2,4,5,6] (fun⟨h,_⟩=>[(2,⟨1, .arr (bH (frT c O k h))⟩),(1,⟨1, .box [iv 0, .v (.slice none 0 0), .v (.slice none 0 0), .v (.slice none 0 0), .v (.slice none 0 0), .v (.slice none 0 0), .v (.slice none 0 0)]⟩),(0,⟨1, .box [iv c.ob, .bor [] (ints c.fr), .bor [] (ints c.to), .bor [] (ints c.id), .bor [] (aC c.co)]⟩)]) [0,1,2] (fun zz=>c.fr.length-zz.1) ⟨0,Nat.zero_le _,by first|trivial|simp⟩ ?_ ?_
  ·exact Imp.au hX
  rintro⟨h,hih,hwh⟩
  simp only [go_sem,simprocAttr]
  have wT:=s6 h
  rcases Nat.lt_or_ge h c.fr.length with hh|hh
  ·by_cases hx:c.fr.getD h 0=O.getD k 0
   ·have w:=wT (by omega)
    have e1:=aMc hx w.1 w.2
    have e2:=wV (c:=c) (O:=O) (k:=k) (h:=h) (y:=(c.to.getD h 0).toNat) (by omega)
    have e3:((frT c O k h).getD (c.to.getD h 0).toNat []).length≤120+40:=by
     rw [e2]
     have:=aL9 (c:=c) (O:=O) (x:=((c.to.getD h 0).toNat:Int)) (k:=k) (h:=h)
     have:=Nat.mul_le_mul (show k≤3 by omega) s3
     omega
    refine cZ (Imp.open_ 2 (c.to.getD h 0).toNat (bH (frT c O k h)) [] (.inr ⟨rfl,rfl⟩) (Nat.le_refl 1) (by simp only [go_sem,iS];omega) rfl (by simp only [go_sem]) rfl) ?_
    repeat'(first|refine wkQ ?_|refine Tw.f ?_ ?_|(refine fun(hc:(_:Bool)=_)=>?_;try simp only [hcS]at hc))
    all_goals try exact om_
    all_goals try(exfalso;omega)
    refine⟨⟨h+1,by omega,(by trivial)⟩,by simp only;omega,Imp.auto hX (by simp only [go_sem,simprocAttr,e1])⟩
   ·have e1:=aI7 (c:=c) (O:=O) (k:=k) (h:=h) hx
    repeat'(first|refine wkQ ?_|refine Tw.f ?_ ?_|(refine fun(hc:(_:Bool)=_)=>?_;try simp only [hcS]at hc))
    all_goals try exact om_
    all_goals try(exfalso;omega)
    refine⟨⟨h+1,by omega,(by trivial)⟩,by simp only;omega,Imp.auto hX (by simp only [go_sem,simprocAttr,e1])⟩
  ·obtain rfl:h=c.fr.length:=by omega
   have e1:=aI8 (c:=c) (O:=O) (k:=k)
   repeat'(first|refine wkQ ?_|refine Tw.f ?_ ?_|(refine fun(hc:(_:Bool)=_)=>?_;try simp only [hcS]at hc))
   all_goals try exact om_
   all_goals try(exfalso;omega)
   refine⟨⟨k+1,by omega,(by trivial)⟩,by simp only;omega,Imp.auto hX (by simp only [go_sem,simprocAttr,e1])⟩
 obtain rfl:k=O.length:=by omega
 have eG:∀y:Nat,y<c.ob.toNat→(frT c O O.length 0).getD y []=frA c O y O.length:=fun y hy=>by rw [wV hy,yO]
 have eL:∀y:Int,(frA c O y O.length).length≤120:=fun y=>by
  have:=aCg (c:=c) (O:=O) (x:=y) (k:=O.length)
  have:=Nat.mul_le_mul hl s3
  omega
 repeat'(first|refine wkQ ?_|refine Tw.f ?_ ?_|(refine kcQ fQ ?_;refine krQ (iM ?_) ?_)|(refine fun(hc:(_:Bool)=_)=>?_;try simp only [hcS]at hc))
 all_goals try exact om_
 all_goals try(exfalso;omega)
 refine cZ (Imp.adoptBi 7 5 _ _ rfl rfl rfl (by rw [hX];rfl)) ?_
 refine cZ (Imp.adoptBs 7 6 _ _ rfl rfl rfl (by rw [hX];rfl)) ?_
 refine aG (G:={i:Nat//i≤c.ob.toNat∧(True)}) (fun⟨i,_⟩=>[(9,iv i)]) [2,4,5,8] (fun⟨i,_⟩=>[(7,⟨1, .box [iv c.ob, .sl 3, .sl 4, .sl 5, .sl 6, .sl 8, .sl 9]⟩),(3,⟨1, .arr (ints c.fr)⟩),(4,⟨1, .arr (ints c.to)⟩),(5,⟨1, .arr (ints c.id)⟩),(6,⟨1, .arr (aC c.co)⟩),(2,⟨1, .arr (bH (frT c O O.length 0))⟩),(8,⟨1, .arr (ints (frS c O i))⟩),(9,⟨1, .arr (aC [])⟩),(1,⟨1, .box [iv 0, .v (.slice none 0 0), .v (.slice none 0 0), .v (.slice none 0 0), .v (.slice none 0 0), .v (.slice none 0 0), .v (.slice none 0 0)]⟩),(0,⟨1, .box [iv c.ob, .bor [] (ints c.fr), .bor [] (ints c.to), .bor [] (ints c.id), .bor [] (aC c.co)]⟩)]) [0,1,2,3,4,5,6,7,8,9] (fun zz=>c.ob.toNat-zz.1) ⟨0,Nat.zero_le _,by first|trivial|simp⟩ ?_ ?_
 ·exact Imp.au hX
 rintro⟨i,hii,hwi⟩
 simp only [go_sem,simprocAttr]
 have e0:=eG i
 have hlen:=eL i
 rcases Nat.lt_or_ge i c.ob.toNat with hi|hi
 ·have e0:=e0 hi
  repeat'(first|refine wkQ ?_|refine Tw.f ?_ ?_|(refine fun(hc:(_:Bool)=_)=>?_;try simp only [hcS]at hc))
  all_goals try exact om_
  all_goals try(exfalso;omega)
  refine⟨⟨i+1,by omega,(by trivial)⟩,by simp only;omega,Imp.auto hX (by simp only [go_sem,simprocAttr,aI5,e0])⟩
 obtain rfl:i=c.ob.toNat:=by omega
 repeat'(first|refine wkQ ?_|refine Tw.f ?_ ?_|(refine fun(hc:(_:Bool)=_)=>?_;try simp only [hcS]at hc))
 all_goals try exact om_
 all_goals try(exfalso;omega)
 refine aG (G:={a:Nat//a≤c.fr.length∧(True)}) (fun⟨a,_⟩=>[(10,iv a)]) [2,4,5,8] (fun⟨a,_⟩=>[(7,⟨1, .box [iv c.ob, .sl 3, .sl 4, .sl 5, .sl 6, .sl 8, .sl 9]⟩),(3,⟨1, .arr (ints c.fr)⟩),(4,⟨1, .arr (ints c.to)⟩),(5,⟨1, .arr (ints c.id)⟩),(6,⟨1, .arr (aC c.co)⟩),(2,⟨1, .arr (bH (frT c O O.length 0))⟩),(8,⟨1, .arr (ints (frS c O c.ob.toNat))⟩),(9,⟨1, .arr (aC (qU c O a))⟩),(1,⟨1, .box [iv 0, .v (.slice none 0 0), .v (.slice none 0 0), .v (.slice none 0 0), .v (.slice none 0 0), .v (.slice none 0 0), .v (.slice none 0 0)]⟩),(0,⟨1, .box [iv c.ob, .bor [] (ints c.fr), .bor [] (ints c.to), .bor [] (ints c.id), .bor [] (aC c.co)]⟩)]) [0,1,2,3,4,5,6,7,8,9] (fun zz=>c.fr.length-zz.1) ⟨0,Nat.zero_le _,by first|trivial|simp⟩ ?_ ?_
 ·exact Imp.au hX
 rintro⟨a,hia,hwa⟩
 simp only [go_sem,simprocAttr]
 rcases Nat.lt_or_ge a c.fr.length with ha|ha
 ·have wF:=s5 a ha
  have wT:=s6 a (by omega)
  have gF:(frT c O O.length 0).getD (c.fr.getD a 0).toNat []=frA c O (c.fr.getD a 0) O.length:=by rw [eG _ (by omega),Int.toNat_of_nonneg wF.1]
  have gT:(frT c O O.length 0).getD (c.to.getD a 0).toNat []=frA c O (c.to.getD a 0) O.length:=by rw [eG _ (by omega),Int.toNat_of_nonneg wT.1]
  have lF:=eL (c.fr.getD a 0)
  have lT:=eL (c.to.getD a 0)
  repeat'(first|refine wkQ ?_|refine Tw.f ?_ ?_|(refine fun(hc:(_:Bool)=_)=>?_;try simp only [hcS]at hc))
  all_goals try exact om_
  all_goals try(exfalso;omega)
  rw [gF,gT]
  refine aG (G:={j:Nat//j≤(frA c O (c.fr.getD a 0) O.length).length∧(True)}) (fun⟨j,_⟩=>[(14,iv j),(11, .sl 10)]) [2,4,5,8,10,12,13] (fun⟨j,_⟩=>[(7,⟨1, .box [iv c.ob, .sl 3, .sl 4, .sl 5, .sl 6, .sl 8, .sl 9]⟩),(3,⟨1, .arr (ints c.fr)⟩),(4,⟨1, .arr (ints c.to)⟩),(5,⟨1, .arr (ints c.id)⟩),(6,⟨1, .arr (aC c.co)⟩),(2,⟨1, .arr (bH (frT c O O.length 0))⟩),(8,⟨1, .arr (ints (frS c O c.ob.toNat))⟩),(9,⟨1, .arr (aC (qU c O a))⟩),(1,⟨1, .box [iv 0, .v (.slice none 0 0), .v (.slice none 0 0), .v (.slice none 0 0), .v (.slice none 0 0), .v (.slice none 0 0), .v (.slice none 0 0)]⟩),(0,⟨1, .box [iv c.ob, .bor [] (ints c.fr), .bor [] (ints c.to), .bor [] (ints c.id), .bor [] (aC c.co)]⟩),(10,⟨1, .arr (ints (frR c O a j))⟩)]) [0,1,2,3,4,5,6,7,8,9,10] (fun zz=>(frA c O (c.fr.getD a 0) O.length).length-zz.1) ⟨0,Nat.zero_le _,by first|trivial|simp⟩ ?_ ?_
  ·exact Imp.au hX
  rintro⟨j,hij,hwj⟩
  simp only [go_sem,simprocAttr]
  have rl:=aMb (c:=c) (O:=O) (a:=a) (j:=j)
  rcases Nat.lt_or_ge j (frA c O (c.fr.getD a 0) O.length).length with hj|hj
  ·obtain⟨k,f,k1,k2,k3⟩:=mem_frA.1 (aT (d:=[]) hj)
   obtain⟨g0,g1,g2,g3⟩:=Cat.mem_hom.1 k3
   have co:=s11 f.toNat (by omega)
   have e2:=aI3 hj
   have b1:((frA c O (c.fr.getD a 0) O.length).getD j []).getD 1 0=f:=by rw [k2];rfl
   have b2:((frA c O (c.fr.getD a 0) O.length).getD j []).length=2:=by rw [k2];rfl
   have hP:=vK (l:=frA c O (c.to.getD a 0) O.length) (x:=[((frA c O (c.fr.getD a 0) O.length).getD j []).getD 0 0,c.C (((frA c O (c.fr.getD a 0) O.length).getD j []).getD 1 0) a]) (by omega) (fun i hi=>by
    obtain⟨k',f',_,q,_⟩:=mem_frA.1 (aT (d:=[]) hi)
    rw [q];simp) (by simp)
   repeat'(first|refine wkQ ?_|refine Tw.f ?_ ?_|(refine kcQ uY ?_;refine krQ (aAn (c:=c) (g:=a) ?_ ?_ ?_ ?_) ?_)|(refine kcQ rR ?_;refine kwQ (hP) [] [2,11] ?_)|(refine fun(hc:(_:Bool)=_)=>?_;try simp only [hcS]at hc))
   all_goals try exact om_
   all_goals try(exfalso;omega)
   ·rw [b1];omega
   refine⟨⟨j+1,by omega,(by trivial)⟩,by simp only;omega,Imp.auto hX (by simp only [go_sem,simprocAttr,e2])⟩
  ·obtain rfl:j=(frA c O (c.fr.getD a 0) O.length).length:=by omega
   have e:=aMa (c:=c) (O:=O) (a:=a)
   repeat'(first|refine wkQ ?_|refine Tw.f ?_ ?_|(refine fun(hc:(_:Bool)=_)=>?_;try simp only [hcS]at hc))
   all_goals try exact om_
   all_goals try(exfalso;omega)
   refine⟨⟨a+1,by omega,(by trivial)⟩,by simp only;omega,Imp.auto hX (by simp only [go_sem,simprocAttr,aHe,e])⟩
 obtain rfl:a=c.fr.length:=by omega
 repeat'(first|refine wkQ ?_|refine Tw.f ?_ ?_|(refine fun(hc:(_:Bool)=_)=>?_;try simp only [hcS]at hc))
 all_goals try exact om_
 all_goals try(exfalso;omega)
 (first|refine aB ?_|refine aA ?_);simp only [go_sem,simprocAttr,Tryz.f123]
end Go.Eng
