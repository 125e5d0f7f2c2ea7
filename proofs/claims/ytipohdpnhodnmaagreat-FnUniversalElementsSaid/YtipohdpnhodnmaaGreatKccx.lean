/- Several texts in one: Z05, Z06, Z07. -/
import Derived.Test.YtipohdpnhodnmaaGreatKcbx
set_option linter.unusedSimpArgs false
set_option linter.unusedVariables false
set_option maxRecDepth 100000
set_option maxHeartbeats 16000000
section
namespace Go.Eng
open Go Go.Proofs Go.Cats
def tkM (l:List Int) (k:Nat) (z:Int):List Int:=(l.take k).map (· +z)
def smT (c:Cat) (m f g:Nat):List (List Int):=(List.range c.co.length).map fun i=>c.co.getD i []++List.replicate (if i<f then m else if i=f then g else 0) (-1)
def smW (c d:Cat) (f g:Nat):List Int:=List.replicate c.fr.length (-1)++((d.co.getD f []).take g).map (shI c.fr.length)
def smR (c d:Cat) (f:Nat):List (List Int):=smT c d.fr.length c.co.length 0++(List.range f).map fun i=>smW c d i d.fr.length
section
variable {c d:Cat} {l:List Int} {m f g k:Nat} {z:Int}
theorem aLg:tkM l 0 z=[]:=by simp [tkM]
theorem xL (h:k≤l.length):(tkM l k z).length=k:=by unfold tkM;rw [List.length_map,List.length_take];omega
theorem aAF (h:k<l.length):tkM l (k+1) z=tkM l k z++[l.getD k 0+z]:=by
 unfold tkM
 rw [List.take_succ_eq_append_getElem h,List.map_append,List.getD_eq_getElem?_getD,List.getElem?_eq_getElem h];rfl
theorem aCU:tkM l l.length z=l.map (· +z):=by unfold tkM;rw [List.take_length]
theorem eQ:(smT c m f g).length=c.co.length:=by unfold smT;rw [List.length_map,List.length_range]
theorem rE {i:Nat} (h:i<c.co.length):(smT c m f g).getD i []=c.co.getD i []++List.replicate (if i<f then m else if i=f then g else 0) (-1):=by
 unfold smT;rw [List.getD_eq_getElem?_getD,List.getElem?_map,List.getElem?_range h];rfl
theorem aKO (h:f<c.co.length):(smT c m f g).getD f []=c.co.getD f []++List.replicate g (-1):=by
 rw [rE h,if_neg (Nat.lt_irrefl f),if_pos rfl]
theorem mJ {a b:List (List Int)} (hl:a.length=b.length) (h:∀i,i<a.length→a.getD i []=b.getD i []):a=b:=by
 refine List.ext_getElem hl fun i h1 h2=>?_
 have:=h i h1
 rw [List.getD_eq_getElem?_getD,List.getElem?_eq_getElem h1,List.getD_eq_getElem?_getD,List.getElem?_eq_getElem h2]at this
 exact this
theorem aMY {a:List (List Int)} {i j:Nat} {r:List Int} (h:j<a.length):(a.set j r).getD i []=if i=j then r else a.getD i []:=by
 rw [List.getD_eq_getElem?_getD,List.getElem?_set,List.getD_eq_getElem?_getD]
 by_cases e:j=i
 ·subst e;rw [if_pos rfl,if_pos h,if_pos rfl];rfl
 ·rw [if_neg e,if_neg (fun q=>e q.symm)]
theorem aKQ (h:f<c.co.length):(smT c m f g).set f ((c.co.getD f []++List.replicate g (-1))++[-1])=smT c m f (g+1):=by
 refine mJ (by rw [List.length_set,eQ,eQ]) fun i hi=>?_
 rw [List.length_set,eQ]at hi
 rw [aMY (by rw [eQ];exact h),rE hi,rE hi]
 by_cases e:i=f
 ·subst e
  rw [if_pos rfl,if_neg (Nat.lt_irrefl i),if_pos rfl,List.append_assoc,List.replicate_succ']
 ·rw [if_neg e,if_neg e,if_neg e]
theorem aM2:smT c m f m=smT c m (f+1) 0:=by
 refine mJ (by rw [eQ,eQ]) fun i hi=>?_
 rw [eQ]at hi
 rw [rE hi,rE hi]
 congr 2
 by_cases h1:i<f
 ·rw [if_pos h1,if_pos (by omega)]
 ·by_cases h2:i=f
  ·rw [if_neg h1,if_pos h2,if_pos (by omega)]
  ·rw [if_neg h1,if_neg h2,if_neg (by omega)];split<;>rfl
theorem aKP:smT c m 0 0=c.co:=by
 refine mJ eQ fun i hi=>?_
 rw [eQ]at hi
 rw [rE hi,if_neg (by omega)]
 have:(if i=0 then(0:Nat)else 0)=0:=by split<;>rfl
 rw [this];simp
theorem aKS:smW c d f 0=List.replicate c.fr.length (-1):=by simp [smW]
theorem aKR (h:g<(d.co.getD f []).length):smW c d f (g+1)=smW c d f g++[shI c.fr.length ((d.co.getD f []).getD g 0)]:=by
 unfold smW
 rw [List.take_succ_eq_append_getElem h,List.map_append,List.append_assoc,List.getD_eq_getElem?_getD (l:=d.co.getD f []),List.getElem?_eq_getElem h];rfl
theorem aM3 (h:g≤(d.co.getD f []).length):(smW c d f g).length=c.fr.length+g:=by unfold smW;rw [List.length_append,List.length_replicate,List.length_map,List.length_take];omega
theorem aKN:smR c d 0=smT c d.fr.length c.co.length 0:=by unfold smR;simp
theorem aKM:smR c d (f+1)=smR c d f++[smW c d f d.fr.length]:=by unfold smR;rw [List.range_succ,List.map_append,List.append_assoc];rfl
theorem aM0:(smR c d f).length=c.co.length+f:=by unfold smR;rw [List.length_append,eQ,List.length_map,List.length_range]
theorem aM1:smT c m c.co.length 0=c.co.map fun r=>r++List.replicate m (-1):=by
 refine mJ (by rw [eQ,List.length_map]) fun i hi=>?_
 rw [eQ]at hi
 rw [rE hi,if_pos hi,List.getD_eq_getElem?_getD (l:=List.map _ _),List.getElem?_map,List.getElem?_eq_getElem hi,List.getD_eq_getElem?_getD,List.getElem?_eq_getElem hi];rfl
theorem aPn (sc:Shape c) (sd:Shape d):smC c d=⟨c.ob+d.ob,c.fr++tkM d.fr d.fr.length c.ob,c.to++tkM d.to d.to.length c.ob,c.id++tkM d.id d.id.length c.fr.length,smR c d d.fr.length⟩:=by
 have e:(List.range d.fr.length).map (fun i=>smW c d i d.fr.length)=d.co.map fun r=>List.replicate c.fr.length (-1)++r.map (shI c.fr.length):=by
  rw [←sd.col]
  refine mJ (by rw [List.length_map,List.length_map,List.length_range]) fun i hi=>?_
  rw [List.length_map,List.length_range]at hi
  have hr:=(sd.coe i (by rw [←sd.col];exact hi)).1
  rw [List.getD_eq_getElem?_getD,List.getElem?_map,List.getElem?_range hi,List.getD_eq_getElem?_getD,List.getElem?_map,List.getElem?_eq_getElem hi]
  show smW c d i d.co.length=_
  unfold smW
  rw [List.take_of_length_le (by rw [hr,sd.col];exact Nat.le_refl _),List.getD_eq_getElem?_getD,List.getElem?_eq_getElem hi];rfl
 unfold smC smR
 rw [aCU,aCU,aCU,aM1,e]
end
theorem Shape.catB {c:Cat} (s:Shape c):CatB c:=by
 have o0:=s.ob0
 have o8:=s.ob8
 have m:=s.m40
 have t:=s.tol
 have i:=s.idl
 have l:=s.col
 exact⟨by omega,by omega,by omega,by omega,by omega,by omega,fun f hf=>by have:=(s.coe f (by omega)).1;omega⟩
attribute [local go_sem] List.set_cons_zero List.set_cons_succ aLg List.append_nil
theorem fR:aF Tryz.prog 232:=⟨_,Tryz.func232,rfl,rfl⟩
theorem aBI {c d:Cat} (sc:Shape c) (sd:Shape d):Spec Tryz.prog 232 [jX c,jX d] [] (.agg [iv (smC c d).ob, .sl 0, .sl 1, .sl 2, .sl 3]) [(0,⟨1, .arr (ints (smC c d).fr)⟩),(1,⟨1, .arr (ints (smC c d).to)⟩),(2,⟨1, .arr (ints (smC c d).id)⟩),(3,⟨1, .arr (aC (smC c d).co)⟩)]:=by
 have bc:=Shape.catB sc
 have c0:=sc.ob0
 have c8:=sc.ob8
 have c40:=sc.m40
 have ctl:=sc.tol
 have cil:=sc.idl
 have ccl:=sc.col
 have d0:=sd.ob0
 have d8:=sd.ob8
 have d40:=sd.m40
 have dtl:=sd.tol
 have dil:=sd.idl
 have dcl:=sd.col
 rw [aPn sc sd]
 refine aD (E:=TE) 0 Tryz.func232 rfl (by simp [Tryz.f232]) fun X hn hX=>?_
 repeat'(first|refine wkQ ?_|refine Tw.f ?_ ?_|(refine kcQ fQ ?_;refine krQ (iM (c:=c) ?_) ?_)|(refine fun(hc:(_:Bool)=_)=>?_;try simp only [hcS]at hc))
 all_goals try exact om_
 refine aG (G:={y:Nat//y≤d.id.length∧(True)}) (fun⟨y,_⟩=>[(8,iv y),(2, .ptr 0 0),(3, .ptr 1 0),(4, .ptr 2 0),(7, .ptr 7 0),(5,iv c.ob),(6,iv c.fr.length)]) [] (fun⟨y,_⟩=>[(7,⟨1, .box [iv (c.ob+d.ob), .sl 3, .sl 4, .sl 5, .sl 6]⟩),(3,⟨1, .arr (ints c.fr)⟩),(4,⟨1, .arr (ints c.to)⟩),(5,⟨1, .arr (ints (c.id++tkM d.id y c.fr.length))⟩),(6,⟨1, .arr (aC c.co)⟩)]) [3,4,5,6,7] (fun zz=>d.id.length-zz.1) ⟨0,Nat.zero_le _,by first|trivial|simp⟩ ?_ ?_
 ·exact Imp.au hX
 rintro⟨y,hiy,hwy⟩
 simp only [go_sem,simprocAttr]
 rcases Nat.lt_or_ge y d.id.length with hy|hy
 ·have w1:=sd.idw y hy
  have e1:=aAF (z:=(c.fr.length:Int)) hy
  have l1:=xL (l:=d.id) (z:=(c.fr.length:Int)) (Nat.le_of_lt hy)
  repeat'(first|refine wkQ ?_|refine Tw.f ?_ ?_|(refine fun(hc:(_:Bool)=_)=>?_;try simp only [hcS]at hc))
  all_goals try exact om_
  all_goals try(exfalso;omega)
  refine⟨⟨y+1,by omega,(by(trivial))⟩,by simp only;omega,Imp.auto hX (by simp only [go_sem,simprocAttr,e1,List.append_assoc])⟩
 ·obtain rfl:y=d.id.length:=by omega
  have l0:=xL (l:=d.id) (z:=(c.fr.length:Int)) (Nat.le_refl d.id.length)
  repeat'(first|refine wkQ ?_|refine Tw.f ?_ ?_|(refine fun(hc:(_:Bool)=_)=>?_;try simp only [hcS]at hc))
  all_goals try exact om_
  all_goals try(exfalso;omega)
  refine aG (G:={f:Nat//f≤c.co.length∧(True)}) (fun⟨f,_⟩=>[(9,iv f),(2, .ptr 0 0),(3, .ptr 1 0),(4, .ptr 2 0),(7, .ptr 7 0),(5,iv c.ob),(6,iv c.fr.length)]) [] (fun⟨f,_⟩=>[(7,⟨1, .box [iv (c.ob+d.ob), .sl 3, .sl 4, .sl 5, .sl 6]⟩),(3,⟨1, .arr (ints c.fr)⟩),(4,⟨1, .arr (ints c.to)⟩),(5,⟨1, .arr (ints (c.id++tkM d.id d.id.length c.fr.length))⟩),(6,⟨1, .arr (aC (smT c d.fr.length f 0))⟩)]) [3,4,5,6,7] (fun zz=>c.co.length-zz.1) ⟨0,Nat.zero_le _,by trivial⟩ ?_ ?_
  ·exact Imp.auto hX (by simp [go_sem,simprocAttr,aKP])
  rintro⟨f,hif,hwf⟩
  simp only [go_sem,simprocAttr]
  have l2:=eQ (c:=c) (m:=d.fr.length) (f:=f) (g:=0)
  rcases Nat.lt_or_ge f c.co.length with hf1|hf1
  ·have lr:=(sc.coe f (by omega)).1
   repeat'(first|refine wkQ ?_|refine Tw.f ?_ ?_|(refine fun(hc:(_:Bool)=_)=>?_;try simp only [hcS]at hc))
   all_goals try exact om_
   all_goals try(exfalso;omega)
   refine aG (G:={g:Nat//g≤d.fr.length∧(True)}) (fun⟨g,_⟩=>[(10,iv g),(2, .ptr 0 0),(3, .ptr 1 0),(4, .ptr 2 0),(7, .ptr 7 0),(5,iv c.ob),(6,iv c.fr.length),(9,iv f)]) [] (fun⟨g,_⟩=>[(7,⟨1, .box [iv (c.ob+d.ob), .sl 3, .sl 4, .sl 5, .sl 6]⟩),(3,⟨1, .arr (ints c.fr)⟩),(4,⟨1, .arr (ints c.to)⟩),(5,⟨1, .arr (ints (c.id++tkM d.id d.id.length c.fr.length))⟩),(6,⟨1, .arr (aC (smT c d.fr.length f g))⟩)]) [3,4,5,6,7] (fun zz=>d.fr.length-zz.1) ⟨0,Nat.zero_le _,by first|trivial|simp⟩ ?_ ?_
   ·exact Imp.au hX
   rintro⟨g,hig,hwg⟩
   simp only [go_sem,simprocAttr]
   have l3:=eQ (c:=c) (m:=d.fr.length) (f:=f) (g:=g)
   rcases Nat.lt_or_ge g d.fr.length with hg1|hg1
   ·have e1:=aKO (c:=c) (m:=d.fr.length) (f:=f) (g:=g) hf1
    have e2:=aKQ (c:=c) (m:=d.fr.length) (f:=f) (g:=g) hf1
    have l4:(c.co.getD f []++List.replicate g (-1)).length=c.fr.length+g:=by rw [List.length_append,List.length_replicate,lr]
    repeat'(first|(rw [e1])|(refine dG 14 (Imp.open_ 6 f (aC (smT c d.fr.length f g)) [] (.inr ⟨rfl,rfl⟩) (Nat.le_refl 1) (by simp only [go_sem,simprocAttr];omega) rfl (by simp only [go_sem,simprocAttr]) rfl) ?_;simp only [go_sem,simprocAttr])|(with_reducible first|refine St.f ?_|refine V_c ?_|refine eDn ?_|refine And.intro ?_ ?_|refine aI ?_ ?_|refine aN ?_)|((refine aQ ?_);intro K hK)|((with_reducible refine So.f ?_);intro K hK;simp(contextual:=true)only [go_sem,simprocAttr])|((with_reducible refine hK _ ?_);clear hK K)|(refine fun(hc:(_:Bool)=_)=>?_;try simp only [hcS]at hc))
    all_goals try exact om_
    all_goals try(exfalso;omega)
    refine⟨⟨g+1,by omega,(by(trivial))⟩,by simp only;omega,Imp.auto hX (by simp only [go_sem,simprocAttr,e2])⟩
   ·obtain rfl:g=d.fr.length:=by omega
    have e1:=aM2 (c:=c) (m:=d.fr.length) (f:=f)
    repeat'(first|refine wkQ ?_|refine Tw.f ?_ ?_|(refine fun(hc:(_:Bool)=_)=>?_;try simp only [hcS]at hc))
    all_goals try exact om_
    all_goals try(exfalso;omega)
    refine⟨⟨f+1,by omega,(by(trivial))⟩,by simp only;omega,Imp.auto hX (by simp only [go_sem,simprocAttr,e1])⟩
  ·obtain rfl:f=c.co.length:=by omega
   repeat'(first|refine wkQ ?_|refine Tw.f ?_ ?_|(refine fun(hc:(_:Bool)=_)=>?_;try simp only [hcS]at hc))
   all_goals try exact om_
   all_goals try(exfalso;omega)
   refine aG (G:={f:Nat//f≤d.fr.length∧(True)}) (fun⟨f,_⟩=>[(11,iv f),(2, .ptr 0 0),(3, .ptr 1 0),(4, .ptr 2 0),(7, .ptr 7 0),(5,iv c.ob),(6,iv c.fr.length)]) [] (fun⟨f,_⟩=>[(7,⟨1, .box [iv (c.ob+d.ob), .sl 3, .sl 4, .sl 5, .sl 6]⟩),(3,⟨1, .arr (ints (c.fr++tkM d.fr f c.ob))⟩),(4,⟨1, .arr (ints (c.to++tkM d.to f c.ob))⟩),(5,⟨1, .arr (ints (c.id++tkM d.id d.id.length c.fr.length))⟩),(6,⟨1, .arr (aC (smR c d f))⟩)]) [3,4,5,6,7] (fun zz=>d.fr.length-zz.1) ⟨0,Nat.zero_le _,by trivial⟩ ?_ ?_
   ·exact Imp.auto hX (by simp [go_sem,simprocAttr,aKN])
   rintro⟨f,hif,hwf⟩
   simp only [go_sem,simprocAttr]
   have l3:=aM0 (c:=c) (d:=d) (f:=f)
   rcases Nat.lt_or_ge f d.fr.length with hf2|hf2
   ·have w1:=sd.frw f hf2
    have w2:=sd.tow f (by omega)
    have lr:=(sd.coe f hf2).1
    have e1:=aAF (l:=d.fr) (z:=c.ob) hf2
    have e2:=aAF (l:=d.to) (k:=f) (z:=c.ob) (by omega)
    have n1:=xL (l:=d.fr) (z:=c.ob) (Nat.le_of_lt hf2)
    have n2:=xL (l:=d.to) (k:=f) (z:=c.ob) (by omega)
    have er:=aKM (c:=c) (d:=d) (f:=f)
    repeat'(first|refine wkQ ?_|refine Tw.f ?_ ?_|(refine fun(hc:(_:Bool)=_)=>?_;try simp only [hcS]at hc))
    all_goals try exact om_
    all_goals try(exfalso;omega)
    refine aG (G:={g:Nat//g≤c.fr.length∧(True)}) (fun⟨g,_⟩=>[(13,iv g),(2, .ptr 0 0),(3, .ptr 1 0),(4, .ptr 2 0),(7, .ptr 7 0),(5,iv c.ob),(6,iv c.fr.length),(11,iv f),(87, .sl 8),(99, .sl 10),(12, .sl 12)]) [] (fun⟨g,_⟩=>[(7,⟨1, .box [iv (c.ob+d.ob), .sl 9, .sl 11, .sl 5, .sl 6]⟩),(9,⟨1, .arr (ints (c.fr++tkM d.fr (f+1) c.ob))⟩),(11,⟨1, .arr (ints (c.to++tkM d.to (f+1) c.ob))⟩),(5,⟨1, .arr (ints (c.id++tkM d.id d.id.length c.fr.length))⟩),(6,⟨1, .arr (aC (smR c d f))⟩),(8,⟨1, .arr (ints [d.fr.getD f 0+c.ob])⟩),(10,⟨1, .arr (ints [d.to.getD f 0+c.ob])⟩),(12,⟨1, .arr (ints (List.replicate g (-1)))⟩)]) [5,6,7,8,9,10,11,12] (fun zz=>c.fr.length-zz.1) ⟨0,Nat.zero_le _,by trivial⟩ ?_ ?_
    ·exact Imp.auto hX (by simp [go_sem,simprocAttr,e1,e2,List.append_assoc,List.replicate_zero])
    rintro⟨g,hig,hwg⟩
    simp only [go_sem,simprocAttr]
    rcases Nat.lt_or_ge g c.fr.length with hg1|hg1
    ·have e3:List.replicate (g+1) (-1:Int)=List.replicate g (-1)++[-1]:=List.replicate_succ'
     repeat'(first|refine wkQ ?_|refine Tw.f ?_ ?_|(refine fun(hc:(_:Bool)=_)=>?_;try simp only [hcS]at hc))
     all_goals try exact om_
     all_goals try(exfalso;omega)
     refine⟨⟨g+1,by omega,(by(trivial))⟩,by simp only;omega,Imp.auto hX (by simp only [go_sem,simprocAttr,e3])⟩
    ·obtain rfl:g=c.fr.length:=by omega
     repeat'(first|refine wkQ ?_|refine Tw.f ?_ ?_|(refine fun(hc:(_:Bool)=_)=>?_;try simp only [hcS]at hc))
     all_goals try exact om_
     all_goals try(exfalso;omega)
     refine aG (G:={g:Nat//g≤d.fr.length∧(True)}) (fun⟨g,_⟩=>[(14,iv g),(2, .ptr 0 0),(3, .ptr 1 0),(4, .ptr 2 0),(7, .ptr 7 0),(5,iv c.ob),(6,iv c.fr.length),(11,iv f),(87, .sl 8),(99, .sl 10),(12, .sl 12)]) [] (fun⟨g,_⟩=>[(7,⟨1, .box [iv (c.ob+d.ob), .sl 9, .sl 11, .sl 5, .sl 6]⟩),(9,⟨1, .arr (ints (c.fr++tkM d.fr (f+1) c.ob))⟩),(11,⟨1, .arr (ints (c.to++tkM d.to (f+1) c.ob))⟩),(5,⟨1, .arr (ints (c.id++tkM d.id d.id.length c.fr.length))⟩),(6,⟨1, .arr (aC (smR c d f))⟩),(8,⟨1, .arr (ints [d.fr.getD f 0+c.ob])⟩),(10,⟨1, .arr (ints [d.to.getD f 0+c.ob])⟩),(12,⟨1, .arr (ints (smW c d f g))⟩)]) [5,6,7,8,9,10,11,12] (fun zz=>d.fr.length-zz.1) ⟨0,Nat.zero_le _,by trivial⟩ ?_ ?_
     ·exact Imp.auto hX (by simp [go_sem,simprocAttr,aKS])
     rintro⟨g,hig,hwg⟩
     simp only [go_sem,simprocAttr]
     have l4:=aM3 (c:=c) (d:=d) (f:=f) (g:=g) (by omega)
     rcases Nat.lt_or_ge g d.fr.length with hg2|hg2
     ·have e3:=aKR (c:=c) (d:=d) (f:=f) (g:=g) (by omega)
      have hE:=(sd.coe f hf2).2 g hg2
      have hR:(d.co.getD f []).getD g 0<d.fr.length:=by
       rcases hE with q|q
       ·have:=q.2.1.2
        simpa [Cat.C]using this
       ·have:=q.2
        simp only [Cat.C,Int.toNat_natCast]at this
        omega
      by_cases h0:0≤(d.co.getD f []).getD g 0
      ·have e4:shI c.fr.length ((d.co.getD f []).getD g 0)=(d.co.getD f []).getD g 0+c.fr.length:=by unfold shI;rw [if_pos h0]
       rw [e4]at e3
       repeat'(first|refine wkQ ?_|refine Tw.f ?_ ?_|(refine fun(hc:(_:Bool)=_)=>?_;try simp only [hcS]at hc))
       all_goals try exact om_
       all_goals try(exfalso;omega)
       refine⟨⟨g+1,by omega,(by(trivial))⟩,by simp only;omega,Imp.auto hX (by simp only [go_sem,simprocAttr,e3])⟩
      ·have e4:shI c.fr.length ((d.co.getD f []).getD g 0)=(d.co.getD f []).getD g 0:=by unfold shI;rw [if_neg h0]
       rw [e4]at e3
       repeat'(first|refine wkQ ?_|refine Tw.f ?_ ?_|(refine fun(hc:(_:Bool)=_)=>?_;try simp only [hcS]at hc))
       all_goals try exact om_
       all_goals try(exfalso;omega)
       refine⟨⟨g+1,by omega,(by(trivial))⟩,by simp only;omega,Imp.auto hX (by simp only [go_sem,simprocAttr,e3])⟩
     ·obtain rfl:g=d.fr.length:=by omega
      repeat'(first|refine wkQ ?_|refine Tw.f ?_ ?_|(refine fun(hc:(_:Bool)=_)=>?_;try simp only [hcS]at hc))
      all_goals try exact om_
      all_goals try(exfalso;omega)
      refine⟨⟨f+1,by omega,(by(trivial))⟩,by simp only;omega,Imp.auto hX (by simp only [go_sem,simprocAttr,er])⟩
   ·obtain rfl:f=d.fr.length:=by omega
    repeat'(first|refine wkQ ?_|refine Tw.f ?_ ?_|(refine fun(hc:(_:Bool)=_)=>?_;try simp only [hcS]at hc))
    all_goals try exact om_
    all_goals try(exfalso;omega)
    (first|refine aB ?_|refine aA ?_);simp only [go_sem,simprocAttr,Tryz.f232]
    rw [dtl]
end Go.Eng
end
section
namespace Go.Eng
open Go Go.Proofs Go.Cats
def aCn (s:Cat) (o p:Int) (fr to:List Int) (f n:Nat):List (List Int):=(List.range f).map fun f=>jnW s o p fr to f n
section
variable {s:Cat} {o p:Int} {fr to:List Int} {f g n k:Nat}
theorem aMq:(jnW s o p fr to f k).length=k:=by unfold jnW;rw [List.length_map,List.length_range]
theorem aJB:jnW s o p fr to f (k+1)=jnW s o p fr to f k++[jnE s o p fr to f k]:=by unfold jnW;rw [List.range_succ,List.map_append];rfl
theorem aJC:jnW s o p fr to f 0=[]:=rfl
theorem aJA:(aCn s o p fr to k n).length=k:=by unfold aCn;rw [List.length_map,List.length_range]
theorem aHu:aCn s o p fr to (k+1) n=aCn s o p fr to k n++[jnW s o p fr to k n]:=by unfold aCn;rw [List.range_succ,List.map_append];rfl
theorem aHv:aCn s o p fr to 0 n=[]:=rfl
theorem aJy:jnF n 0=[]:=rfl
theorem aJz:jnT o n 0=[]:=rfl
theorem aGi:jnF 1 1=[0]:=rfl
theorem aGj:jnT o 1 1=[o+0]:=rfl
end
attribute [local go_sem] List.set_cons_zero List.set_cons_succ List.append_nil aJC aHv aJy aJz
theorem uZ:aF Tryz.prog 263:=⟨_,Tryz.func263,rfl,rfl⟩
theorem aAo {c d:Cat} (sc:Shape c) (sd:Shape d) (hc1:c.ob=1) (hd1:d.ob=1) (hm:IsCat (smC c d)):Spec Tryz.prog 263 [jX c,jX d] [] (.agg [iv (jnC c d).ob, .sl 0, .sl 1, .sl 2, .sl 3]) [(0,⟨1, .arr (ints (jnC c d).fr)⟩),(1,⟨1, .arr (ints (jnC c d).to)⟩),(2,⟨1, .arr (ints (jnC c d).id)⟩),(3,⟨1, .arr (aC (jnC c d).co)⟩)]:=by
 have hsum:=aBI sc sd
 have ss:=hm.toShape
 have m40:=ss.m40
 have tol:=ss.tol
 have cil:=ss.idl
 have ccl:=ss.col
 have e0:jnC c d=⟨(smC c d).ob,(smC c d).fr++[0],(smC c d).to++[c.ob+0],(smC c d).id,aCn (smC c d) c.ob d.ob ((smC c d).fr++[0]) ((smC c d).to++[c.ob+0]) ((smC c d).fr++[0]).length ((smC c d).fr++[0]).length⟩:=by
  unfold jnC
  rw [hc1,hd1];rfl
 simp only [Int.add_zero]at e0
 rw [e0]
 clear e0
 obtain⟨s,hs⟩:∃s,smC c d=s:=⟨_,rfl⟩
 rw [hs]at hsum ss m40 tol cil ccl⊢
 refine aD (E:=TE) 0 Tryz.func263 rfl (by simp [Tryz.f263]) fun X hn hX=>?_
 repeat'(first|refine wkQ ?_|refine Tw.f ?_ ?_|(refine kcQ fR ?_;refine kwQ (hsum) [(0,3),(1,4),(2,5),(3,6)] [] ?_)|(refine fun(hc:(_:Bool)=_)=>?_;try simp only [hcS]at hc))
 all_goals try exact om_
 refine aG (G:={x:Nat//x≤(1:Nat)∧(True)}) (fun⟨x,_⟩=>[(7,iv x),(2, .ptr 0 0),(3, .ptr 1 0),(4, .ptr 2 0),(5, .ptr 7 0),(6,iv s.fr.length)]) [] (fun⟨x,_⟩=>[(7,⟨1, .box [iv s.ob, .sl 3, .sl 4, .sl 5, .sl 6]⟩),(3,⟨1, .arr (ints (s.fr++jnF 1 x))⟩),(4,⟨1, .arr (ints (s.to++jnT c.ob 1 x))⟩),(5,⟨1, .arr (ints s.id)⟩),(6,⟨1, .arr (aC s.co)⟩)]) [3,4,5,6,7] (fun zz=>(1:Nat)-zz.1) ⟨0,Nat.zero_le _,by first|trivial|simp⟩ ?_ ?_
 ·exact Imp.au hX
 rintro⟨x,hix,hwx⟩
 simp only [go_sem,simprocAttr]
 rcases Nat.lt_or_ge x 1 with hx1|hx1
 ·obtain rfl:x=0:=by omega
  repeat'(first|refine wkQ ?_|refine Tw.f ?_ ?_|(refine fun(hc:(_:Bool)=_)=>?_;try simp only [hcS]at hc))
  all_goals try exact om_
  all_goals try(exfalso;omega)
  refine aG (G:={y:Nat//y≤(1:Nat)∧(True)}) (fun⟨y,_⟩=>[(8,iv y),(2, .ptr 0 0),(3, .ptr 1 0),(4, .ptr 2 0),(5, .ptr 7 0),(6,iv s.fr.length),(7,iv 0)]) [] (fun⟨y,_⟩=>[(7,⟨1, .box [iv s.ob, .sl 3, .sl 4, .sl 5, .sl 6]⟩),(3,⟨1, .arr (ints (s.fr++jnF 1 y))⟩),(4,⟨1, .arr (ints (s.to++jnT c.ob 1 y))⟩),(5,⟨1, .arr (ints s.id)⟩),(6,⟨1, .arr (aC s.co)⟩)]) [3,4,5,6,7] (fun zz=>(1:Nat)-zz.1) ⟨0,Nat.zero_le _,by first|trivial|simp⟩ ?_ ?_
  ·exact Imp.au hX
  rintro⟨y,hiy,hwy⟩
  simp only [go_sem,simprocAttr]
  rcases Nat.lt_or_ge y 1 with hy1|hy1
  ·obtain rfl:y=0:=by omega
   have e1:jnF 1 (0+1)=[0]:=rfl
   have e2:jnT c.ob 1 (0+1)=[c.ob]:=by rw [aGj,Int.add_zero]
   repeat'(first|refine wkQ ?_|refine Tw.f ?_ ?_|(refine fun(hc:(_:Bool)=_)=>?_;try simp only [hcS]at hc))
   all_goals try exact om_
   all_goals try(exfalso;omega)
   refine⟨⟨0+1,by omega,(by(trivial))⟩,by simp only;omega,Imp.auto hX (by simp only [go_sem,simprocAttr,e1,e2])⟩
  ·obtain rfl:y=1:=by omega
   repeat'(first|refine wkQ ?_|refine Tw.f ?_ ?_|(refine fun(hc:(_:Bool)=_)=>?_;try simp only [hcS]at hc))
   all_goals try exact om_
   all_goals try(exfalso;omega)
   refine⟨⟨0+1,by omega,(by(trivial))⟩,by simp only;omega,Imp.auto hX (by simp only [go_sem,simprocAttr,aGi])⟩
 ·obtain rfl:x=1:=by omega
  rw [aGi,aGj,Int.add_zero]
  have lF:(s.fr++[0]).length=s.fr.length+1:=by simp
  have lT:(s.to++[c.ob]).length=s.fr.length+1:=by simp [tol]
  have bF:∀i,i<s.fr.length+1→0≤(s.fr++[0]).getD i 0∧(s.fr++[0]).getD i 0≤8:=fun i hi=>by
   have:=ss.ob8
   rcases Nat.lt_or_ge i s.fr.length with h|h
   ·have:=ss.frw i h
    rw [List.getD_eq_getElem?_getD,List.getElem?_append_left h,←List.getD_eq_getElem?_getD];omega
   ·obtain rfl:i=s.fr.length:=by omega
    rw [List.getD_eq_getElem?_getD,List.getElem?_append_right (Nat.le_refl _),Nat.sub_self]
    show(0:Int)≤0∧(0:Int)≤8;omega
  have bT:∀i,i<s.fr.length+1→0≤(s.to++[c.ob]).getD i 0∧(s.to++[c.ob]).getD i 0≤8:=fun i hi=>by
   have:=ss.ob8
   rcases Nat.lt_or_ge i s.to.length with h|h
   ·have:=ss.tow i h
    rw [List.getD_eq_getElem?_getD,List.getElem?_append_left h,←List.getD_eq_getElem?_getD];omega
   ·obtain rfl:i=s.to.length:=by omega
    rw [List.getD_eq_getElem?_getD,List.getElem?_append_right (Nat.le_refl _),Nat.sub_self]
    show(0:Int)≤c.ob∧c.ob≤8;omega
  have eE:∀f g,jnE s c.ob d.ob (s.fr++[0]) (s.to++[c.ob]) f g=if(s.to++[c.ob]).getD f 0≠(s.fr++[0]).getD g 0 then-1 else if f<s.fr.length∧g<s.fr.length then(s.co.getD f []).getD g 0 else(s.fr.length:Int)+(s.fr++[0]).getD f 0*d.ob+(s.to++[c.ob]).getD g 0-c.ob:=fun f g=>by
   unfold jnE;simp only [Cat.C,Int.toNat_natCast]
  have hrow:∀f,f<s.fr.length→(s.co.getD f []).length=s.fr.length:=fun f hf=>(ss.coe f hf).1
  generalize s.fr++[0]=FR at lF bF eE⊢
  generalize s.to++[c.ob]=TO at lT bT eE⊢
  repeat'(first|refine wkQ ?_|refine Tw.f ?_ ?_|(refine fun(hc:(_:Bool)=_)=>?_;try simp only [hcS]at hc))
  all_goals try exact om_
  all_goals try(exfalso;omega)
  refine aG (G:={f:Nat//f≤(s.fr.length+1)∧(True)}) (fun⟨f,_⟩=>[(10,iv f),(2, .ptr 0 0),(3, .ptr 1 0),(4, .ptr 2 0),(5, .ptr 7 0),(6,iv s.fr.length),(9, .sl 8)]) [] (fun⟨f,_⟩=>[(7,⟨1, .box [iv s.ob, .sl 3, .sl 4, .sl 5, .sl 6]⟩),(3,⟨1, .arr (ints FR)⟩),(4,⟨1, .arr (ints TO)⟩),(5,⟨1, .arr (ints s.id)⟩),(6,⟨1, .arr (aC s.co)⟩),(8,⟨1, .arr (aC (aCn s c.ob d.ob FR TO f FR.length))⟩)]) [3,4,5,6,7,8] (fun zz=>(s.fr.length+1)-zz.1) ⟨0,Nat.zero_le _,by first|trivial|simp⟩ ?_ ?_
  ·exact Imp.au hX
  rintro⟨f,hif,hwf⟩
  simp only [go_sem,simprocAttr]
  have l2:=aJA (s:=s) (o:=c.ob) (p:=d.ob) (fr:=FR) (to:=TO) (k:=f) (n:=FR.length)
  rcases Nat.lt_or_ge f (s.fr.length+1)with hf1|hf1
  ·have b1:=bT f hf1
   have b2:=bF f hf1
   have hp:FR.getD f 0*d.ob=FR.getD f 0:=by rw [hd1,Int.mul_one]
   repeat'(first|refine wkQ ?_|refine Tw.f ?_ ?_|(refine fun(hc:(_:Bool)=_)=>?_;try simp only [hcS]at hc))
   all_goals try exact om_
   all_goals try(exfalso;omega)
   refine aG (G:={g:Nat//g≤(s.fr.length+1)∧(True)}) (fun⟨g,_⟩=>[(12,iv g),(2, .ptr 0 0),(3, .ptr 1 0),(4, .ptr 2 0),(5, .ptr 7 0),(6,iv s.fr.length),(9, .sl 8),(10,iv f),(11, .sl 9)]) [] (fun⟨g,_⟩=>[(7,⟨1, .box [iv s.ob, .sl 3, .sl 4, .sl 5, .sl 6]⟩),(3,⟨1, .arr (ints FR)⟩),(4,⟨1, .arr (ints TO)⟩),(5,⟨1, .arr (ints s.id)⟩),(6,⟨1, .arr (aC s.co)⟩),(8,⟨1, .arr (aC (aCn s c.ob d.ob FR TO f FR.length))⟩),(9,⟨1, .arr (ints (jnW s c.ob d.ob FR TO f g))⟩)]) [3,4,5,6,7,8,9] (fun zz=>(s.fr.length+1)-zz.1) ⟨0,Nat.zero_le _,by first|trivial|simp⟩ ?_ ?_
   ·exact Imp.au hX
   rintro⟨g,hig,hwg⟩
   simp only [go_sem,simprocAttr]
   have l3:=aMq (s:=s) (o:=c.ob) (p:=d.ob) (fr:=FR) (to:=TO) (f:=f) (k:=g)
   rcases Nat.lt_or_ge g (s.fr.length+1)with hg1|hg1
   ·have b3:=bF g hg1
    have b4:=bT g hg1
    have e3:=aJB (s:=s) (o:=c.ob) (p:=d.ob) (fr:=FR) (to:=TO) (f:=f) (k:=g)
    rw [eE]at e3
    by_cases h0:TO.getD f 0=FR.getD g 0
    ·rw [if_neg (by simpa using h0)]at e3
     by_cases h1:f<s.fr.length
     ·have lr:=hrow f h1
      by_cases h2:g<s.fr.length
      ·rw [if_pos ⟨h1,h2⟩]at e3
       repeat'(first|refine wkQ ?_|refine Tw.f ?_ ?_|(refine fun(hc:(_:Bool)=_)=>?_;try simp only [hcS]at hc))
       all_goals try exact om_
       all_goals try(exfalso;omega)
       refine⟨⟨g+1,by omega,(by(trivial))⟩,by simp only;omega,Imp.auto hX (by simp only [go_sem,simprocAttr,e3])⟩
      ·rw [if_neg (by omega)]at e3
       repeat'(first|refine wkQ ?_|refine Tw.f ?_ ?_|(refine fun(hc:(_:Bool)=_)=>?_;try simp only [hcS]at hc))
       all_goals try exact om_
       all_goals try(exfalso;omega)
       refine⟨⟨g+1,by omega,(by(trivial))⟩,by simp only;omega,Imp.auto hX (by simp only [go_sem,simprocAttr,e3])⟩
     ·rw [if_neg (by omega)]at e3
      repeat'(first|refine wkQ ?_|refine Tw.f ?_ ?_|(refine fun(hc:(_:Bool)=_)=>?_;try simp only [hcS]at hc))
      all_goals try exact om_
      all_goals try(exfalso;omega)
      refine⟨⟨g+1,by omega,(by(trivial))⟩,by simp only;omega,Imp.auto hX (by simp only [go_sem,simprocAttr,e3])⟩
    ·rw [if_pos (by simpa using h0)]at e3
     repeat'(first|refine wkQ ?_|refine Tw.f ?_ ?_|(refine fun(hc:(_:Bool)=_)=>?_;try simp only [hcS]at hc))
     all_goals try exact om_
     all_goals try(exfalso;omega)
     refine⟨⟨g+1,by omega,(by(trivial))⟩,by simp only;omega,Imp.auto hX (by simp only [go_sem,simprocAttr,e3])⟩
   ·obtain rfl:g=s.fr.length+1:=by omega
    have e1:=aHu (s:=s) (o:=c.ob) (p:=d.ob) (fr:=FR) (to:=TO) (k:=f) (n:=FR.length)
    rw [lF]at e1
    repeat'(first|refine wkQ ?_|refine Tw.f ?_ ?_|(refine fun(hc:(_:Bool)=_)=>?_;try simp only [hcS]at hc))
    all_goals try exact om_
    all_goals try(exfalso;omega)
    refine⟨⟨f+1,by omega,(by(trivial))⟩,by simp only;omega,Imp.auto hX (by simp only [go_sem,simprocAttr,lF,e1])⟩
  ·obtain rfl:f=s.fr.length+1:=by omega
   repeat'(first|refine wkQ ?_|refine Tw.f ?_ ?_|(refine fun(hc:(_:Bool)=_)=>?_;try simp only [hcS]at hc))
   all_goals try exact om_
   all_goals try(exfalso;omega)
   (first|refine aB ?_|refine aA ?_);simp only [go_sem,simprocAttr,Tryz.f263]
   rw [lF]
end Go.Eng
end
section
namespace Go.Eng
open Go Go.Proofs Go.Cats
attribute [local go_sem] List.set_cons_zero List.set_cons_succ
namespace Zp
theorem qX:∀(a b:List Int) (i:Nat),a.take i=b.take i→i≤a.length→i≤b.length→sE a b=sE (a.drop i) (b.drop i)
 |a,b,0,_,_,_=>rfl
 |[],_,i+1,_,h,_=>by simp at h
 |_::_,[],i+1,_,_,h=>by simp at h
 |x::a,y::b,i+1,h,h1,h2=>by
  simp only [List.take_succ_cons,List.cons.injEq]at h
  obtain⟨rfl,h⟩:=h
  rw [sE,if_pos rfl]
  exact qX a b i h (by simpa using h1) (by simpa using h2)
theorem aJM {a b:List Int} {i:Nat} (h:a.take i=b.take i) (ha:i<a.length) (hb:i<b.length) (hne:¬a.getD i 0=b.getD i 0):sE a b=decide (a.getD i 0<b.getD i 0):=by
 rw [qX a b i h (by omega) (by omega),List.drop_eq_getElem_cons ha,List.drop_eq_getElem_cons hb]
 rw [List.getD_eq_getElem?_getD,List.getElem?_eq_getElem ha,List.getD_eq_getElem?_getD,List.getElem?_eq_getElem hb]at hne⊢
 simp only [Option.getD_some]at hne⊢
 rw [sE,if_neg hne]
theorem aHx {a b:List Int} {i:Nat} (h:a.take i=b.take i) (ha:i≤a.length) (hb:i≤b.length) (he:i=a.length∨i=b.length):sE a b=decide (a.length<b.length):=by
 rw [qX a b i h ha hb]
 rcases he with rfl|rfl
 ·rw [List.drop_length]
  by_cases q:a.length<b.length
  ·rw [decide_eq_true q,List.drop_eq_getElem_cons q];rfl
  ·rw [decide_eq_false q,List.drop_eq_nil_of_le (by omega)];rfl
 ·rw [List.drop_length (l:=b)]
  have:¬a.length<b.length:=by omega
  rw [decide_eq_false this]
  cases a.drop b.length<;>rfl
theorem uT:aF Tryz.prog 269:=⟨_,Tryz.func269,rfl,rfl⟩
theorem sp_l01Less {a b:List Int} (ha:a.length≤1048576) (hb:b.length≤1048576):Spec Tryz.prog 269 [.bor [] (ints a), .bor [] (ints b)] [] (bv (sE a b)) []:=by
 refine aD (E:=TE) 0 Tryz.func269 rfl (by simp [Tryz.f269]) fun X hn hX=>?_
 repeat'(first|refine wkQ ?_|refine Tw.f ?_ ?_|(refine fun(hc:(_:Bool)=_)=>?_;try simp only [hcS]at hc))
 all_goals try exact om_
 refine aG (G:={i:Nat//i≤a.length∧(a.take i=b.take i∧i≤b.length)}) (fun⟨i,_⟩=>[(5,iv i)]) [0,1] (fun⟨i,_⟩=>[]) [] (fun zz=>a.length-zz.1) ⟨0,Nat.zero_le _,(⟨rfl,Nat.zero_le _⟩)⟩ ?_ ?_
 ·exact Imp.au hX
 rintro⟨i,hii,hwi⟩
 simp only [go_sem,simprocAttr]
 obtain⟨hw1,hw2⟩:=hwi
 repeat'(first|refine wkQ ?_|refine Tw.f ?_ ?_|(refine fun(hc:(_:Bool)=_)=>?_;try simp only [hcS]at hc))
 all_goals try exact om_
 ·(first|refine aB ?_|refine aA ?_);simp only [go_sem,simprocAttr,Tryz.f269]
  rw [aJM hw1 (by omega) (by omega) hc]
 ·refine⟨⟨i+1,by omega,(by exact⟨mO hw1 (by omega) (by omega) hc,by omega⟩)⟩,by simp only;omega,Imp.ao hX⟩
 all_goals((first|refine aB ?_|refine aA ?_);simp only [go_sem,simprocAttr,Tryz.f269];rw [aHx hw1 (by omega) (by omega) (by omega),show decide ((a.length:Int)<(b.length:Int))=decide (a.length<b.length) from by rw [decide_eq_decide];omega])
end Zp
open Zp (uT)
theorem dX:aF Tryz.prog 281:=⟨_,Tryz.func281,rfl,rfl⟩
theorem sW {a b:Pth} (ha:a.2.2.length≤1048576) (hb:b.2.2.length≤1048576):Spec Tryz.prog 281 [.agg [iv a.1,iv a.2.1, .bor [] (ints a.2.2)], .agg [iv b.1,iv b.2.1, .bor [] (ints b.2.2)]] [] (.v (.bool (aDQ a b))) []:=by
 have hless:=Zp.sp_l01Less ha hb
 unfold aDQ
 refine aD (E:=TE) 0 Tryz.func281 rfl (by simp [Tryz.f281]) fun X hn hX=>?_
 by_cases h1:a.1=b.1
 ·rw [if_neg (by simpa using h1)]
  by_cases h2:a.2.1=b.2.1
  ·rw [if_neg (by simpa using h2)]
   repeat'(first|refine wkQ ?_|refine Tw.f ?_ ?_|(refine kcQ uT ?_;refine kwQ (hless) [] [] ?_)|(refine fun(hc:(_:Bool)=_)=>?_;try simp only [hcS]at hc))
   all_goals try exact om_
   all_goals try(exfalso;omega)
   (first|refine aB ?_|refine aA ?_);simp only [go_sem,simprocAttr,Tryz.f281]
  ·rw [if_pos h2]
   repeat'(first|refine wkQ ?_|refine Tw.f ?_ ?_|(refine fun(hc:(_:Bool)=_)=>?_;try simp only [hcS]at hc))
   all_goals try exact om_
   all_goals try(exfalso;omega)
   (first|refine aB ?_|refine aA ?_);simp only [go_sem,simprocAttr,Tryz.f281]
 ·rw [if_pos h1]
  repeat'(first|refine wkQ ?_|refine Tw.f ?_ ?_|(refine fun(hc:(_:Bool)=_)=>?_;try simp only [hcS]at hc))
  all_goals try exact om_
  all_goals try(exfalso;omega)
  (first|refine aB ?_|refine aA ?_);simp only [go_sem,simprocAttr,Tryz.f281]
end Go.Eng
end
