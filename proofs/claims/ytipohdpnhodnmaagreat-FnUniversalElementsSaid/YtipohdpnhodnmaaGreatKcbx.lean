/- Several texts in one: Z03, Z04. -/
import Derived.Test.YtipohdpnhodnmaaGreatKcax
set_option linter.unusedSimpArgs false
set_option linter.unusedVariables false
set_option maxRecDepth 100000
set_option maxHeartbeats 16000000
section
namespace Go.Eng
open Go Go.Proofs Go.Cats
def poG (L:List (List Int)) (k:Nat):List Int:=L.map fun r=>r.getD k 0
def sJ (R:List (List Int)) (n i j:Nat):List Int:=(List.range j).map fun k=>poN R n i k
def uC (R:List (List Int)) (n i:Nat):List (List Int):=(List.range i).map fun i=>sJ R n i n
def poI (R:List (List Int)) (n i:Nat):List Int:=(List.range i).map fun i=>poN R n i i
def poW (R:List (List Int)) (n f:Nat):List (List Int):=(List.range f).map fun a=>pW (poA R n n) poP a (poA R n n).length
section
variable {R:List (List Int)} {n i j k f g:Nat}
theorem xD {L:List (List Int)}:(poG L k).length=L.length:=List.length_map _
theorem aCs {L:List (List Int)} (h:i<L.length):(poG L k).getD i 0=(L.getD i []).getD k 0:=nE (f:=fun r=>r.getD k 0) h
theorem aJ7 (h:mE R i j=1):poG (poA R n i++bY R i (j+1)) 0=poG (poA R n i++bY R i j) 0++[(i:Int)]:=by rw [jQ h,←List.append_assoc];unfold poG;rw [List.map_append];rfl
theorem aJ8 (h:mE R i j=1):poG (poA R n i++bY R i (j+1)) 1=poG (poA R n i++bY R i j) 1++[(j:Int)]:=by rw [jQ h,←List.append_assoc];unfold poG;rw [List.map_append];rfl
theorem zF:(sJ R n i j).length=j:=by unfold sJ;rw [List.length_map,List.length_range]
theorem aKc:(uC R n i).length=i:=by unfold uC;rw [List.length_map,List.length_range]
theorem aML:(poI R n i).length=i:=by unfold poI;rw [List.length_map,List.length_range]
theorem aMM:(poW R n f).length=f:=by unfold poW;rw [List.length_map,List.length_range]
theorem aHE:sJ R n i (j+1)=sJ R n i j++[poN R n i j]:=by unfold sJ;rw [List.range_succ,List.map_append];rfl
theorem aHG:uC R n (i+1)=uC R n i++[sJ R n i n]:=by unfold uC;rw [List.range_succ,List.map_append];rfl
theorem aKa:poI R n (i+1)=poI R n i++[poN R n i i]:=by unfold poI;rw [List.range_succ,List.map_append];rfl
theorem aKd:poW R n (f+1)=poW R n f++[pW (poA R n n) poP f (poA R n n).length]:=by unfold poW;rw [List.range_succ,List.map_append];rfl
theorem aGu (h:k<j):(sJ R n i j).getD k 0=poN R n i k:=by unfold sJ;rw [List.getD_eq_getElem?_getD,List.getElem?_map,List.getElem?_range h];rfl
theorem aGv (h:k<i):(uC R n i).getD k []=sJ R n k n:=by unfold uC;rw [List.getD_eq_getElem?_getD,List.getElem?_map,List.getElem?_range h];rfl
theorem aId {A:List (List Int)} {cp:List Int→List Int→List Int}:pW A cp f (g+1)=pW A cp f g++[if(A.getD f []).getD 1 0=(A.getD g []).getD 0 0 then fnd A (cp (A.getD f []) (A.getD g []))else-1]:=by unfold pW;rw [List.range_succ,List.map_append];rfl
theorem aLc {A:List (List Int)} {cp:List Int→List Int→List Int}:(pW A cp f g).length=g:=by unfold pW;rw [List.length_map,List.length_range]
theorem aOY:(poC R n).fr=poG (poA R n n) 0:=rfl
theorem aO0:(poC R n).to=poG (poA R n n) 1:=rfl
theorem aOX:(poC R n).co=poW R n (poA R n n).length:=rfl
theorem aOZ (h:PoOK R n):(poC R n).id=poI R n n:=by
 show(List.range n).map _=(List.range n).map _
 refine List.map_congr_left fun i hi=>?_
 have hi:=List.mem_range.1 hi
 exact aGt hi hi (h.rf i hi)
theorem aNQ (hf:f<(poA R n n).length):∃i j:Nat,i<n∧j<n∧mE R i j=1∧(poA R n n).getD f []=[(i:Int),(j:Int)]:=(gM n).1 (aT hf)
theorem aJ9 {k:Nat}:poG (poA R n 0) k=[]:=rfl
theorem aHH:uC R n 0=[]:=rfl
theorem aHF:sJ R n i 0=[]:=rfl
theorem aKb:poI R n 0=[]:=rfl
theorem aKe:poW R n 0=[]:=rfl
theorem aFl:bY R i 0=[]:=rfl
theorem aIe {A:List (List Int)} {cp:List Int→List Int→List Int}:pW A cp f 0=[]:=rfl
end
attribute [local go_sem] aJ9 aHH aHF aKb aKe aFl List.append_nil aIe List.set_cons_zero List.set_cons_succ
theorem bU:aF Tryz.prog 235:=⟨_,Tryz.func235,rfl,rfl⟩
theorem cM {R:List (List Int)} {n:Nat} (h:PoOK R n) (hl:R.length=n) (hr:∀i,i<n→(R.getD i []).length=n):Spec Tryz.prog 235 [.bor [] (aC R)] [] (.agg [iv (poC R n).ob, .sl 0, .sl 1, .sl 2, .sl 3]) [(0,⟨1, .arr (ints (poC R n).fr)⟩),(1,⟨1, .arr (ints (poC R n).to)⟩),(2,⟨1, .arr (ints (poC R n).id)⟩),(3,⟨1, .arr (aC (poC R n).co)⟩)]:=by
 subst hl
 have n6:=h.n6
 have a36:=h.len
 rw [aOY,aO0,aOX,aOZ h,show(poC R R.length).ob=(R.length:Int) from rfl]
 refine aD (E:=TE) 0 Tryz.func235 rfl (by simp [Tryz.f235]) fun X hn hX=>?_
 repeat'(first|refine wkQ ?_|refine Tw.f ?_ ?_|(refine fun(hc:(_:Bool)=_)=>?_;try simp only [hcS]at hc))
 all_goals try exact om_
 refine aG (G:={i:Nat//i≤R.length∧(True)}) (fun⟨i,_⟩=>[(6,iv i),(3,iv R.length),(4, .sl 1),(5, .ptr 6 0),(2, .ptr 0 0)]) [0] (fun⟨i,_⟩=>[(6,⟨1, .box [iv R.length, .sl 2, .sl 3, .sl 4, .sl 5]⟩),(1,⟨1, .arr (aC (uC R R.length i))⟩),(2,⟨1, .arr (ints (poG (poA R R.length i) 0))⟩),(3,⟨1, .arr (ints (poG (poA R R.length i) 1))⟩),(4,⟨1, .arr (ints [])⟩),(5,⟨1, .arr (aC [])⟩)]) [1,2,3,4,5,6] (fun zz=>R.length-zz.1) ⟨0,Nat.zero_le _,by first|trivial|simp⟩ ?_ ?_
 ·exact Imp.au hX
 rintro⟨i,hii,hwi⟩
 simp only [go_sem,simprocAttr]
 have l1:=aKc (R:=R) (n:=R.length) (i:=i)
 rcases Nat.lt_or_ge i R.length with hi1|hi1
 ·have hri:=hr i hi1
  repeat'(first|refine wkQ ?_|refine Tw.f ?_ ?_|(refine fun(hc:(_:Bool)=_)=>?_;try simp only [hcS]at hc))
  all_goals try exact om_
  all_goals try(exfalso;omega)
  refine aG (G:={j:Nat//j≤R.length∧(True)}) (fun⟨j,_⟩=>[(8,iv j),(3,iv R.length),(4, .sl 1),(5, .ptr 6 0),(2, .ptr 0 0),(6,iv i),(7, .sl 7)]) [0] (fun⟨j,_⟩=>[(6,⟨1, .box [iv R.length, .sl 2, .sl 3, .sl 4, .sl 5]⟩),(1,⟨1, .arr (aC (uC R R.length i))⟩),(2,⟨1, .arr (ints (poG (poA R R.length i++bY R i j) 0))⟩),(3,⟨1, .arr (ints (poG (poA R R.length i++bY R i j) 1))⟩),(4,⟨1, .arr (ints [])⟩),(5,⟨1, .arr (aC [])⟩),(7,⟨1, .arr (ints (sJ R R.length i j))⟩)]) [1,2,3,4,5,6,7] (fun zz=>R.length-zz.1) ⟨0,Nat.zero_le _,by first|trivial|simp⟩ ?_ ?_
  ·exact Imp.au hX
  rintro⟨j,hij,hwj⟩
  simp only [go_sem,simprocAttr]
  have b1:=zE (R:=R) (n:=R.length) i
  have b2:=zG (R:=R) (i:=i) j
  have b3:i*R.length≤6*6:=Nat.mul_le_mul (by omega) n6
  have l2:=xD (L:=poA R R.length i++bY R i j) (k:=0)
  have l3:=xD (L:=poA R R.length i++bY R i j) (k:=1)
  rw [List.length_append]at l2 l3
  have l4:=zF (R:=R) (n:=R.length) (i:=i) (j:=j)
  rcases Nat.lt_or_ge j R.length with hj1|hj1
  ·have e1:sJ R R.length i (j+1)=sJ R R.length i j++[((poG (poA R R.length i++bY R i j) 0).length:Int)]:=by rw [aHE,l2];rfl
   by_cases hm:mE R i j=1
   ·have e2:=aJ7 (n:=R.length) hm
    have e3:=aJ8 (n:=R.length) hm
    unfold mE at hm
    repeat'(first|refine wkQ ?_|refine Tw.f ?_ ?_|(refine fun(hc:(_:Bool)=_)=>?_;try simp only [hcS]at hc))
    all_goals try exact om_
    all_goals try(exfalso;omega)
    refine⟨⟨j+1,by omega,(by(trivial))⟩,by simp only;omega,Imp.auto hX (by simp only [go_sem,simprocAttr,e1,e2,e3])⟩
   ·have e2:bY R i (j+1)=bY R i j:=sK hm
    unfold mE at hm
    repeat'(first|refine wkQ ?_|refine Tw.f ?_ ?_|(refine fun(hc:(_:Bool)=_)=>?_;try simp only [hcS]at hc))
    all_goals try exact om_
    all_goals try(exfalso;omega)
    refine⟨⟨j+1,by omega,(by(trivial))⟩,by simp only;omega,Imp.auto hX (by simp only [go_sem,simprocAttr,e1,e2])⟩
  ·obtain rfl:j=R.length:=by omega
   have e1:=aHG (R:=R) (n:=R.length) (i:=i)
   have e2:poA R R.length (i+1)=poA R R.length i++bY R i R.length:=rfl
   repeat'(first|refine wkQ ?_|refine Tw.f ?_ ?_|(refine fun(hc:(_:Bool)=_)=>?_;try simp only [hcS]at hc))
   all_goals try exact om_
   all_goals try(exfalso;omega)
   refine⟨⟨i+1,by omega,(by(trivial))⟩,by simp only;omega,Imp.auto hX (by simp only [go_sem,simprocAttr,e1,e2])⟩
 ·obtain rfl:i=R.length:=by omega
  repeat'(first|refine wkQ ?_|refine Tw.f ?_ ?_|(refine fun(hc:(_:Bool)=_)=>?_;try simp only [hcS]at hc))
  all_goals try exact om_
  all_goals try(exfalso;omega)
  refine aG (G:={i:Nat//i≤R.length∧(True)}) (fun⟨i,_⟩=>[(9,iv i),(3,iv R.length),(4, .sl 1),(5, .ptr 6 0),(2, .ptr 0 0)]) [] (fun⟨i,_⟩=>[(6,⟨1, .box [iv R.length, .sl 2, .sl 3, .sl 4, .sl 5]⟩),(1,⟨1, .arr (aC (uC R R.length R.length))⟩),(2,⟨1, .arr (ints (poG (poA R R.length R.length) 0))⟩),(3,⟨1, .arr (ints (poG (poA R R.length R.length) 1))⟩),(4,⟨1, .arr (ints (poI R R.length i))⟩),(5,⟨1, .arr (aC [])⟩)]) [1,2,3,4,5,6] (fun zz=>R.length-zz.1) ⟨0,Nat.zero_le _,by first|trivial|simp⟩ ?_ ?_
  ·exact Imp.au hX
  rintro⟨i,hii,hwi⟩
  simp only [go_sem,simprocAttr]
  have l2:=aML (R:=R) (n:=R.length) (i:=i)
  rcases Nat.lt_or_ge i R.length with hi2|hi2
  ·have l3:=zF (R:=R) (n:=R.length) (i:=i) (j:=R.length)
   have e1:=aGv (R:=R) (n:=R.length) hi2
   have e2:=aGu (R:=R) (n:=R.length) (i:=i) hi2
   have e3:=aKa (R:=R) (n:=R.length) (i:=i)
   repeat'(first|(rw [e1])|(rw [e2])|(with_reducible first|refine St.f ?_|refine V_c ?_|refine eDn ?_|refine And.intro ?_ ?_|refine aI ?_ ?_|refine aN ?_)|((refine aQ ?_);intro K hK)|((with_reducible refine So.f ?_);intro K hK;simp(contextual:=true)only [go_sem,simprocAttr])|((with_reducible refine hK _ ?_);clear hK K)|(refine fun(hc:(_:Bool)=_)=>?_;try simp only [hcS]at hc))
   all_goals try exact om_
   all_goals try(exfalso;omega)
   refine⟨⟨i+1,by omega,(by(trivial))⟩,by simp only;omega,Imp.auto hX (by simp only [go_sem,simprocAttr,e3])⟩
  ·obtain rfl:i=R.length:=by omega
   have g0:=xD (L:=poA R R.length R.length) (k:=0)
   have g1:=xD (L:=poA R R.length R.length) (k:=1)
   obtain⟨A,hA⟩:∃A,poA R R.length R.length=A:=⟨_,rfl⟩
   repeat'(first|refine wkQ ?_|refine Tw.f ?_ ?_|(refine fun(hc:(_:Bool)=_)=>?_;try simp only [hcS]at hc))
   all_goals try exact om_
   all_goals try(exfalso;omega)
   refine aG (G:={f:Nat//f≤(poA R R.length R.length).length∧(True)}) (fun⟨f,_⟩=>[(10,iv f),(3,iv R.length),(4, .sl 1),(5, .ptr 6 0),(2, .ptr 0 0)]) [] (fun⟨f,_⟩=>[(6,⟨1, .box [iv R.length, .sl 2, .sl 3, .sl 4, .sl 5]⟩),(1,⟨1, .arr (aC (uC R R.length R.length))⟩),(2,⟨1, .arr (ints (poG (poA R R.length R.length) 0))⟩),(3,⟨1, .arr (ints (poG (poA R R.length R.length) 1))⟩),(4,⟨1, .arr (ints (poI R R.length R.length))⟩),(5,⟨1, .arr (aC (poW R R.length f))⟩)]) [1,2,3,4,5,6] (fun zz=>(poA R R.length R.length).length-zz.1) ⟨0,Nat.zero_le _,by first|trivial|simp⟩ ?_ ?_
   ·exact Imp.au hX
   rintro⟨f,hif,hwf⟩
   simp only [go_sem,simprocAttr]
   have l4:=aMM (R:=R) (n:=R.length) (f:=f)
   rcases Nat.lt_or_ge f (poA R R.length R.length).length with hf1|hf1
   ·repeat'(first|refine wkQ ?_|refine Tw.f ?_ ?_|(refine fun(hc:(_:Bool)=_)=>?_;try simp only [hcS]at hc))
    all_goals try exact om_
    all_goals try(exfalso;omega)
    refine aG (G:={g:Nat//g≤(poA R R.length R.length).length∧(True)}) (fun⟨g,_⟩=>[(12,iv g),(3,iv R.length),(4, .sl 1),(5, .ptr 6 0),(2, .ptr 0 0),(10,iv f),(11, .sl 7)]) [] (fun⟨g,_⟩=>[(6,⟨1, .box [iv R.length, .sl 2, .sl 3, .sl 4, .sl 5]⟩),(1,⟨1, .arr (aC (uC R R.length R.length))⟩),(2,⟨1, .arr (ints (poG (poA R R.length R.length) 0))⟩),(3,⟨1, .arr (ints (poG (poA R R.length R.length) 1))⟩),(4,⟨1, .arr (ints (poI R R.length R.length))⟩),(5,⟨1, .arr (aC (poW R R.length f))⟩),(7,⟨1, .arr (ints (pW (poA R R.length R.length) poP f g))⟩)]) [1,2,3,4,5,6,7] (fun zz=>(poA R R.length R.length).length-zz.1) ⟨0,Nat.zero_le _,by first|trivial|simp⟩ ?_ ?_
    ·exact Imp.au hX
    rintro⟨g,hig,hwg⟩
    simp only [go_sem,simprocAttr]
    have l5:=aLc (A:=poA R R.length R.length) (cp:=poP) (f:=f) (g:=g)
    rcases Nat.lt_or_ge g (poA R R.length R.length).length with hg1|hg1
    ·obtain⟨a,b,ha,hb,hab,ef⟩:=aNQ hf1
     obtain⟨a',b',ha',hb',hab',eg⟩:=aNQ hg1
     have f0:(poG (poA R R.length R.length) 0).getD f 0=(a:Int):=by rw [aCs hf1,ef];rfl
     have f1:(poG (poA R R.length R.length) 1).getD f 0=(b:Int):=by rw [aCs hf1,ef];rfl
     have q0:(poG (poA R R.length R.length) 0).getD g 0=(a':Int):=by rw [aCs hg1,eg];rfl
     have q1:(poG (poA R R.length R.length) 1).getD g 0=(b':Int):=by rw [aCs hg1,eg];rfl
     have es:pW (poA R R.length R.length) poP f (g+1)=pW (poA R R.length R.length) poP f g++[if(b:Int)=(a':Int)then fnd (poA R R.length R.length) (poP [(a:Int),(b:Int)] [(a':Int),(b':Int)])else-1]:=by
      have:=aId (A:=poA R R.length R.length) (cp:=poP) (f:=f) (g:=g)
      rw [ef,eg]at this
      exact this
     have l3:=zF (R:=R) (n:=R.length) (i:=a) (j:=R.length)
     by_cases hm:b=a'
     ·subst hm
      have en:fnd (poA R R.length R.length) (poP [(a:Int),(b:Int)] [(b:Int),(b':Int)])=poN R R.length a b':=aGt ha hb' (h.tr a b b' ha hb hb' hab hab')
      rw [if_pos rfl,en]at es
      have e1:=aGv (R:=R) (n:=R.length) ha
      have e2:=aGu (R:=R) (n:=R.length) (i:=a) hb'
      repeat'(first|(rw [f0])|(rw [f1])|(rw [q0])|(rw [q1])|(rw [e1])|(rw [e2])|(with_reducible first|refine St.f ?_|refine V_c ?_|refine eDn ?_|refine And.intro ?_ ?_|refine aI ?_ ?_|refine aN ?_)|((refine aQ ?_);intro K hK)|((with_reducible refine So.f ?_);intro K hK;simp(contextual:=true)only [go_sem,simprocAttr])|((with_reducible refine hK _ ?_);clear hK K)|(refine fun(hc:(_:Bool)=_)=>?_;try simp only [hcS]at hc))
      all_goals try exact om_
      all_goals try(exfalso;omega)
      refine⟨⟨g+1,by omega,(by(trivial))⟩,by simp only;omega,Imp.auto hX (by simp only [go_sem,simprocAttr,es])⟩
     ·have hm2:¬((b:Int)=(a':Int)):=by omega
      rw [if_neg hm2]at es
      repeat'(first|(rw [f0])|(rw [f1])|(rw [q0])|(rw [q1])|(with_reducible first|refine St.f ?_|refine V_c ?_|refine eDn ?_|refine And.intro ?_ ?_|refine aI ?_ ?_|refine aN ?_)|((refine aQ ?_);intro K hK)|((with_reducible refine So.f ?_);intro K hK;simp(contextual:=true)only [go_sem,simprocAttr])|((with_reducible refine hK _ ?_);clear hK K)|(refine fun(hc:(_:Bool)=_)=>?_;try simp only [hcS]at hc))
      all_goals try exact om_
      all_goals try(exfalso;omega)
      refine⟨⟨g+1,by omega,(by(trivial))⟩,by simp only;omega,Imp.auto hX (by simp only [go_sem,simprocAttr,es])⟩
    ·obtain rfl:g=(poA R R.length R.length).length:=by omega
     have es:=aKd (R:=R) (n:=R.length) (f:=f)
     repeat'(first|refine wkQ ?_|refine Tw.f ?_ ?_|(refine fun(hc:(_:Bool)=_)=>?_;try simp only [hcS]at hc))
     all_goals try exact om_
     all_goals try(exfalso;omega)
     refine⟨⟨f+1,by omega,(by(trivial))⟩,by simp only;omega,Imp.auto hX (by simp only [go_sem,simprocAttr,es])⟩
   ·obtain rfl:f=(poA R R.length R.length).length:=by omega
    repeat'(first|refine wkQ ?_|refine Tw.f ?_ ?_|(refine fun(hc:(_:Bool)=_)=>?_;try simp only [hcS]at hc))
    all_goals try exact om_
    all_goals try(exfalso;omega)
    (first|refine aB ?_|refine aA ?_);simp only [go_sem,simprocAttr,Tryz.f235]
end Go.Eng
end
section
namespace Go.Eng
open Go Go.Proofs Go.Cats
attribute [local go_sem] List.set_cons_zero List.set_cons_succ
theorem lP:aF Tryz.prog 261:=⟨_,Tryz.func261,rfl,rfl⟩
theorem nH {s:RnS} (hs:RnOk s):Spec Tryz.prog 261 [.ptr 0 0] [(0,bB s)] (.sl 1) [(0,bB (aL s 8)),(1,⟨1, .arr (aC (moT (aK s 8).toNat))⟩)]:=by
 refine aD (E:=TE) 1 Tryz.func261 rfl (by simp [Tryz.f261]) fun X hn hX=>?_
 have hb:=aV (n:=8) hs (by decide)
 have h1:=aP (n:=8) hs
 obtain⟨v,hv⟩:∃v,aK s 8=v:=⟨_,rfl⟩
 rw [hv]at hb h1⊢
 have hc8:v=0∨v=1∨v=2∨v=3∨v=4∨v=5∨v=6∨v=7:=by omega
 clear hv
 rcases hc8 with rfl|rfl|rfl|rfl|rfl|rfl|rfl|rfl
 ·repeat'(first|refine wkQ ?_|refine Tw.f ?_ ?_|(refine kcQ aH ?_;refine kwQ (h1) [(0,0)] [] ?_)|(refine fun(hc:(_:Bool)=_)=>?_;try simp only [hcS]at hc))
  all_goals try exact om_
  (first|refine aB ?_|refine aA ?_);simp only [go_sem,simprocAttr,Tryz.f261]
  rfl
 ·repeat'(first|refine wkQ ?_|refine Tw.f ?_ ?_|(refine kcQ aH ?_;refine kwQ (h1) [(0,0)] [] ?_)|(refine fun(hc:(_:Bool)=_)=>?_;try simp only [hcS]at hc))
  all_goals try exact om_
  (first|refine aB ?_|refine aA ?_);simp only [go_sem,simprocAttr,Tryz.f261]
  rfl
 ·repeat'(first|refine wkQ ?_|refine Tw.f ?_ ?_|(refine kcQ aH ?_;refine kwQ (h1) [(0,0)] [] ?_)|(refine fun(hc:(_:Bool)=_)=>?_;try simp only [hcS]at hc))
  all_goals try exact om_
  (first|refine aB ?_|refine aA ?_);simp only [go_sem,simprocAttr,Tryz.f261]
  rfl
 ·repeat'(first|refine wkQ ?_|refine Tw.f ?_ ?_|(refine kcQ aH ?_;refine kwQ (h1) [(0,0)] [] ?_)|(refine fun(hc:(_:Bool)=_)=>?_;try simp only [hcS]at hc))
  all_goals try exact om_
  (first|refine aB ?_|refine aA ?_);simp only [go_sem,simprocAttr,Tryz.f261]
  rfl
 ·repeat'(first|refine wkQ ?_|refine Tw.f ?_ ?_|(refine kcQ aH ?_;refine kwQ (h1) [(0,0)] [] ?_)|(refine fun(hc:(_:Bool)=_)=>?_;try simp only [hcS]at hc))
  all_goals try exact om_
  (first|refine aB ?_|refine aA ?_);simp only [go_sem,simprocAttr,Tryz.f261]
  rfl
 ·repeat'(first|refine wkQ ?_|refine Tw.f ?_ ?_|(refine kcQ aH ?_;refine kwQ (h1) [(0,0)] [] ?_)|(refine fun(hc:(_:Bool)=_)=>?_;try simp only [hcS]at hc))
  all_goals try exact om_
  (first|refine aB ?_|refine aA ?_);simp only [go_sem,simprocAttr,Tryz.f261]
  rfl
 ·repeat'(first|refine wkQ ?_|refine Tw.f ?_ ?_|(refine kcQ aH ?_;refine kwQ (h1) [(0,0)] [] ?_)|(refine fun(hc:(_:Bool)=_)=>?_;try simp only [hcS]at hc))
  all_goals try exact om_
  (first|refine aB ?_|refine aA ?_);simp only [go_sem,simprocAttr,Tryz.f261]
  rfl
 ·repeat'(first|refine wkQ ?_|refine Tw.f ?_ ?_|(refine kcQ aH ?_;refine kwQ (h1) [(0,0)] [] ?_)|(refine fun(hc:(_:Bool)=_)=>?_;try simp only [hcS]at hc))
  all_goals try exact om_
  (first|refine aB ?_|refine aA ?_);simp only [go_sem,simprocAttr,Tryz.f261]
  rfl
theorem lQ:aF Tryz.prog 260:=⟨_,Tryz.func260,rfl,rfl⟩
theorem nI {t:List (List Int)} (hl:t.length≤8) (hr:∀i,i<t.length→(t.getD i []).length≤8):Spec Tryz.prog 260 [.bor [] (aC t)] [] (.agg [iv (moC t).ob, .sl 0, .sl 1, .sl 2, .sl 3]) [(0,⟨1, .arr (ints (moC t).fr)⟩),(1,⟨1, .arr (ints (moC t).to)⟩),(2,⟨1, .arr (ints (moC t).id)⟩),(3,⟨1, .arr (aC (moC t).co)⟩)]:=by
 have e:moC t=⟨1,List.replicate t.length 0,List.replicate t.length 0,[0],t⟩:=rfl
 rw [e]
 refine aD (E:=TE) 0 Tryz.func260 rfl (by simp [Tryz.f260]) fun X hn hX=>?_
 have hr2:∀i,i<t.length→(t.getD i []).length≤1048576:=fun i hi=>by have:=hr i hi;omega
 repeat'(first|refine wkQ ?_|refine Tw.f ?_ ?_|(refine kcQ oD ?_;refine krQ (rJ (l:=t) ?_ ?_) ?_)|(refine fun(hc:(_:Bool)=_)=>?_;try simp only [hcS]at hc))
 all_goals try exact om_
 all_goals try exact hr2
 (first|refine aB ?_|refine aA ?_);simp only [go_sem,simprocAttr,Tryz.f260]
theorem aB5:aF Tryz.prog 262:=⟨_,Tryz.func262,rfl,rfl⟩
theorem aEb:Spec Tryz.prog 262 [] [] (.agg [iv splC.ob, .sl 0, .sl 1, .sl 2, .sl 3]) [(0,⟨1, .arr (ints splC.fr)⟩),(1,⟨1, .arr (ints splC.to)⟩),(2,⟨1, .arr (ints splC.id)⟩),(3,⟨1, .arr (aC splC.co)⟩)]:=by
 refine aD (E:=TE) 0 Tryz.func262 rfl (by simp [Tryz.f262]) fun X hn hX=>?_
 repeat'(first|refine wkQ ?_|refine Tw.f ?_ ?_|(refine fun(hc:(_:Bool)=_)=>?_;try simp only [hcS]at hc))
 all_goals try exact om_
 (first|refine aB ?_|refine aA ?_);simp only [go_sem,simprocAttr,Tryz.f262]
 and_intros<;>rfl
def opT (c:Cat) (k:Nat):List (List Int):=(List.range k).map fun f=>opR c f c.fr.length
theorem aMF {c:Cat} {k:Nat}:(opT c k).length=k:=by unfold opT;rw [List.length_map,List.length_range]
theorem aME {c:Cat} {f k:Nat}:(opR c f k).length=k:=by unfold opR;rw [List.length_map,List.length_range]
theorem aJZ {c:Cat} {k:Nat}:opT c (k+1)=opT c k++[opR c k c.fr.length]:=by unfold opT;rw [List.range_succ,List.map_append];rfl
theorem aJX {c:Cat} {f k:Nat}:opR c f (k+1)=opR c f k++[(c.co.getD k []).getD f 0]:=by unfold opR;rw [List.range_succ,List.map_append];simp [Cat.C]
theorem aJ0 {c:Cat}:opT c 0=[]:=rfl
theorem aJY {c:Cat} {f:Nat}:opR c f 0=[]:=rfl
attribute [local go_sem] aJ0 aJY
theorem aG0:aF Tryz.prog 251:=⟨_,Tryz.func251,rfl,rfl⟩
theorem aK3 {c:Cat} (sc:Shape c):Spec Tryz.prog 251 [jX c] [] (.agg [iv (opC c).ob, .sl 0, .sl 1, .sl 2, .sl 3]) [(0,⟨1, .arr (ints (opC c).fr)⟩),(1,⟨1, .arr (ints (opC c).to)⟩),(2,⟨1, .arr (ints (opC c).id)⟩),(3,⟨1, .arr (aC (opC c).co)⟩)]:=by
 have e:opC c=⟨c.ob,c.to,c.fr,c.id,opT c c.fr.length⟩:=rfl
 rw [e]
 have c8:=sc.ob8
 have m40:=sc.m40
 have ctl:=sc.tol
 have cil:=sc.idl
 have ccl:=sc.col
 refine aD (E:=TE) 0 Tryz.func251 rfl (by simp [Tryz.f251]) fun X hn hX=>?_
 repeat'(first|refine wkQ ?_|refine Tw.f ?_ ?_|(refine kcQ eU ?_;refine krQ (gA (l:=c.to) ?_) ?_)|(refine kcQ eU ?_;refine krQ (gA (l:=c.fr) ?_) ?_)|(refine kcQ eU ?_;refine krQ (gA (l:=c.id) ?_) ?_)|(refine fun(hc:(_:Bool)=_)=>?_;try simp only [hcS]at hc))
 all_goals try exact om_
 refine aG (G:={f:Nat//f≤c.fr.length∧(True)}) (fun⟨f,_⟩=>[(4,iv f),(1, .ptr 0 0),(2, .ptr 1 0),(3, .ptr 6 0)]) [] (fun⟨f,_⟩=>[(6,⟨1, .box [iv c.ob, .sl 2, .sl 3, .sl 4, .sl 5]⟩),(2,⟨1, .arr (ints c.to)⟩),(3,⟨1, .arr (ints c.fr)⟩),(4,⟨1, .arr (ints c.id)⟩),(5,⟨1, .arr (aC (opT c f))⟩)]) [2,3,4,5,6] (fun zz=>c.fr.length-zz.1) ⟨0,Nat.zero_le _,by first|trivial|simp⟩ ?_ ?_
 ·exact Imp.au hX
 rintro⟨f,hif,hwf⟩
 simp only [go_sem,simprocAttr]
 have l1:=aMF (c:=c) (k:=f)
 rcases Nat.lt_or_ge f c.fr.length with hf1|hf1
 ·repeat'(first|refine wkQ ?_|refine Tw.f ?_ ?_|(refine fun(hc:(_:Bool)=_)=>?_;try simp only [hcS]at hc))
  all_goals try exact om_
  all_goals try(exfalso;omega)
  refine aG (G:={g:Nat//g≤c.fr.length∧(True)}) (fun⟨g,_⟩=>[(6,iv g),(1, .ptr 0 0),(2, .ptr 1 0),(3, .ptr 6 0),(4,iv f),(5, .sl 7)]) [] (fun⟨g,_⟩=>[(6,⟨1, .box [iv c.ob, .sl 2, .sl 3, .sl 4, .sl 5]⟩),(2,⟨1, .arr (ints c.to)⟩),(3,⟨1, .arr (ints c.fr)⟩),(4,⟨1, .arr (ints c.id)⟩),(5,⟨1, .arr (aC (opT c f))⟩),(7,⟨1, .arr (ints (opR c f g))⟩)]) [2,3,4,5,6,7] (fun zz=>c.fr.length-zz.1) ⟨0,Nat.zero_le _,by first|trivial|simp⟩ ?_ ?_
  ·exact Imp.au hX
  rintro⟨g,hig,hwg⟩
  simp only [go_sem,simprocAttr]
  have l2:=aME (c:=c) (f:=f) (k:=g)
  rcases Nat.lt_or_ge g c.fr.length with hg1|hg1
  ·have lr:=(sc.coe g hg1).1
   have e1:=aJX (c:=c) (f:=f) (k:=g)
   repeat'(first|refine wkQ ?_|refine Tw.f ?_ ?_|(refine fun(hc:(_:Bool)=_)=>?_;try simp only [hcS]at hc))
   all_goals try exact om_
   all_goals try(exfalso;omega)
   refine⟨⟨g+1,by omega,(by(trivial))⟩,by simp only;omega,Imp.auto hX (by simp only [go_sem,simprocAttr,e1])⟩
  ·obtain rfl:g=c.fr.length:=by omega
   have e1:=aJZ (c:=c) (k:=f)
   repeat'(first|refine wkQ ?_|refine Tw.f ?_ ?_|(refine fun(hc:(_:Bool)=_)=>?_;try simp only [hcS]at hc))
   all_goals try exact om_
   all_goals try(exfalso;omega)
   refine⟨⟨f+1,by omega,(by(trivial))⟩,by simp only;omega,Imp.auto hX (by simp only [go_sem,simprocAttr,e1])⟩
 ·obtain rfl:f=c.fr.length:=by omega
  repeat'(first|refine wkQ ?_|refine Tw.f ?_ ?_|(refine fun(hc:(_:Bool)=_)=>?_;try simp only [hcS]at hc))
  all_goals try exact om_
  all_goals try(exfalso;omega)
  (first|refine aB ?_|refine aA ?_);simp only [go_sem,simprocAttr,Tryz.f251]
end Go.Eng
end
