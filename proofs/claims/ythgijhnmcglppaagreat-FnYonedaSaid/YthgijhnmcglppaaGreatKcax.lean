/- Several texts in one: Z01, Z02. -/
import Derived.Test.YthgijhnmcglppaaGreatKciy
set_option linter.unusedSimpArgs false
set_option linter.unusedVariables false
set_option maxRecDepth 100000
set_option maxHeartbeats 16000000
section
namespace Go.Eng
open Go Go.Proofs Go.Cats
def hz (h:Int):Int:=IntKind.u64.wrap (IntKind.u64.wrap (h*6364136223846793005)+1442695040888963407)
def rx (h:Int):Int:=aGU .u64 ((hz h).fdiv (2^min (33:Int).toNat IntKind.u64.bits)) 16777215
theorem aQo (h:Int):0≤rx h∧rx h<16777216:=aLj _
def vI (s:RnS):Int:=rx s.hash+(if s.at_<s.code.length then s.code.getD s.at_ 0 else 0)
def aK (s:RnS) (n:Int):Int:=if n<1 then 0 else(vI s).tmod n
def aL (s:RnS) (n:Int):RnS:=if n<1 then s else⟨s.code,if s.at_<s.code.length then s.at_+1 else s.at_,hz s.hash⟩
theorem aLn {s:RnS} (h:RnOk s):0≤vI s∧vI s<16777472:=by
 have h1:=aQo s.hash
 unfold vI
 split
 ·rename_i h2
  have:=h.b _ h2
  omega
 ·omega
theorem aX {s:RnS} {n:Int} (h:RnOk s) (hn:1≤n):0≤aK s n∧aK s n<n:=by
 have h1:=(aLn h).1
 unfold aK
 rw [if_neg (by omega)]
 exact⟨Int.tmod_nonneg _ h1,Int.tmod_lt_of_pos _ (by omega)⟩
theorem aLm {s:RnS} {n:Int} (hn:n<1):aK s n=0:=by unfold aK;rw [if_pos hn]
theorem aM {s:RnS} {n:Int} (h:RnOk s):RnOk (aL s n):=by
 unfold aL
 split
 ·exact h
 ·refine⟨h.len,?_,h.b⟩
  have:=h.le
  simp only
  split<;>omega
theorem ty_n:((Tryz.prog.underlying 37).isSome=true∧Tryz.prog.underlying 2=some (.int .i64))∧((Tryz.prog.underlying 5).isSome=true∧Tryz.prog.underlying 37=some (.int .u64))∧((Tryz.prog.underlying 3).isSome=true):=⟨⟨by rw [Tryz.underlying37];rfl,Tryz.underlying2⟩,⟨by rw [Tryz.underlying5];rfl,Tryz.underlying37⟩,by rw [Tryz.underlying3];rfl⟩
theorem aKq {z:Int} (h0:0≤z) (h1:z<16777216):IntKind.i64.wrap z=z:=by
 unfold IntKind.wrap IntKind.bits IntKind.signed
 simp
 omega
theorem aF:aE Tryz.prog 140:=⟨_,Tryz.func140,rfl,rfl⟩
theorem aP {s:RnS} {n:Int} (hs:RnOk s):Spec Tryz.prog 140 [.ptr 0 0,iv n] [(0,bA s)] (iv (aK s n)) [(0,bA (aL s n))]:=by
 refine aD (E:=TE) 1 Tryz.func140 rfl (by simp [Tryz.f140]) fun X hn hX=>?_
 by_cases h1:n<1
 ·rw [aLm h1,show aL s n=s from by unfold aL;rw [if_pos h1]]
  repeat'(first|(with_reducible first|refine St.f ?_|refine V_c ?_|refine eDn ?_|refine And.intro ?_ ?_|refine aJ ?_ ?_)|((refine aT ?_);intro K hK)|((with_reducible refine So.f ?_);intro K hK;simp(contextual:=true)only [go_sem,simprocAttr])|((with_reducible refine hK _ ?_);clear hK K)|(refine fun(hc:(_:Bool)=_)=>?_;try simp only [hcS]at hc))
  all_goals try exact om_
  all_goals try(exfalso;omega)
  (first|refine aB ?_|refine aA ?_);simp only [go_sem,simprocAttr,Tryz.f140]
 ·have hx:=aQo s.hash
  have hw:=aKq hx.1 hx.2
  by_cases h2:s.at_<s.code.length
  ·have hb:=hs.b _ h2
   have hw2:=aKq (z:=s.code.getD s.at_ 0) hb.1 (by omega)
   have eX:vI s=rx s.hash+s.code.getD s.at_ 0:=by unfold vI;rw [if_pos h2]
   have eF:aK s n=(rx s.hash+s.code.getD s.at_ 0).tmod n:=by unfold aK;rw [if_neg h1,eX]
   have eS:aL s n=⟨s.code,s.at_+1,hz s.hash⟩:=by unfold aL;rw [if_neg h1,if_pos h2]
   have hl:=hs.len
   rw [eF,eS]
   repeat'(first|(refine(id ?_:V _ _ (Code.region 4 _ _) _ _);refine jN 4 (by rw [hn];rfl) ?_;intro K hK)|(refine fQ ?_;refine aDg (k:= .u64) (a:=hz s.hash) (b:=33) (by first|(simp only [go_sem,simprocAttr];done)|(simp only [go_sem,simprocAttr];rfl)) (by first|(simp only [go_sem,simprocAttr];done)|(simp only [go_sem,simprocAttr];rfl)) (by decide) ?_;simp only [go_sem,simprocAttr])|(refine fQ ?_;refine aDe (k:= .u64) (a:=(hz s.hash).fdiv (2^min (33:Int).toNat IntKind.u64.bits)) (b:=16777215) (by first|(simp only [go_sem,simprocAttr];done)|(simp only [go_sem,simprocAttr];rfl)) (by first|(simp only [go_sem,simprocAttr];done)|(simp only [go_sem,simprocAttr];rfl)) ?_;simp only [go_sem,simprocAttr])|(refine fQ ?_;refine oH (x:= .tmp 22) (k:= .i64) (q:= .u64) (n:=rx s.hash) ty_n.1.1 ty_n.1.2 (by first|(simp only [go_sem,simprocAttr];done)|(simp only [go_sem,simprocAttr];rfl)) ?_;rw [hw];simp only [go_sem,simprocAttr])|((with_reducible refine rY ?_);simp only [go_sem,simprocAttr])|(with_reducible refine rX ?_)|(with_reducible first|refine St.f ?_|refine V_c ?_|refine eDn ?_|refine And.intro ?_ ?_|refine aJ ?_ ?_)|((refine aT ?_);intro K hK)|((with_reducible refine So.f ?_);intro K hK;simp(contextual:=true)only [go_sem,simprocAttr])|((with_reducible refine hK _ ?_);clear hK K)|(refine oH (x:= .tmp 44) (k:= .i64) (q:= .u8) (n:=s.code.getD s.at_ 0) ty_n.2.1.1 ty_n.1.2 (by simp only [go_sem,simprocAttr]) ?_;rw [hw2];simp only [go_sem,simprocAttr])|(refine fun(hc:(_:Bool)=_)=>?_;try simp only [hcS]at hc))
   all_goals try exact om_
   all_goals try(exfalso;omega)
   (first|refine aB ?_|refine aA ?_);simp only [go_sem,simprocAttr,Tryz.f140]
   rfl
  ·have eX:vI s=rx s.hash:=by unfold vI;rw [if_neg h2];omega
   have eF:aK s n=(rx s.hash).tmod n:=by unfold aK;rw [if_neg h1,eX]
   have eS:aL s n=⟨s.code,s.at_,hz s.hash⟩:=by unfold aL;rw [if_neg h1,if_neg h2]
   rw [eF,eS]
   repeat'(first|(refine(id ?_:V _ _ (Code.region 4 _ _) _ _);refine jN 4 (by rw [hn];rfl) ?_;intro K hK)|(refine fQ ?_;refine aDg (k:= .u64) (a:=hz s.hash) (b:=33) (by first|(simp only [go_sem,simprocAttr];done)|(simp only [go_sem,simprocAttr];rfl)) (by first|(simp only [go_sem,simprocAttr];done)|(simp only [go_sem,simprocAttr];rfl)) (by decide) ?_;simp only [go_sem,simprocAttr])|(refine fQ ?_;refine aDe (k:= .u64) (a:=(hz s.hash).fdiv (2^min (33:Int).toNat IntKind.u64.bits)) (b:=16777215) (by first|(simp only [go_sem,simprocAttr];done)|(simp only [go_sem,simprocAttr];rfl)) (by first|(simp only [go_sem,simprocAttr];done)|(simp only [go_sem,simprocAttr];rfl)) ?_;simp only [go_sem,simprocAttr])|(refine fQ ?_;refine oH (x:= .tmp 22) (k:= .i64) (q:= .u64) (n:=rx s.hash) ty_n.1.1 ty_n.1.2 (by first|(simp only [go_sem,simprocAttr];done)|(simp only [go_sem,simprocAttr];rfl)) ?_;rw [hw];simp only [go_sem,simprocAttr])|((with_reducible refine rY ?_);simp only [go_sem,simprocAttr])|(with_reducible refine rX ?_)|(with_reducible first|refine St.f ?_|refine V_c ?_|refine eDn ?_|refine And.intro ?_ ?_|refine aJ ?_ ?_)|((refine aT ?_);intro K hK)|((with_reducible refine So.f ?_);intro K hK;simp(contextual:=true)only [go_sem,simprocAttr])|((with_reducible refine hK _ ?_);clear hK K)|(refine fun(hc:(_:Bool)=_)=>?_;try simp only [hcS]at hc))
   all_goals try exact om_
   all_goals try(exfalso;omega)
   (first|refine aB ?_|refine aA ?_);simp only [go_sem,simprocAttr,Tryz.f140]
   rfl
def hF (l:List Int):Nat→Int
 |0=>IntKind.u64.wrap (7019+IntKind.u64.wrap (l.length:Int))
 |i+1=>IntKind.u64.wrap (IntKind.u64.wrap (IntKind.u64.wrap (hF l i*1099511628211)+IntKind.u64.wrap (l.getD i 0))+7)
def from_ (l:List Int):RnS:=⟨l,0,hF l l.length⟩
theorem aK4 {l:List Int} (hl:l.length≤4096) (hb:∀i,i<l.length→0≤l.getD i 0∧l.getD i 0<256):RnOk (from_ l):=⟨hl,Nat.zero_le _,hb⟩
theorem aLa (l:List Int):hF l 0=IntKind.u64.wrap (7019+IntKind.u64.wrap (l.length:Int)):=rfl
attribute [local go_sem] aLa
theorem ty_m:((Tryz.prog.underlying 3).isSome=true)∧Tryz.prog.underlying 37=some (.int .u64):=⟨by rw [Tryz.underlying3];rfl,Tryz.underlying37⟩
theorem uS:aE Tryz.prog 77:=⟨_,Tryz.func77,rfl,rfl⟩
theorem aE6 {l:List Int} (hl:l.length≤4096):Spec Tryz.prog 77 [.bor [] (bys l)] [] (.ptr 0 0) [(0,bA (from_ l))]:=by
 refine aD (E:=TE) 0 Tryz.func77 rfl (by simp [Tryz.f77]) fun X hn hX=>?_
 repeat'(first|(with_reducible first|refine St.f ?_|refine V_c ?_|refine eDn ?_|refine And.intro ?_ ?_|refine aJ ?_ ?_|refine aQ ?_)|((refine aT ?_);intro K hK)|((with_reducible refine So.f ?_);intro K hK;simp(contextual:=true)only [go_sem,simprocAttr])|((with_reducible refine hK _ ?_);clear hK K)|(refine oH (x:= .tmp 7) (k:= .u64) (q:= .i64) (n:=(l.length:Int)) ty_m.1 ty_m.2 (by simp only [go_sem,simprocAttr]) ?_;simp only [go_sem,simprocAttr])|(refine fun(hc:(_:Bool)=_)=>?_;try simp only [hcS]at hc))
 all_goals try exact om_
 refine aH (G:={i:Nat//i≤l.length∧(True)}) (fun⟨i,_⟩=>[(4,iv i),(3, .ptr 0 0)]) [0,2] (fun⟨i,_⟩=>[(0,⟨1, .box [.bor [] (bys l),iv 0, .v (.int .u64 (hF l i))]⟩)]) [0] (fun zz=>l.length-zz.1) ⟨0,Nat.zero_le _,by first|trivial|simp⟩ ?_ ?_
 ·exact Imp.au hX
 rintro⟨i,hii,hwi⟩
 simp only [go_sem,simprocAttr]
 rcases Nat.lt_or_ge i l.length with hlt|hge
 ·have e1:hF l (i+1)=IntKind.u64.wrap (IntKind.u64.wrap (IntKind.u64.wrap (hF l i*1099511628211)+IntKind.u64.wrap (l.getD i 0))+7):=rfl
  repeat'(first|(with_reducible first|refine St.f ?_|refine V_c ?_|refine eDn ?_|refine And.intro ?_ ?_|refine aJ ?_ ?_|refine aQ ?_)|((refine aT ?_);intro K hK)|((with_reducible refine So.f ?_);intro K hK;simp(contextual:=true)only [go_sem,simprocAttr])|((with_reducible refine hK _ ?_);clear hK K)|(refine oH (x:= .tmp 31) (k:= .u64) (q:= .u8) (n:=l.getD i 0) ty_n.2.1.1 ty_n.2.1.2 (by simp only [go_sem,simprocAttr]) ?_;simp only [go_sem,simprocAttr])|(refine fun(hc:(_:Bool)=_)=>?_;try simp only [hcS]at hc))
  all_goals try exact om_
  all_goals try(exfalso;omega)
  refine⟨⟨i+1,by omega,(by trivial)⟩,by simp only;omega,Imp.auto hX (by simp only [go_sem,simprocAttr,e1])⟩
 ·obtain rfl:i=l.length:=by omega
  repeat'(first|(with_reducible first|refine St.f ?_|refine V_c ?_|refine eDn ?_|refine And.intro ?_ ?_|refine aJ ?_ ?_|refine aQ ?_)|((refine aT ?_);intro K hK)|((with_reducible refine So.f ?_);intro K hK;simp(contextual:=true)only [go_sem,simprocAttr])|((with_reducible refine hK _ ?_);clear hK K)|(refine fun(hc:(_:Bool)=_)=>?_;try simp only [hcS]at hc))
  all_goals try exact om_
  all_goals try(exfalso;omega)
  (first|refine aB ?_|refine aA ?_);simp only [go_sem,simprocAttr,Tryz.f77]
  rfl
theorem oD:aE Tryz.prog 202:=⟨_,Tryz.func202,rfl,rfl⟩
theorem rD {s:RnS} {l:List Int} (hs:RnOk s) (h1:1≤l.length) (hl:l.length≤1048576):Spec Tryz.prog 202 [.ptr 0 0, .sl 1] [(0,bA s),(1,⟨1, .arr (ints l)⟩)] (iv (l.getD (aK s l.length).toNat 0)) [(0,bA (aL s l.length)),(1,⟨1, .arr (ints l)⟩)]:=by
 refine aD (E:=TE) 2 Tryz.func202 rfl (by simp [Tryz.f202]) fun X hn hX=>?_
 have hb:=aX (n:=(l.length:Int)) hs (by omega)
 have hno:=aP (n:=(l.length:Int)) hs
 repeat'(first|refine wkQ ?_|refine Tw.f ?_ ?_|(refine kcQ aF ?_;refine kwQ (hno) [(0,0)] [] ?_)|(refine fun(hc:(_:Bool)=_)=>?_;try simp only [hcS]at hc))
 all_goals try exact om_
 all_goals try(exfalso;omega)
 (first|refine aB ?_|refine aA ?_);simp only [go_sem,simprocAttr,Tryz.f202]
def aEN (s:RnS) (n:Int):Int:=if aK s 40=0 then [-1,n,9223372036854775807, -9223372036854775808].getD (aK (aL s 40) 4).toNat 0 else aK (aL s 40) n
def aB6 (s:RnS) (n:Int):RnS:=if aK s 40=0 then aL (aL s 40) 4 else aL (aL s 40) n
theorem aFR {s:RnS} {n:Int} (h:RnOk s):RnOk (aB6 s n):=by
 unfold aB6
 split<;>exact aM (aM h)
theorem lQ:aE Tryz.prog 106:=⟨_,Tryz.func106,rfl,rfl⟩
theorem tA {s:RnS} {n:Int} (hs:RnOk s):Spec Tryz.prog 106 [.ptr 0 0,iv n] [(0,bA s)] (iv (aEN s n)) [(0,bA (aB6 s n))]:=by
 refine aD (E:=TE) 0 Tryz.func106 rfl (by simp [Tryz.f106]) fun X hn hX=>?_
 have h1:=aP (n:=40) hs
 have hs2:=aM (n:=40) hs
 have hb:=aX (n:=40) hs (by decide)
 by_cases h0:aK s 40=0
 ·have e1:aEN s n=[-1,n,9223372036854775807, -9223372036854775808].getD (aK (aL s 40) 4).toNat 0:=by unfold aEN;rw [if_pos h0]
  have e2:aB6 s n=aL (aL s 40) 4:=by unfold aB6;rw [if_pos h0]
  have h2:Spec Tryz.prog 202 [.ptr 0 0, .sl 1] [(0,bA (aL s 40)),(1,⟨1, .arr (ints [-1,n,9223372036854775807, -9223372036854775808])⟩)] (iv ([-1,n,9223372036854775807, -9223372036854775808].getD (aK (aL s 40) 4).toNat 0)) [(0,bA (aL (aL s 40) 4)),(1,⟨1, .arr (ints [-1,n,9223372036854775807, -9223372036854775808])⟩)]:=rD (l:=[-1,n,9223372036854775807, -9223372036854775808]) hs2 (by simp) (by simp)
  rw [e1,e2]
  rw [h0]at h1
  repeat'(first|refine wkQ ?_|refine Tw.f ?_ ?_|(refine kcQ aF ?_;refine kwQ (h1) [(0,0)] [] ?_)|(refine kcQ oD ?_;refine kwQ (h2) [(0,0),(1,1)] [] ?_)|(refine fun(hc:(_:Bool)=_)=>?_;try simp only [hcS]at hc))
  all_goals try exact om_
  all_goals try(exfalso;omega)
  (first|refine aB ?_|refine aA ?_);simp only [go_sem,simprocAttr,Tryz.f106]
 ·have e1:aEN s n=aK (aL s 40) n:=by unfold aEN;rw [if_neg h0]
  have e2:aB6 s n=aL (aL s 40) n:=by unfold aB6;rw [if_neg h0]
  have h2:=aP (n:=n) hs2
  rw [e1,e2]
  repeat'(first|refine wkQ ?_|refine Tw.f ?_ ?_|((with_reducible refine kaQ [.ptr 0 0,iv 40] ?_);refine kcQ aF ?_;refine kwQ (h1) [(0,0)] [] ?_)|((with_reducible refine kaQ [.ptr 0 0,iv n] ?_);refine kcQ aF ?_;refine kwQ (h2) [(0,0)] [] ?_)|(refine fun(hc:(_:Bool)=_)=>?_;try simp only [hcS]at hc))
  all_goals try exact om_
  all_goals try(exfalso;omega)
  all_goals try contradiction
  (first|refine aB ?_|refine aA ?_);simp only [go_sem,simprocAttr,Tryz.f106]
end Go.Eng
end
section
namespace Go.Eng
open Go Go.Proofs Go.Cats
def rlJ (s:RnS) (i:Nat) (r:List Int):Nat→List Int×RnS
 |0=>(r,s)
 |k+1=>((rlJ s i r k).1.set (i+1+k) (aK (rlJ s i r k).2 2),aL (rlJ s i r k).2 2)
def kV (n i:Nat):List Int:=(List.replicate n 0).set i 1
def rlI (s:RnS) (n:Nat):Nat→List (List Int)×RnS
 |0=>([],s)
 |i+1=>((rlI s n i).1++[(rlJ (rlI s n i).2 i (kV n i) (n-(i+1))).1],(rlJ (rlI s n i).2 i (kV n i) (n-(i+1))).2)
def rlX (s:RnS) (n:Nat):Option Nat×RnS:=
 if 1<n then(if aK s 4=0 then(some (aK (aL s 4) n).toNat,aL (aL s 4) n)else(none,aL s 4))else(none,s)
def aDC (s:RnS) (n:Nat):List (List Int):=wK (aCb n (rlI s n n).1 (rlX (rlI s n n).2 n).1) n n
def aEW (s:RnS) (n:Nat):RnS:=(rlX (rlI s n n).2 n).2
section
variable {s:RnS} {n i:Nat} {r:List Int}
theorem zB:(kV n i).length=n:=by unfold kV;simp
theorem aCe (h:RnOk s):∀k,RnOk (rlJ s i r k).2
 |0=>h
 |k+1=>aM (n:=2) (aCe h k)
theorem xA:∀k,(rlJ s i r k).1.length=r.length
 |0=>rfl
 |k+1=>by rw [rlJ];simp only [List.length_set];exact xA k
theorem zA (h:RnOk s):∀i,RnOk (rlI s n i).2
 |0=>h
 |i+1=>aCe (zA h i) _
theorem nG:∀i,(rlI s n i).1.length=i
 |0=>rfl
 |i+1=>by rw [rlI];simp only [List.length_append,List.length_singleton,nG i]
theorem aNV (h:RnOk s):RnOk (rlX s n).2:=by
 unfold rlX
 split
 ·split
  ·exact aM (n:=n) (aM (n:=4) h)
  ·exact aM (n:=4) h
 ·exact h
theorem aF3 (h:RnOk s):RnOk (aEW s n):=aNV (zA h n)
theorem aJO {l:List Int} {j k:Nat} {v:Int} (hk:k<l.length):(l.set k v).getD j 0=if j=k then v else l.getD j 0:=by
 rw [List.getD_eq_getElem?_getD,List.getElem?_set,List.getD_eq_getElem?_getD]
 by_cases h:k=j
 ·subst h;rw [if_pos rfl,if_pos hk,if_pos rfl];rfl
 ·rw [if_neg h,if_neg (fun e=>h e.symm)]
theorem aLN {j:Nat} (hi:i<n):(kV n i).getD j 0=if j=i then 1 else 0:=by
 unfold kV
 rw [aJO (by simp;exact hi)]
 split
 ·rfl
 ·rw [List.getD_eq_getElem?_getD,List.getElem?_replicate];split<;>rfl
theorem aF6 (h:RnOk s) (hi:i<n):∀k,i+1+k≤n→∀j,(j<i→(rlJ s i (kV n i) k).1.getD j 0=0)∧(j=i→(rlJ s i (kV n i) k).1.getD j 0=1)∧(i<j→(rlJ s i (kV n i) k).1.getD j 0=0∨(rlJ s i (kV n i) k).1.getD j 0=1)
 |0,_,j=>by
  show(j<i→(kV n i).getD j 0=0)∧(j=i→(kV n i).getD j 0=1)∧(i<j→(kV n i).getD j 0=0∨(kV n i).getD j 0=1)
  rw [aLN hi]
  refine⟨fun q=>if_neg (by omega),fun q=>if_pos q,fun q=> .inl (if_neg (by omega))⟩
 |k+1,hk,j=>by
  have ih:=aF6 h hi k (by omega) j
  have hb:=aX (n:=2) (aCe (i:=i) (r:=kV n i) h k) (by decide)
  rw [rlJ]
  simp only
  rw [aJO (by rw [xA,zB];omega)]
  by_cases e:j=i+1+k
  ·rw [if_pos e]
   exact⟨fun q=>by omega,fun q=>by omega,fun _=>by omega⟩
  ·rw [if_neg e];exact ih
theorem sP (h:RnOk s):∀m,m≤n→∀i,i<m→aHD n i ((rlI s n m).1.getD i [])
 |0,_,i,hi=>absurd hi (Nat.not_lt_zero i)
 |m+1,hm,i,hi=>by
  rw [rlI]
  simp only
  rcases Nat.lt_or_ge i m with h1|h1
  ·have ih:=sP h m (by omega) i h1
   rw [List.getD_eq_getElem?_getD,List.getElem?_append_left (by rw [nG];exact h1),←List.getD_eq_getElem?_getD]
   exact ih
  ·obtain rfl:i=m:=by omega
   rw [List.getD_eq_getElem?_getD,List.getElem?_append_right (by rw [nG];omega),nG,Nat.sub_self]
   refine⟨by show(rlJ _ _ _ _).1.length=n;rw [xA,zB],fun j hj=>?_⟩
   exact aF6 (zA h i) (by omega) _ (by omega) j
theorem wX (h:RnOk s) (hn:n<5):PoOK (aDC s n) n:=by
 refine aNT hn ⟨nG n,sP h n (Nat.le_refl n)⟩ fun y hy=>?_
 unfold rlX at hy
 split at hy
 ·split at hy
  ·simp only [Option.some.injEq]at hy
   have hb:=aX (n:=(n:Int)) (aM (n:=4) (zA (n:=n) h n)) (by omega)
   omega
  ·cases hy
 ·cases hy
end
def Dim (n:Nat) (R:List (List Int)):Prop:=R.length=n∧∀j,j<n→(R.getD j []).length=n
section
variable {n k i j:Nat} {R:List (List Int)}
theorem Dim.put (h:Dim n R) (i:Nat) {r:List Int} (hr:i<n→r.length=n):Dim n (R.set i r):=by
 refine⟨by rw [List.length_set];exact h.1,fun j hj=>?_⟩
 rw [List.getD_eq_getElem?_getD,List.getElem?_set]
 by_cases e:i=j
 ·subst e;rw [if_pos rfl,if_pos (by rw [h.1];exact hj)];exact hr hj
 ·rw [if_neg e,←List.getD_eq_getElem?_getD];exact h.2 j hj
theorem aOe (h:Dim n R):Dim n (wS R k i j):=by
 unfold wS
 split
 ·exact h.put i fun hi=>by rw [List.length_set];exact h.2 i hi
 ·exact h
theorem aFq (h:Dim n R):∀j,Dim n (wJ R k i j)
 |0=>h
 |j+1=>aOe (aFq h j)
theorem aFp (h:Dim n R):∀i,Dim n (wI R n k i)
 |0=>h
 |i+1=>aFq (aFp h i) n
theorem aFr (h:Dim n R):∀k,Dim n (wK R n k)
 |0=>h
 |k+1=>aFp (aFr h k) n
theorem aDE (h:Dim n R) (x:Option Nat):Dim n (aCb n R x):=by
 cases x with
 |none=>exact h
 |some y=>exact h.put (n-1) fun hi=>by rw [List.length_set];exact h.2 _ hi
theorem aOf (h1:mE R i k=1) (h2:mE R k j=1):wS R k i j=R.set i ((R.getD i []).set j 1):=if_pos ⟨h1,h2⟩
theorem aSf (h:¬(mE R i k=1∧mE R k j=1)):wS R k i j=R:=if_neg h
end
theorem aJH (s i r):rlJ s i r 0=(r,s):=rfl
theorem aJG (s n):rlI s n 0=([],s):=rfl
attribute [local go_sem] aJH aJG List.set_cons_zero List.set_cons_succ
theorem nP:aE Tryz.prog 320:=⟨_,Tryz.func320,rfl,rfl⟩
theorem oR {s:RnS} {n:Nat} (hs:RnOk s) (hn5:n<5):Spec Tryz.prog 320 [.ptr 0 0,iv n] [(0,bA s)] (.sl 1) [(0,bA (aEW s n)),(1,⟨1, .arr (aC (aDC s n))⟩)]:=by
 refine aD (E:=TE) 1 Tryz.func320 rfl (by simp [Tryz.f320]) fun X hn hX=>?_
 repeat'(first|refine wkQ ?_|refine Tw.f ?_ ?_|(refine fun(hc:(_:Bool)=_)=>?_;try simp only [hcS]at hc))
 all_goals try exact om_
 refine aH (G:={i:Nat//i≤n∧(True)}) (fun⟨i,_⟩=>[(6,iv i),(0, .ptr 0 0),(5, .sl 1)]) [1,4] (fun⟨i,_⟩=>[(0,bA (rlI s n i).2),(1,⟨1, .arr (aC (rlI s n i).1)⟩)]) [0,1] (fun zz=>n-zz.1) ⟨0,Nat.zero_le _,by first|trivial|simp⟩ ?_ ?_
 ·exact Imp.au hX
 rintro⟨i,hii,hwi⟩
 simp only [go_sem,simprocAttr]
 have ok1:=zA (n:=n) hs i
 have l1:=nG (s:=s) (n:=n) i
 rcases Nat.lt_or_ge i n with hlt|hge
 ·repeat'(first|refine wkQ ?_|refine Tw.f ?_ ?_|(refine fun(hc:(_:Bool)=_)=>?_;try simp only [hcS]at hc))
  all_goals try exact om_
  refine aH (G:={k:Nat//i+1+k≤n}) (fun k=>[(8,iv (((i+1+k.1:Nat):Int))),(0, .ptr 0 0),(5, .sl 1),(7, .sl 2),(6,iv i)]) [1,4] (fun k=>[(0,bA (rlJ (rlI s n i).2 i (kV n i) k.1).2),(1,⟨1, .arr (aC (rlI s n i).1)⟩),(2,⟨1, .arr (ints (rlJ (rlI s n i).2 i (kV n i) k.1).1)⟩)]) [0,1,2] (fun k=>n-(i+1+k.1)) ⟨0,by omega⟩ ?_ ?_
  ·exact Imp.auto hX (by simp [go_sem,simprocAttr,kV])
  rintro⟨k,hk⟩
  simp only [go_sem,simprocAttr]
  have ok2:=aCe (i:=i) (r:=kV n i) ok1 k
  have l2:=xA (s:=(rlI s n i).2) (i:=i) (r:=kV n i) k
  rw [zB]at l2
  rcases Nat.lt_or_ge (i+1+k) n with hk1|hk1
  ·have hno:=aP (n:=2) ok2
   have et:((i:Int)+1+(k:Int)).toNat=i+1+k:=by omega
   repeat'(first|refine wkQ ?_|refine Tw.f ?_ ?_|(refine kcQ aF ?_;refine kwQ (hno) [(0,0)] [] ?_)|(refine fun(hc:(_:Bool)=_)=>?_;try simp only [hcS]at hc))
   all_goals try exact om_
   all_goals try(exfalso;omega)
   ·exact⟨⟨k+1,by omega⟩,by simp only;omega,Imp.auto hX (by simp [go_sem,simprocAttr,rlJ,et];omega)⟩
  ·have ek:k=n-(i+1):=by omega
   subst ek
   have e1:rlI s n (i+1)=((rlI s n i).1++[(rlJ (rlI s n i).2 i (kV n i) (n-(i+1))).1],(rlJ (rlI s n i).2 i (kV n i) (n-(i+1))).2):=rfl
   repeat'(first|refine wkQ ?_|refine Tw.f ?_ ?_|(refine fun(hc:(_:Bool)=_)=>?_;try simp only [hcS]at hc))
   all_goals try exact om_
   all_goals try(exfalso;omega)
   ·refine⟨⟨i+1,by omega,(by(trivial))⟩,by simp only;omega,Imp.auto hX (by simp only [go_sem,simprocAttr,e1])⟩
 ·obtain rfl:i=n:=by omega
  have h1:=aP (n:=4) ok1
  have h2:=aP (n:=(i:Int)) (aM (n:=4) ok1)
  have hb:=fun q:1<i=>aX (n:=(i:Int)) (aM (n:=4) ok1) (by omega)
  have em:((i:Int)-1).toNat=i-1:=by omega
  have lr:1<i→((rlI s i i).1.getD (i-1) []).length=i:=fun q=>(sP (n:=i) hs i (Nat.le_refl i) (i-1) (by omega)).1
  repeat'(first|(rw [em])|(refine cZ 13 (Imp.open_ 1 (i-1) (aC (rlI s i i).1) [] (.inr ⟨rfl,rfl⟩) (Nat.le_refl 1) (by simp only [go_sem,simprocAttr];omega) rfl (by simp only [go_sem,simprocAttr]) rfl) ?_;simp only [go_sem,simprocAttr])|(refine cZ 14 (Imp.closeA 1 2 (i-1) (aC (rlI s i i).1) _ rfl rfl (by decide) (by simp only [go_sem,simprocAttr];omega)) ?_;simp only [go_sem,simprocAttr])|(with_reducible first|refine St.f ?_|refine V_c ?_|refine eDn ?_|refine And.intro ?_ ?_|refine aJ ?_ ?_|refine aQ ?_)|((refine aT ?_);intro K hK)|((with_reducible refine So.f ?_);intro K hK;simp(contextual:=true)only [go_sem,simprocAttr])|((with_reducible refine hK _ ?_);clear hK K)|((with_reducible refine(id ?_:EvCall _ _ [.ptr 0 0,iv 4] _ _));refine EvCall.mr (h1) aF [(0,0)] [] ?_)|((with_reducible refine(id ?_:EvCall _ _ [.ptr 0 0,iv i] _ _));refine EvCall.mr (h2) aF [(0,0)] [] ?_)|(refine fun(hc:(_:Bool)=_)=>?_;try simp only [hcS]at hc))
  all_goals try exact om_
  all_goals try(exfalso;omega)
  all_goals first
   |have eX:rlX (rlI s i i).2 i=(some (aK (aL (rlI s i i).2 4) i).toNat,aL (aL (rlI s i i).2 4) i):=by unfold rlX;rw [if_pos (by omega),if_pos (by assumption)]
   |have eX:rlX (rlI s i i).2 i=(none,aL (rlI s i i).2 4):=by unfold rlX;rw [if_pos (by omega),if_neg (by assumption)]
   |have eX:rlX (rlI s i i).2 i=(none,(rlI s i i).2):=by unfold rlX;rw [if_neg (by omega)]
  all_goals(
   refine aH (G:={k:Nat//k≤i∧(True)}) (fun⟨k,_⟩=>[(9,iv k),(0, .ptr 0 0),(5, .sl 1)]) [1,4] (fun⟨k,_⟩=>[(0,bA (rlX (rlI s i i).2 i).2),(1,⟨1, .arr (aC (wK (aCb i (rlI s i i).1 (rlX (rlI s i i).2 i).1) i k))⟩)]) [0,1] (fun zz=>i-zz.1) ⟨0,Nat.zero_le _,by trivial⟩ ?_ ?_
   ·exact Imp.auto hX (by simp [go_sem,simprocAttr,eX,aCb,wK])
   rintro⟨k,hik,hwk⟩
   simp only [go_sem,simprocAttr]
   have d0:Dim i (aCb i (rlI s i i).1 (rlX (rlI s i i).2 i).1):=aDE ⟨l1,fun j hj=>(sP (n:=i) hs i (Nat.le_refl i) j hj).1⟩ _
   have eR:aDC s i=wK (aCb i (rlI s i i).1 (rlX (rlI s i i).2 i).1) i i:=rfl
   have eS:aEW s i=(rlX (rlI s i i).2 i).2:=rfl
   rw [eR,eS]
   clear eX hb lr
   generalize (rlX (rlI s i i).2 i).2=s4
   generalize aCb i (rlI s i i).1 (rlX (rlI s i i).2 i).1=R at d0⊢
   rcases Nat.lt_or_ge k i with hk1|hk1
   ·have d1:=aFr d0 k
    have eK:wK R i (k+1)=wI (wK R i k) i k i:=rfl
    generalize wK R i k=R1 at d1 eK⊢
    repeat'(first|refine wkQ ?_|refine Tw.f ?_ ?_|(refine fun(hc:(_:Bool)=_)=>?_;try simp only [hcS]at hc))
    all_goals try exact om_
    all_goals try(exfalso;omega)
    refine aH (G:={a:Nat//a≤i∧(True)}) (fun⟨a,_⟩=>[(10,iv a),(0, .ptr 0 0),(5, .sl 1),(9,iv k)]) [1,4] (fun⟨a,_⟩=>[(0,bA s4),(1,⟨1, .arr (aC (wI R1 i k a))⟩)]) [0,1] (fun zz=>i-zz.1) ⟨0,Nat.zero_le _,by trivial⟩ ?_ ?_
    ·exact Imp.auto hX (by simp [go_sem,simprocAttr,wI])
    rintro⟨a,hia,hwa⟩
    simp only [go_sem,simprocAttr]
    rcases Nat.lt_or_ge a i with ha|ha
    ·have d2:=aFp (k:=k) d1 a
     have eI:wI R1 i k (a+1)=wJ (wI R1 i k a) k a i:=rfl
     generalize wI R1 i k a=R2 at d2 eI⊢
     repeat'(first|refine wkQ ?_|refine Tw.f ?_ ?_|(refine fun(hc:(_:Bool)=_)=>?_;try simp only [hcS]at hc))
     all_goals try exact om_
     all_goals try(exfalso;omega)
     refine aH (G:={b:Nat//b≤i∧(True)}) (fun⟨b,_⟩=>[(11,iv b),(0, .ptr 0 0),(5, .sl 1),(9,iv k),(10,iv a)]) [1,4] (fun⟨b,_⟩=>[(0,bA s4),(1,⟨1, .arr (aC (wJ R2 k a b))⟩)]) [0,1] (fun zz=>i-zz.1) ⟨0,Nat.zero_le _,by trivial⟩ ?_ ?_
     ·exact Imp.auto hX (by simp [go_sem,simprocAttr,wJ])
     rintro⟨b,hib,hwb⟩
     simp only [go_sem,simprocAttr]
     rcases Nat.lt_or_ge b i with hb1|hb1
     ·have d3:=aFq (k:=k) (i:=a) d2 b
      have eJ:wJ R2 k a (b+1)=wS (wJ R2 k a b) k a b:=rfl
      generalize wJ R2 k a b=M at d3 eJ⊢
      obtain⟨dl,dr⟩:=d3
      have da:=dr a ha
      have dk:=dr k hk1
      by_cases h1:mE M a k=1∧mE M k b=1
      ·rw [aOf h1.1 h1.2]at eJ
       unfold mE at h1
       repeat'(first|(refine cZ 24 (Imp.open_ 1 a (aC M) [] (.inr ⟨rfl,rfl⟩) (Nat.le_refl 1) (by simp only [go_sem,simprocAttr];omega) rfl (by simp only [go_sem,simprocAttr]) rfl) ?_;simp only [go_sem,simprocAttr])|(refine cZ 22 (Imp.closeA 1 3 a (aC M) _ rfl rfl (by decide) (by simp only [go_sem,simprocAttr];omega)) ?_;simp only [go_sem,simprocAttr])|(refine cZ 22 (Imp.closeA 1 2 a (aC M) _ rfl rfl (by decide) (by simp only [go_sem,simprocAttr];omega)) ?_;simp only [go_sem,simprocAttr])|(with_reducible first|refine St.f ?_|refine V_c ?_|refine eDn ?_|refine And.intro ?_ ?_|refine aJ ?_ ?_|refine aQ ?_)|((refine aT ?_);intro K hK)|((with_reducible refine So.f ?_);intro K hK;simp(contextual:=true)only [go_sem,simprocAttr])|((with_reducible refine hK _ ?_);clear hK K)|(refine fun(hc:(_:Bool)=_)=>?_;try simp only [hcS]at hc))
       all_goals try exact om_
       all_goals try(exfalso;omega)
       refine⟨⟨b+1,by omega,(by(trivial))⟩,by simp only;omega,Imp.auto hX (by simp only [go_sem,simprocAttr,eJ])⟩
      ·rw [aSf h1]at eJ
       unfold mE at h1
       repeat'(first|refine wkQ ?_|refine Tw.f ?_ ?_|(refine fun(hc:(_:Bool)=_)=>?_;try simp only [hcS]at hc))
       all_goals try exact om_
       all_goals try(exfalso;omega)
       all_goals try(exfalso;exact h1 ⟨by assumption,by assumption⟩)
       all_goals(refine⟨⟨b+1,by omega,(by(trivial))⟩,by simp only;omega,Imp.auto hX (by simp only [go_sem,simprocAttr,eJ])⟩)
     ·obtain rfl:b=i:=by omega
      repeat'(first|refine wkQ ?_|refine Tw.f ?_ ?_|(refine fun(hc:(_:Bool)=_)=>?_;try simp only [hcS]at hc))
      all_goals try exact om_
      all_goals try(exfalso;omega)
      refine⟨⟨a+1,by omega,(by(trivial))⟩,by simp only;omega,Imp.auto hX (by simp only [go_sem,simprocAttr,eI])⟩
    ·obtain rfl:a=i:=by omega
     repeat'(first|refine wkQ ?_|refine Tw.f ?_ ?_|(refine fun(hc:(_:Bool)=_)=>?_;try simp only [hcS]at hc))
     all_goals try exact om_
     all_goals try(exfalso;omega)
     refine⟨⟨k+1,by omega,(by(trivial))⟩,by simp only;omega,Imp.auto hX (by simp only [go_sem,simprocAttr,eK])⟩
   ·obtain rfl:k=i:=by omega
    repeat'(first|refine wkQ ?_|refine Tw.f ?_ ?_|(refine fun(hc:(_:Bool)=_)=>?_;try simp only [hcS]at hc))
    all_goals try exact om_
    all_goals try(exfalso;omega)
    (first|refine aB ?_|refine aA ?_);simp only [go_sem,simprocAttr,Tryz.f320]
  )
end Go.Eng
end
