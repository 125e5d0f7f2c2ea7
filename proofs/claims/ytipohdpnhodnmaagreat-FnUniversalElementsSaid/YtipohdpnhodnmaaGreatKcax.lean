/- Several texts in one: Z01, Z02. -/
import Derived.Test.YtipohdpnhodnmaaGreatKciy
set_option linter.unusedSimpArgs false
set_option linter.unusedVariables false
set_option maxRecDepth 100000
set_option maxHeartbeats 16000000
section
namespace Go.Eng
open Go Go.Proofs Go.Cats
def hz (h:Int):Int:=IntKind.u64.wrap (IntKind.u64.wrap (h*6364136223846793005)+1442695040888963407)
def rx (h:Int):Int:=aHy .u64 ((hz h).fdiv (2^min (33:Int).toNat IntKind.u64.bits)) 16777215
theorem aRY (h:Int):0≤rx h∧rx h<16777216:=aMu _
def vF (s:RnS):Int:=rx s.hash+(if s.at_<s.code.length then s.code.getD s.at_ 0 else 0)
def aK (s:RnS) (n:Int):Int:=if n<1 then 0 else(vF s).tmod n
def aL (s:RnS) (n:Int):RnS:=if n<1 then s else⟨s.code,if s.at_<s.code.length then s.at_+1 else s.at_,hz s.hash⟩
theorem aMy {s:RnS} (h:RnOk s):0≤vF s∧vF s<16777472:=by
 have h1:=aRY s.hash
 unfold vF
 split
 ·rename_i h2
  have:=h.b _ h2
  omega
 ·omega
theorem aV {s:RnS} {n:Int} (h:RnOk s) (hn:1≤n):0≤aK s n∧aK s n<n:=by
 have h1:=(aMy h).1
 unfold aK
 rw [if_neg (by omega)]
 exact⟨Int.tmod_nonneg _ h1,Int.tmod_lt_of_pos _ (by omega)⟩
theorem aMx {s:RnS} {n:Int} (hn:n<1):aK s n=0:=by unfold aK;rw [if_pos hn]
theorem aM {s:RnS} {n:Int} (h:RnOk s):RnOk (aL s n):=by
 unfold aL
 split
 ·exact h
 ·refine⟨h.len,?_,h.b⟩
  have:=h.le
  simp only
  split<;>omega
theorem ty_n:((Tryz.prog.underlying 144).isSome=true∧Tryz.prog.underlying 2=some (.int .i64))∧((Tryz.prog.underlying 5).isSome=true∧Tryz.prog.underlying 144=some (.int .u64))∧((Tryz.prog.underlying 3).isSome=true):=⟨⟨by rw [Tryz.underlying144];rfl,Tryz.underlying2⟩,⟨by rw [Tryz.underlying5];rfl,Tryz.underlying144⟩,by rw [Tryz.underlying3];rfl⟩
theorem aLx {z:Int} (h0:0≤z) (h1:z<16777216):IntKind.i64.wrap z=z:=by
 unfold IntKind.wrap IntKind.bits IntKind.signed
 simp
 omega
theorem aH:aF Tryz.prog 42:=⟨_,Tryz.func42,rfl,rfl⟩
theorem aP {s:RnS} {n:Int} (hs:RnOk s):Spec Tryz.prog 42 [.ptr 0 0,iv n] [(0,bB s)] (iv (aK s n)) [(0,bB (aL s n))]:=by
 refine aD (E:=TE) 1 Tryz.func42 rfl (by simp [Tryz.f42]) fun X hn hX=>?_
 by_cases h1:n<1
 ·rw [aMx h1,show aL s n=s from by unfold aL;rw [if_pos h1]]
  repeat'(first|(with_reducible first|refine St.f ?_|refine V_c ?_|refine eDn ?_|refine And.intro ?_ ?_|refine aI ?_ ?_)|((refine aQ ?_);intro K hK)|((with_reducible refine So.f ?_);intro K hK;simp(contextual:=true)only [go_sem,simprocAttr])|((with_reducible refine hK _ ?_);clear hK K)|(refine fun(hc:(_:Bool)=_)=>?_;try simp only [hcS]at hc))
  all_goals try exact om_
  all_goals try(exfalso;omega)
  (first|refine aB ?_|refine aA ?_);simp only [go_sem,simprocAttr,Tryz.f42]
 ·have hx:=aRY s.hash
  have hw:=aLx hx.1 hx.2
  by_cases h2:s.at_<s.code.length
  ·have hb:=hs.b _ h2
   have hw2:=aLx (z:=s.code.getD s.at_ 0) hb.1 (by omega)
   have eX:vF s=rx s.hash+s.code.getD s.at_ 0:=by unfold vF;rw [if_pos h2]
   have eF:aK s n=(rx s.hash+s.code.getD s.at_ 0).tmod n:=by unfold aK;rw [if_neg h1,eX]
   have eS:aL s n=⟨s.code,s.at_+1,hz s.hash⟩:=by unfold aL;rw [if_neg h1,if_pos h2]
   have hl:=hs.len
   rw [eF,eS]
   repeat'(first|(refine(id ?_:V _ _ (Code.region 4 _ _) _ _);refine jL 4 (by rw [hn];rfl) ?_;intro K hK)|(refine fM ?_;refine aDz (k:= .u64) (a:=hz s.hash) (b:=33) (by first|(simp only [go_sem,simprocAttr];done)|(simp only [go_sem,simprocAttr];rfl)) (by first|(simp only [go_sem,simprocAttr];done)|(simp only [go_sem,simprocAttr];rfl)) (by decide) ?_;simp only [go_sem,simprocAttr])|(refine fM ?_;refine aDw (k:= .u64) (a:=(hz s.hash).fdiv (2^min (33:Int).toNat IntKind.u64.bits)) (b:=16777215) (by first|(simp only [go_sem,simprocAttr];done)|(simp only [go_sem,simprocAttr];rfl)) (by first|(simp only [go_sem,simprocAttr];done)|(simp only [go_sem,simprocAttr];rfl)) ?_;simp only [go_sem,simprocAttr])|(refine fM ?_;refine mI (x:= .tmp 22) (k:= .i64) (q:= .u64) (n:=rx s.hash) ty_n.1.1 ty_n.1.2 (by first|(simp only [go_sem,simprocAttr];done)|(simp only [go_sem,simprocAttr];rfl)) ?_;rw [hw];simp only [go_sem,simprocAttr])|((with_reducible refine rY ?_);simp only [go_sem,simprocAttr])|(with_reducible refine rX ?_)|(with_reducible first|refine St.f ?_|refine V_c ?_|refine eDn ?_|refine And.intro ?_ ?_|refine aI ?_ ?_)|((refine aQ ?_);intro K hK)|((with_reducible refine So.f ?_);intro K hK;simp(contextual:=true)only [go_sem,simprocAttr])|((with_reducible refine hK _ ?_);clear hK K)|(refine mI (x:= .tmp 44) (k:= .i64) (q:= .u8) (n:=s.code.getD s.at_ 0) ty_n.2.1.1 ty_n.1.2 (by simp only [go_sem,simprocAttr]) ?_;rw [hw2];simp only [go_sem,simprocAttr])|(refine fun(hc:(_:Bool)=_)=>?_;try simp only [hcS]at hc))
   all_goals try exact om_
   all_goals try(exfalso;omega)
   (first|refine aB ?_|refine aA ?_);simp only [go_sem,simprocAttr,Tryz.f42]
   rfl
  ·have eX:vF s=rx s.hash:=by unfold vF;rw [if_neg h2];omega
   have eF:aK s n=(rx s.hash).tmod n:=by unfold aK;rw [if_neg h1,eX]
   have eS:aL s n=⟨s.code,s.at_,hz s.hash⟩:=by unfold aL;rw [if_neg h1,if_neg h2]
   rw [eF,eS]
   repeat'(first|(refine(id ?_:V _ _ (Code.region 4 _ _) _ _);refine jL 4 (by rw [hn];rfl) ?_;intro K hK)|(refine fM ?_;refine aDz (k:= .u64) (a:=hz s.hash) (b:=33) (by first|(simp only [go_sem,simprocAttr];done)|(simp only [go_sem,simprocAttr];rfl)) (by first|(simp only [go_sem,simprocAttr];done)|(simp only [go_sem,simprocAttr];rfl)) (by decide) ?_;simp only [go_sem,simprocAttr])|(refine fM ?_;refine aDw (k:= .u64) (a:=(hz s.hash).fdiv (2^min (33:Int).toNat IntKind.u64.bits)) (b:=16777215) (by first|(simp only [go_sem,simprocAttr];done)|(simp only [go_sem,simprocAttr];rfl)) (by first|(simp only [go_sem,simprocAttr];done)|(simp only [go_sem,simprocAttr];rfl)) ?_;simp only [go_sem,simprocAttr])|(refine fM ?_;refine mI (x:= .tmp 22) (k:= .i64) (q:= .u64) (n:=rx s.hash) ty_n.1.1 ty_n.1.2 (by first|(simp only [go_sem,simprocAttr];done)|(simp only [go_sem,simprocAttr];rfl)) ?_;rw [hw];simp only [go_sem,simprocAttr])|((with_reducible refine rY ?_);simp only [go_sem,simprocAttr])|(with_reducible refine rX ?_)|(with_reducible first|refine St.f ?_|refine V_c ?_|refine eDn ?_|refine And.intro ?_ ?_|refine aI ?_ ?_)|((refine aQ ?_);intro K hK)|((with_reducible refine So.f ?_);intro K hK;simp(contextual:=true)only [go_sem,simprocAttr])|((with_reducible refine hK _ ?_);clear hK K)|(refine fun(hc:(_:Bool)=_)=>?_;try simp only [hcS]at hc))
   all_goals try exact om_
   all_goals try(exfalso;omega)
   (first|refine aB ?_|refine aA ?_);simp only [go_sem,simprocAttr,Tryz.f42]
   rfl
def hF (l:List Int):Nat→Int
 |0=>IntKind.u64.wrap (7019+IntKind.u64.wrap (l.length:Int))
 |i+1=>IntKind.u64.wrap (IntKind.u64.wrap (IntKind.u64.wrap (hF l i*1099511628211)+IntKind.u64.wrap (l.getD i 0))+7)
def from_ (l:List Int):RnS:=⟨l,0,hF l l.length⟩
theorem aMd {l:List Int} (hl:l.length≤4096) (hb:∀i,i<l.length→0≤l.getD i 0∧l.getD i 0<256):RnOk (from_ l):=⟨hl,Nat.zero_le _,hb⟩
theorem aMj (l:List Int):hF l 0=IntKind.u64.wrap (7019+IntKind.u64.wrap (l.length:Int)):=rfl
attribute [local go_sem] aMj
theorem ty_m:((Tryz.prog.underlying 3).isSome=true)∧Tryz.prog.underlying 144=some (.int .u64):=⟨by rw [Tryz.underlying3];rfl,Tryz.underlying144⟩
theorem lB:aF Tryz.prog 38:=⟨_,Tryz.func38,rfl,rfl⟩
theorem aFw {l:List Int} (hl:l.length≤4096):Spec Tryz.prog 38 [.bor [] (bys l)] [] (.ptr 0 0) [(0,bB (from_ l))]:=by
 refine aD (E:=TE) 0 Tryz.func38 rfl (by simp [Tryz.f38]) fun X hn hX=>?_
 repeat'(first|(with_reducible first|refine St.f ?_|refine V_c ?_|refine eDn ?_|refine And.intro ?_ ?_|refine aI ?_ ?_|refine aN ?_)|((refine aQ ?_);intro K hK)|((with_reducible refine So.f ?_);intro K hK;simp(contextual:=true)only [go_sem,simprocAttr])|((with_reducible refine hK _ ?_);clear hK K)|(refine mI (x:= .tmp 7) (k:= .u64) (q:= .i64) (n:=(l.length:Int)) ty_m.1 ty_m.2 (by simp only [go_sem,simprocAttr]) ?_;simp only [go_sem,simprocAttr])|(refine fun(hc:(_:Bool)=_)=>?_;try simp only [hcS]at hc))
 all_goals try exact om_
 refine aG (G:={i:Nat//i≤l.length∧(True)}) (fun⟨i,_⟩=>[(4,iv i),(3, .ptr 0 0)]) [0,2] (fun⟨i,_⟩=>[(0,⟨1, .box [.bor [] (bys l),iv 0, .v (.int .u64 (hF l i))]⟩)]) [0] (fun zz=>l.length-zz.1) ⟨0,Nat.zero_le _,by first|trivial|simp⟩ ?_ ?_
 ·exact Imp.au hX
 rintro⟨i,hii,hwi⟩
 simp only [go_sem,simprocAttr]
 rcases Nat.lt_or_ge i l.length with hlt|hge
 ·have e1:hF l (i+1)=IntKind.u64.wrap (IntKind.u64.wrap (IntKind.u64.wrap (hF l i*1099511628211)+IntKind.u64.wrap (l.getD i 0))+7):=rfl
  repeat'(first|(with_reducible first|refine St.f ?_|refine V_c ?_|refine eDn ?_|refine And.intro ?_ ?_|refine aI ?_ ?_|refine aN ?_)|((refine aQ ?_);intro K hK)|((with_reducible refine So.f ?_);intro K hK;simp(contextual:=true)only [go_sem,simprocAttr])|((with_reducible refine hK _ ?_);clear hK K)|(refine mI (x:= .tmp 31) (k:= .u64) (q:= .u8) (n:=l.getD i 0) ty_n.2.1.1 ty_n.2.1.2 (by simp only [go_sem,simprocAttr]) ?_;simp only [go_sem,simprocAttr])|(refine fun(hc:(_:Bool)=_)=>?_;try simp only [hcS]at hc))
  all_goals try exact om_
  all_goals try(exfalso;omega)
  refine⟨⟨i+1,by omega,(by trivial)⟩,by simp only;omega,Imp.auto hX (by simp only [go_sem,simprocAttr,e1])⟩
 ·obtain rfl:i=l.length:=by omega
  repeat'(first|(with_reducible first|refine St.f ?_|refine V_c ?_|refine eDn ?_|refine And.intro ?_ ?_|refine aI ?_ ?_|refine aN ?_)|((refine aQ ?_);intro K hK)|((with_reducible refine So.f ?_);intro K hK;simp(contextual:=true)only [go_sem,simprocAttr])|((with_reducible refine hK _ ?_);clear hK K)|(refine fun(hc:(_:Bool)=_)=>?_;try simp only [hcS]at hc))
  all_goals try exact om_
  all_goals try(exfalso;omega)
  (first|refine aB ?_|refine aA ?_);simp only [go_sem,simprocAttr,Tryz.f38]
  rfl
theorem uU:aF Tryz.prog 177:=⟨_,Tryz.func177,rfl,rfl⟩
theorem zX {s:RnS} {l:List Int} (hs:RnOk s) (h1:1≤l.length) (hl:l.length≤1048576):Spec Tryz.prog 177 [.ptr 0 0, .sl 1] [(0,bB s),(1,⟨1, .arr (ints l)⟩)] (iv (l.getD (aK s l.length).toNat 0)) [(0,bB (aL s l.length)),(1,⟨1, .arr (ints l)⟩)]:=by
 refine aD (E:=TE) 2 Tryz.func177 rfl (by simp [Tryz.f177]) fun X hn hX=>?_
 have hb:=aV (n:=(l.length:Int)) hs (by omega)
 have hno:=aP (n:=(l.length:Int)) hs
 repeat'(first|refine wkQ ?_|refine Tw.f ?_ ?_|(refine kcQ aH ?_;refine kwQ (hno) [(0,0)] [] ?_)|(refine fun(hc:(_:Bool)=_)=>?_;try simp only [hcS]at hc))
 all_goals try exact om_
 all_goals try(exfalso;omega)
 (first|refine aB ?_|refine aA ?_);simp only [go_sem,simprocAttr,Tryz.f177]
end Go.Eng
end
section
namespace Go.Eng
open Go Go.Proofs Go.Cats
def rlJ (s:RnS) (i:Nat) (r:List Int):Nat→List Int×RnS
 |0=>(r,s)
 |k+1=>((rlJ s i r k).1.set (i+1+k) (aK (rlJ s i r k).2 2),aL (rlJ s i r k).2 2)
def kS (n i:Nat):List Int:=(List.replicate n 0).set i 1
def rlI (s:RnS) (n:Nat):Nat→List (List Int)×RnS
 |0=>([],s)
 |i+1=>((rlI s n i).1++[(rlJ (rlI s n i).2 i (kS n i) (n-(i+1))).1],(rlJ (rlI s n i).2 i (kS n i) (n-(i+1))).2)
def rlX (s:RnS) (n:Nat):Option Nat×RnS:=
 if 1<n then(if aK s 4=0 then(some (aK (aL s 4) n).toNat,aL (aL s 4) n)else(none,aL s 4))else(none,s)
def aDX (s:RnS) (n:Nat):List (List Int):=wK (aCv n (rlI s n n).1 (rlX (rlI s n n).2 n).1) n n
def aFp (s:RnS) (n:Nat):RnS:=(rlX (rlI s n n).2 n).2
section
variable {s:RnS} {n i:Nat} {r:List Int}
theorem zL:(kS n i).length=n:=by unfold kS;simp
theorem aCx (h:RnOk s):∀k,RnOk (rlJ s i r k).2
 |0=>h
 |k+1=>aM (n:=2) (aCx h k)
theorem xG:∀k,(rlJ s i r k).1.length=r.length
 |0=>rfl
 |k+1=>by rw [rlJ];simp only [List.length_set];exact xG k
theorem zK (h:RnOk s):∀i,RnOk (rlI s n i).2
 |0=>h
 |i+1=>aCx (zK h i) _
theorem nD:∀i,(rlI s n i).1.length=i
 |0=>rfl
 |i+1=>by rw [rlI];simp only [List.length_append,List.length_singleton,nD i]
theorem aPj (h:RnOk s):RnOk (rlX s n).2:=by
 unfold rlX
 split
 ·split
  ·exact aM (n:=n) (aM (n:=4) h)
  ·exact aM (n:=4) h
 ·exact h
theorem aGA (h:RnOk s):RnOk (aFp s n):=aPj (zK h n)
theorem aKL {l:List Int} {j k:Nat} {v:Int} (hk:k<l.length):(l.set k v).getD j 0=if j=k then v else l.getD j 0:=by
 rw [List.getD_eq_getElem?_getD,List.getElem?_set,List.getD_eq_getElem?_getD]
 by_cases h:k=j
 ·subst h;rw [if_pos rfl,if_pos hk,if_pos rfl];rfl
 ·rw [if_neg h,if_neg (fun e=>h e.symm)]
theorem aMX {j:Nat} (hi:i<n):(kS n i).getD j 0=if j=i then 1 else 0:=by
 unfold kS
 rw [aKL (by simp;exact hi)]
 split
 ·rfl
 ·rw [List.getD_eq_getElem?_getD,List.getElem?_replicate];split<;>rfl
theorem aGE (h:RnOk s) (hi:i<n):∀k,i+1+k≤n→∀j,(j<i→(rlJ s i (kS n i) k).1.getD j 0=0)∧(j=i→(rlJ s i (kS n i) k).1.getD j 0=1)∧(i<j→(rlJ s i (kS n i) k).1.getD j 0=0∨(rlJ s i (kS n i) k).1.getD j 0=1)
 |0,_,j=>by
  show(j<i→(kS n i).getD j 0=0)∧(j=i→(kS n i).getD j 0=1)∧(i<j→(kS n i).getD j 0=0∨(kS n i).getD j 0=1)
  rw [aMX hi]
  refine⟨fun q=>if_neg (by omega),fun q=>if_pos q,fun q=> .inl (if_neg (by omega))⟩
 |k+1,hk,j=>by
  have ih:=aGE h hi k (by omega) j
  have hb:=aV (n:=2) (aCx (i:=i) (r:=kS n i) h k) (by decide)
  rw [rlJ]
  simp only
  rw [aKL (by rw [xG,zL];omega)]
  by_cases e:j=i+1+k
  ·rw [if_pos e]
   exact⟨fun q=>by omega,fun q=>by omega,fun _=>by omega⟩
  ·rw [if_neg e];exact ih
theorem sM (h:RnOk s):∀m,m≤n→∀i,i<m→aIn n i ((rlI s n m).1.getD i [])
 |0,_,i,hi=>absurd hi (Nat.not_lt_zero i)
 |m+1,hm,i,hi=>by
  rw [rlI]
  simp only
  rcases Nat.lt_or_ge i m with h1|h1
  ·have ih:=sM h m (by omega) i h1
   rw [List.getD_eq_getElem?_getD,List.getElem?_append_left (by rw [nD];exact h1),←List.getD_eq_getElem?_getD]
   exact ih
  ·obtain rfl:i=m:=by omega
   rw [List.getD_eq_getElem?_getD,List.getElem?_append_right (by rw [nD];omega),nD,Nat.sub_self]
   refine⟨by show(rlJ _ _ _ _).1.length=n;rw [xG,zL],fun j hj=>?_⟩
   exact aGE (zK h i) (by omega) _ (by omega) j
theorem xE (h:RnOk s) (hn:n<5):PoOK (aDX s n) n:=by
 refine aPg hn ⟨nD n,sM h n (Nat.le_refl n)⟩ fun y hy=>?_
 unfold rlX at hy
 split at hy
 ·split at hy
  ·simp only [Option.some.injEq]at hy
   have hb:=aV (n:=(n:Int)) (aM (n:=4) (zK (n:=n) h n)) (by omega)
   omega
  ·cases hy
 ·cases hy
end
def Dim (n:Nat) (R:List (List Int)):Prop:=R.length=n∧∀j,j<n→(R.getD j []).length=n
section
variable {n k i j:Nat} {R:List (List Int)}
theorem Dim.put (h:Dim n R) (i:Nat) {r:List Int} (hr:i<n→r.length=n):Dim n (R.set i r):=by
 refine⟨by rw [List.length_set];exact h.1,fun j hj=>?_⟩
 rw [List.getD_eq_getElem?_getD,List.getElem?_set]
 by_cases e:i=j
 ·subst e;rw [if_pos rfl,if_pos (by rw [h.1];exact hj)];exact hr hj
 ·rw [if_neg e,←List.getD_eq_getElem?_getD];exact h.2 j hj
theorem aPC (h:Dim n R):Dim n (wS R k i j):=by
 unfold wS
 split
 ·exact h.put i fun hi=>by rw [List.length_set];exact h.2 i hi
 ·exact h
theorem aFQ (h:Dim n R):∀j,Dim n (wJ R k i j)
 |0=>h
 |j+1=>aPC (aFQ h j)
theorem aFP (h:Dim n R):∀i,Dim n (wI R n k i)
 |0=>h
 |i+1=>aFQ (aFP h i) n
theorem aFR (h:Dim n R):∀k,Dim n (wK R n k)
 |0=>h
 |k+1=>aFP (aFR h k) n
theorem aDZ (h:Dim n R) (x:Option Nat):Dim n (aCv n R x):=by
 cases x with
 |none=>exact h
 |some y=>exact h.put (n-1) fun hi=>by rw [List.length_set];exact h.2 _ hi
theorem aPD (h1:mE R i k=1) (h2:mE R k j=1):wS R k i j=R.set i ((R.getD i []).set j 1):=if_pos ⟨h1,h2⟩
theorem aTz (h:¬(mE R i k=1∧mE R k j=1)):wS R k i j=R:=if_neg h
end
theorem aKE (s i r):rlJ s i r 0=(r,s):=rfl
theorem aKD (s n):rlI s n 0=([],s):=rfl
attribute [local go_sem] aKE aKD List.set_cons_zero List.set_cons_succ
theorem nM:aF Tryz.prog 258:=⟨_,Tryz.func258,rfl,rfl⟩
theorem oT {s:RnS} {n:Nat} (hs:RnOk s) (hn5:n<5):Spec Tryz.prog 258 [.ptr 0 0,iv n] [(0,bB s)] (.sl 1) [(0,bB (aFp s n)),(1,⟨1, .arr (aC (aDX s n))⟩)]:=by
 refine aD (E:=TE) 1 Tryz.func258 rfl (by simp [Tryz.f258]) fun X hn hX=>?_
 repeat'(first|refine wkQ ?_|refine Tw.f ?_ ?_|(refine fun(hc:(_:Bool)=_)=>?_;try simp only [hcS]at hc))
 all_goals try exact om_
 refine aG (G:={i:Nat//i≤n∧(True)}) (fun⟨i,_⟩=>[(6,iv i),(0, .ptr 0 0),(5, .sl 1)]) [1,4] (fun⟨i,_⟩=>[(0,bB (rlI s n i).2),(1,⟨1, .arr (aC (rlI s n i).1)⟩)]) [0,1] (fun zz=>n-zz.1) ⟨0,Nat.zero_le _,by first|trivial|simp⟩ ?_ ?_
 ·exact Imp.au hX
 rintro⟨i,hii,hwi⟩
 simp only [go_sem,simprocAttr]
 have ok1:=zK (n:=n) hs i
 have l1:=nD (s:=s) (n:=n) i
 rcases Nat.lt_or_ge i n with hlt|hge
 ·repeat'(first|refine wkQ ?_|refine Tw.f ?_ ?_|(refine fun(hc:(_:Bool)=_)=>?_;try simp only [hcS]at hc))
  all_goals try exact om_
  refine aG (G:={k:Nat//i+1+k≤n}) (fun k=>[(8,iv (((i+1+k.1:Nat):Int))),(0, .ptr 0 0),(5, .sl 1),(7, .sl 2),(6,iv i)]) [1,4] (fun k=>[(0,bB (rlJ (rlI s n i).2 i (kS n i) k.1).2),(1,⟨1, .arr (aC (rlI s n i).1)⟩),(2,⟨1, .arr (ints (rlJ (rlI s n i).2 i (kS n i) k.1).1)⟩)]) [0,1,2] (fun k=>n-(i+1+k.1)) ⟨0,by omega⟩ ?_ ?_
  ·exact Imp.auto hX (by simp [go_sem,simprocAttr,kS])
  rintro⟨k,hk⟩
  simp only [go_sem,simprocAttr]
  have ok2:=aCx (i:=i) (r:=kS n i) ok1 k
  have l2:=xG (s:=(rlI s n i).2) (i:=i) (r:=kS n i) k
  rw [zL]at l2
  rcases Nat.lt_or_ge (i+1+k) n with hk1|hk1
  ·have hno:=aP (n:=2) ok2
   have et:((i:Int)+1+(k:Int)).toNat=i+1+k:=by omega
   repeat'(first|refine wkQ ?_|refine Tw.f ?_ ?_|(refine kcQ aH ?_;refine kwQ (hno) [(0,0)] [] ?_)|(refine fun(hc:(_:Bool)=_)=>?_;try simp only [hcS]at hc))
   all_goals try exact om_
   all_goals try(exfalso;omega)
   ·exact⟨⟨k+1,by omega⟩,by simp only;omega,Imp.auto hX (by simp [go_sem,simprocAttr,rlJ,et];omega)⟩
  ·have ek:k=n-(i+1):=by omega
   subst ek
   have e1:rlI s n (i+1)=((rlI s n i).1++[(rlJ (rlI s n i).2 i (kS n i) (n-(i+1))).1],(rlJ (rlI s n i).2 i (kS n i) (n-(i+1))).2):=rfl
   repeat'(first|refine wkQ ?_|refine Tw.f ?_ ?_|(refine fun(hc:(_:Bool)=_)=>?_;try simp only [hcS]at hc))
   all_goals try exact om_
   all_goals try(exfalso;omega)
   ·refine⟨⟨i+1,by omega,(by(trivial))⟩,by simp only;omega,Imp.auto hX (by simp only [go_sem,simprocAttr,e1])⟩
 ·obtain rfl:i=n:=by omega
  have h1:=aP (n:=4) ok1
  have h2:=aP (n:=(i:Int)) (aM (n:=4) ok1)
  have hb:=fun q:1<i=>aV (n:=(i:Int)) (aM (n:=4) ok1) (by omega)
  have em:((i:Int)-1).toNat=i-1:=by omega
  have lr:1<i→((rlI s i i).1.getD (i-1) []).length=i:=fun q=>(sM (n:=i) hs i (Nat.le_refl i) (i-1) (by omega)).1
  repeat'(first|(rw [em])|(refine dG 13 (Imp.open_ 1 (i-1) (aC (rlI s i i).1) [] (.inr ⟨rfl,rfl⟩) (Nat.le_refl 1) (by simp only [go_sem,simprocAttr];omega) rfl (by simp only [go_sem,simprocAttr]) rfl) ?_;simp only [go_sem,simprocAttr])|(refine dG 14 (Imp.closeA 1 2 (i-1) (aC (rlI s i i).1) _ rfl rfl (by decide) (by simp only [go_sem,simprocAttr];omega)) ?_;simp only [go_sem,simprocAttr])|(with_reducible first|refine St.f ?_|refine V_c ?_|refine eDn ?_|refine And.intro ?_ ?_|refine aI ?_ ?_|refine aN ?_)|((refine aQ ?_);intro K hK)|((with_reducible refine So.f ?_);intro K hK;simp(contextual:=true)only [go_sem,simprocAttr])|((with_reducible refine hK _ ?_);clear hK K)|((with_reducible refine(id ?_:EvCall _ _ [.ptr 0 0,iv 4] _ _));refine EvCall.mr (h1) aH [(0,0)] [] ?_)|((with_reducible refine(id ?_:EvCall _ _ [.ptr 0 0,iv i] _ _));refine EvCall.mr (h2) aH [(0,0)] [] ?_)|(refine fun(hc:(_:Bool)=_)=>?_;try simp only [hcS]at hc))
  all_goals try exact om_
  all_goals try(exfalso;omega)
  all_goals first
   |have eX:rlX (rlI s i i).2 i=(some (aK (aL (rlI s i i).2 4) i).toNat,aL (aL (rlI s i i).2 4) i):=by unfold rlX;rw [if_pos (by omega),if_pos (by assumption)]
   |have eX:rlX (rlI s i i).2 i=(none,aL (rlI s i i).2 4):=by unfold rlX;rw [if_pos (by omega),if_neg (by assumption)]
   |have eX:rlX (rlI s i i).2 i=(none,(rlI s i i).2):=by unfold rlX;rw [if_neg (by omega)]
  all_goals(
   refine aG (G:={k:Nat//k≤i∧(True)}) (fun⟨k,_⟩=>[(9,iv k),(0, .ptr 0 0),(5, .sl 1)]) [1,4] (fun⟨k,_⟩=>[(0,bB (rlX (rlI s i i).2 i).2),(1,⟨1, .arr (aC (wK (aCv i (rlI s i i).1 (rlX (rlI s i i).2 i).1) i k))⟩)]) [0,1] (fun zz=>i-zz.1) ⟨0,Nat.zero_le _,by trivial⟩ ?_ ?_
   ·exact Imp.auto hX (by simp [go_sem,simprocAttr,eX,aCv,wK])
   rintro⟨k,hik,hwk⟩
   simp only [go_sem,simprocAttr]
   have d0:Dim i (aCv i (rlI s i i).1 (rlX (rlI s i i).2 i).1):=aDZ ⟨l1,fun j hj=>(sM (n:=i) hs i (Nat.le_refl i) j hj).1⟩ _
   have eR:aDX s i=wK (aCv i (rlI s i i).1 (rlX (rlI s i i).2 i).1) i i:=rfl
   have eS:aFp s i=(rlX (rlI s i i).2 i).2:=rfl
   rw [eR,eS]
   clear eX hb lr
   generalize (rlX (rlI s i i).2 i).2=s4
   generalize aCv i (rlI s i i).1 (rlX (rlI s i i).2 i).1=R at d0⊢
   rcases Nat.lt_or_ge k i with hk1|hk1
   ·have d1:=aFR d0 k
    have eK:wK R i (k+1)=wI (wK R i k) i k i:=rfl
    generalize wK R i k=R1 at d1 eK⊢
    repeat'(first|refine wkQ ?_|refine Tw.f ?_ ?_|(refine fun(hc:(_:Bool)=_)=>?_;try simp only [hcS]at hc))
    all_goals try exact om_
    all_goals try(exfalso;omega)
    refine aG (G:={a:Nat//a≤i∧(True)}) (fun⟨a,_⟩=>[(10,iv a),(0, .ptr 0 0),(5, .sl 1),(9,iv k)]) [1,4] (fun⟨a,_⟩=>[(0,bB s4),(1,⟨1, .arr (aC (wI R1 i k a))⟩)]) [0,1] (fun zz=>i-zz.1) ⟨0,Nat.zero_le _,by trivial⟩ ?_ ?_
    ·exact Imp.auto hX (by simp [go_sem,simprocAttr,wI])
    rintro⟨a,hia,hwa⟩
    simp only [go_sem,simprocAttr]
    rcases Nat.lt_or_ge a i with ha|ha
    ·have d2:=aFP (k:=k) d1 a
     have eI:wI R1 i k (a+1)=wJ (wI R1 i k a) k a i:=rfl
     generalize wI R1 i k a=R2 at d2 eI⊢
     repeat'(first|refine wkQ ?_|refine Tw.f ?_ ?_|(refine fun(hc:(_:Bool)=_)=>?_;try simp only [hcS]at hc))
     all_goals try exact om_
     all_goals try(exfalso;omega)
     refine aG (G:={b:Nat//b≤i∧(True)}) (fun⟨b,_⟩=>[(11,iv b),(0, .ptr 0 0),(5, .sl 1),(9,iv k),(10,iv a)]) [1,4] (fun⟨b,_⟩=>[(0,bB s4),(1,⟨1, .arr (aC (wJ R2 k a b))⟩)]) [0,1] (fun zz=>i-zz.1) ⟨0,Nat.zero_le _,by trivial⟩ ?_ ?_
     ·exact Imp.auto hX (by simp [go_sem,simprocAttr,wJ])
     rintro⟨b,hib,hwb⟩
     simp only [go_sem,simprocAttr]
     rcases Nat.lt_or_ge b i with hb1|hb1
     ·have d3:=aFQ (k:=k) (i:=a) d2 b
      have eJ:wJ R2 k a (b+1)=wS (wJ R2 k a b) k a b:=rfl
      generalize wJ R2 k a b=M at d3 eJ⊢
      obtain⟨dl,dr⟩:=d3
      have da:=dr a ha
      have dk:=dr k hk1
      by_cases h1:mE M a k=1∧mE M k b=1
      ·rw [aPD h1.1 h1.2]at eJ
       unfold mE at h1
       repeat'(first|(refine dG 24 (Imp.open_ 1 a (aC M) [] (.inr ⟨rfl,rfl⟩) (Nat.le_refl 1) (by simp only [go_sem,simprocAttr];omega) rfl (by simp only [go_sem,simprocAttr]) rfl) ?_;simp only [go_sem,simprocAttr])|(refine dG 22 (Imp.closeA 1 3 a (aC M) _ rfl rfl (by decide) (by simp only [go_sem,simprocAttr];omega)) ?_;simp only [go_sem,simprocAttr])|(refine dG 22 (Imp.closeA 1 2 a (aC M) _ rfl rfl (by decide) (by simp only [go_sem,simprocAttr];omega)) ?_;simp only [go_sem,simprocAttr])|(with_reducible first|refine St.f ?_|refine V_c ?_|refine eDn ?_|refine And.intro ?_ ?_|refine aI ?_ ?_|refine aN ?_)|((refine aQ ?_);intro K hK)|((with_reducible refine So.f ?_);intro K hK;simp(contextual:=true)only [go_sem,simprocAttr])|((with_reducible refine hK _ ?_);clear hK K)|(refine fun(hc:(_:Bool)=_)=>?_;try simp only [hcS]at hc))
       all_goals try exact om_
       all_goals try(exfalso;omega)
       refine⟨⟨b+1,by omega,(by(trivial))⟩,by simp only;omega,Imp.auto hX (by simp only [go_sem,simprocAttr,eJ])⟩
      ·rw [aTz h1]at eJ
       unfold mE at h1
       repeat'(first|refine wkQ ?_|refine Tw.f ?_ ?_|(refine fun(hc:(_:Bool)=_)=>?_;try simp only [hcS]at hc))
       all_goals try exact om_
       all_goals try(exfalso;omega)
       all_goals try(exfalso;exact h1 ⟨by assumption,by assumption⟩)
       all_goals(refine⟨⟨b+1,by omega,(by(trivial))⟩,by simp only;omega,Imp.auto hX (by simp only [go_sem,simprocAttr,eJ])⟩)
     ·obtain rfl:b=i:=by omega
      repeat'(first|refine wkQ ?_|refine Tw.f ?_ ?_|(refine fun(hc:(_:Bool)=_)=>?_;try simp only [hcS]at hc))
      all_goals try exact om_
      all_goals try(exfalso;omega)
      refine⟨⟨a+1,by omega,(by(trivial))⟩,by simp only;omega,Imp.auto hX (by simp only [go_sem,simprocAttr,eI])⟩
    ·obtain rfl:a=i:=by omega
     repeat'(first|refine wkQ ?_|refine Tw.f ?_ ?_|(refine fun(hc:(_:Bool)=_)=>?_;try simp only [hcS]at hc))
     all_goals try exact om_
     all_goals try(exfalso;omega)
     refine⟨⟨k+1,by omega,(by(trivial))⟩,by simp only;omega,Imp.auto hX (by simp only [go_sem,simprocAttr,eK])⟩
   ·obtain rfl:k=i:=by omega
    repeat'(first|refine wkQ ?_|refine Tw.f ?_ ?_|(refine fun(hc:(_:Bool)=_)=>?_;try simp only [hcS]at hc))
    all_goals try exact om_
    all_goals try(exfalso;omega)
    (first|refine aB ?_|refine aA ?_);simp only [go_sem,simprocAttr,Tryz.f258]
  )
end Go.Eng
end
