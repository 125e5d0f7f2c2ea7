/- Several texts in one: Q19, I02, Q25, Q26, EngFm, Q27, P37b. -/
import Derived.Test.YthgijhnmcglppaaGreatKry
import Derived.Test.YthgijhnmcglppaaGreatKcfy
import Derived.Test.YthgijhnmcglppaaGreatEngMny
import Derived.Test.YthgijhnmcglppaaGreatRows
import Derived.JoinedOf
import Derived.ProofKit
set_option linter.unusedSimpArgs false
set_option linter.unusedVariables false
set_option maxRecDepth 100000
set_option maxHeartbeats 16000000
section
namespace Go.Eng
open Go Go.Proofs Go.Cats
attribute [local go_sem] List.set_cons_zero List.set_cons_succ
theorem tU {c d:Cat} {F:List Fun} (sc:IsCat c) (sd:IsCat d) (bc:CatB c) (bd:CatB d) (h:aEq c d 201=F):Spec Tryz.prog 169 [cK c,cK d,iv 201] [] (.sl 0) [(0,⟨1, .arr (bM F)⟩)]:=by
 subst h
 exact aKR (m:=201) sc sd bc bd (by decide) (by decide)
theorem iG:aD Tryz.prog 99:=⟨_,Tryz.func99,rfl,rfl⟩
theorem gO {c d:Cat} {code:Int} (hc:CatB c) (hd:CatB d) (h:CodI c d code) (h0:code≠0):Spec Tryz.prog 99 [cK c,cK d] [] (.tup [.v (.slice none 0 0),iv code]) []:=by
 have hcd:=pZ hc hd h
 refine aC (E:=TE) 0 Tryz.func99 rfl (by simp [Tryz.f99]) fun X hn hX=>?_
 repeat'(first|refine wkQ ?_|refine Tw.f ?_ ?_|(refine kcQ qX ?_;refine kwQ (hcd) [] [] ?_)|(refine fun(hc:(_:Bool)=_)=>?_;try simp only [hcS]at hc))
 all_goals try exact om_
 ·(first|refine aB ?_|refine aA ?_);simp only [go_sem,simprocAttr,Tryz.f99]
theorem lU {c d:Cat} {F:List Fun} (hc:CatB c) (hd:CatB d) (h1:IsCat c) (h2:IsCat d) (h3:c.fr.length≤16∧d.fr.length≤16) (hF:aEq c d 201=F) (h:200<F.length):Spec Tryz.prog 99 [cK c,cK d] [] (.tup [.v (.slice none 0 0),iv 3]) []:=by
 have hcd:=pZ hc hd (.inr (.inr ⟨h1,h2,h3,rfl⟩))
 have hal:=tU h1 h2 hc hd hF
 refine aC (E:=TE) 0 Tryz.func99 rfl (by simp [Tryz.f99]) fun X hn hX=>?_
 repeat'(first|refine wkQ ?_|refine Tw.f ?_ ?_|(refine kcQ qX ?_;refine kwQ (hcd) [] [] ?_)|(refine kcQ aBx ?_;refine kwQ (hal) [(0,2)] [] ?_)|(refine fun(hc:(_:Bool)=_)=>?_;try simp only [hcS]at hc))
 all_goals try exact om_
 ·(first|refine aB ?_|refine aA ?_);simp only [go_sem,simprocAttr,Tryz.f99]
theorem gW {c d:Cat} {F:List Fun} (hc:CatB c) (hd:CatB d) (h1:IsCat c) (h2:IsCat d) (h3:c.fr.length≤16∧d.fr.length≤16) (hF:aEq c d 201=F) (h:F.length≤200):Spec Tryz.prog 99 [cK c,cK d] [] (.tup [.sl 0,iv 0]) [(0,⟨1, .arr (bM F)⟩)]:=by
 have hcd:=pZ hc hd (.inr (.inr ⟨h1,h2,h3,rfl⟩))
 have hal:=tU h1 h2 hc hd hF
 refine aC (E:=TE) 0 Tryz.func99 rfl (by simp [Tryz.f99]) fun X hn hX=>?_
 repeat'(first|refine wkQ ?_|refine Tw.f ?_ ?_|(refine kcQ qX ?_;refine kwQ (hcd) [] [] ?_)|(refine kcQ aBx ?_;refine kwQ (hal) [(0,2)] [] ?_)|(refine fun(hc:(_:Bool)=_)=>?_;try simp only [hcS]at hc))
 all_goals try exact om_
 ·(first|refine aB ?_|refine aA ?_);simp only [go_sem,simprocAttr,Tryz.f99]
theorem mX {c d:Cat} {F:List Fun} {code:Int} (hc:CatB c) (hd:CatB d) (h:AOut c d F code):Spec Tryz.prog 99 [cK c,cK d] [] (.tup [.sl 0,iv code]) [(0,⟨1, .arr (bM F)⟩)]:=by
 rcases h with⟨h,rfl,rfl⟩|⟨h1,h2,h,rfl,rfl⟩|⟨h1,h2,h3,⟨h,rfl,rfl⟩|⟨e1,e2,h,rfl,rfl⟩|⟨e1,e2,h,rfl,rfl⟩⟩
 ·exact pB (gO hc hd (.inl ⟨h,rfl⟩) (by decide))
 ·exact pB (gO hc hd (.inr (.inl ⟨h1,h2,h,rfl⟩)) (by decide))
 ·exact gW hc hd h1 h2 h3 (by rw [aEq,if_neg h]) (Nat.zero_le _)
 ·exact pB (lU (F:=(cZ c d true c.ob.toNat []).take 201) hc hd h1 h2 h3 (by rw [aEq,if_pos ⟨e1,e2⟩]) (by rw [List.length_take];omega))
 ·exact gW hc hd h1 h2 h3 (by rw [aEq,if_pos ⟨e1,e2⟩,List.take_of_length_le (by omega)]) h
theorem tC:aD Tryz.prog 25:=⟨_,Tryz.func25,rfl,rfl⟩
theorem qK {c d:Cat} {F:List Fun} {code:Int} (hc:CatB c) (hd:CatB d) (h:AOut c d F code):Spec Tryz.prog 25 [cK c,cK d] [] (.tup [.sl 0,iv code]) [(0,⟨1, .arr (bM F)⟩)]:=by
 have hiso:=kQ hc hd h
 refine aC (E:=TE) 0 Tryz.func25 rfl (by simp [Tryz.f25]) fun X hn hX=>?_
 repeat'(first|refine wkQ ?_|refine Tw.f ?_ ?_|(refine kcQ nK ?_;refine kwQ (hiso) [(0,2)] [0,1] ?_)|(refine fun(hc:(_:Bool)=_)=>?_;try simp only [hcS]at hc))
 all_goals try exact om_
 ·(first|refine aB ?_|refine aA ?_);simp only [go_sem,simprocAttr,Tryz.f25]
end Go.Eng
end
section
namespace Go.Eng
open Go Go.Proofs Go.Cats
attribute [local go_sem] List.set_cons_zero List.set_cons_succ
theorem _root_.Go.Cats.AOut.nil {c d:Cat} {F:List Fun} {code:Int} (h:AOut c d F code) (h0:code≠0):F=[]:=by
 rcases h with⟨_,h,_⟩|⟨_,_,_,h,_⟩|⟨_,_,_,⟨_,h,_⟩|⟨_,_,_,h,_⟩|⟨_,_,_,_,h⟩⟩
 ·exact h
 ·exact h
 ·exact h
 ·exact h
 ·exact absurd h h0
theorem _root_.Go.Cats.AOut.len {c d:Cat} {F:List Fun} {code:Int} (h:AOut c d F code):F.length≤200:=by
 rcases h with⟨_,h,_⟩|⟨_,_,_,h,_⟩|⟨_,_,_,⟨_,h,_⟩|⟨_,_,_,h,_⟩|⟨_,_,h,h2,_⟩⟩
 ·rw [h];exact Nat.zero_le _
 ·rw [h];exact Nat.zero_le _
 ·rw [h];exact Nat.zero_le _
 ·rw [h];exact Nat.zero_le _
 ·rw [h2];exact h
theorem jK:aD Tryz.prog 23:=⟨_,Tryz.func23,rfl,rfl⟩
theorem iJ {c:Cat} {F:List Fun} {code:Int} (hc:CatB c) (h:AOut c c F code):Spec Tryz.prog 23 [cK c] [] (.tup [iv F.length,iv code]) []:=by
 refine aC (E:=TE) 0 Tryz.func23 rfl (by simp [Tryz.f23]) fun X hn hX=>?_
 have hiso:=kQ hc hc h
 have hl:=h.len
 repeat'(first|refine wkQ ?_|refine Tw.f ?_ ?_|(refine kcQ nK ?_;refine kwQ (hiso) [(0,1)] [0] ?_)|(refine fun(hc:(_:Bool)=_)=>?_;try simp only [hcS]at hc))
 all_goals try exact om_
 (first|refine aB ?_|refine aA ?_);simp only [go_sem,simprocAttr,Tryz.f23]
theorem gJ:aD Tryz.prog 24:=⟨_,Tryz.func24,rfl,rfl⟩
theorem fT {c:Cat} {F:List Fun} {code:Int} (hc:CatB c) (h:AOut c c F code):Spec Tryz.prog 24 [cK c] [] (.tup [iv F.length,iv code]) []:=by
 refine aC (E:=TE) 0 Tryz.func24 rfl (by simp [Tryz.f24]) fun X hn hX=>?_
 have hal:=mX hc hc h
 have hl:=h.len
 by_cases h0:code=0
 ·subst h0
  repeat'(first|refine wkQ ?_|refine Tw.f ?_ ?_|(refine kcQ iG ?_;refine kwQ (hal) [(0,1)] [] ?_)|(refine fun(hc:(_:Bool)=_)=>?_;try simp only [hcS]at hc))
  all_goals try exact om_
  (first|refine aB ?_|refine aA ?_);simp only [go_sem,simprocAttr,Tryz.f24]
 ·have hF:=h.nil h0
  subst hF
  repeat'(first|refine wkQ ?_|refine Tw.f ?_ ?_|(refine kcQ iG ?_;refine kwQ (hal) [(0,1)] [] ?_)|(refine fun(hc:(_:Bool)=_)=>?_;try simp only [hcS]at hc))
  all_goals try exact om_
  all_goals first|(exact absurd (by assumption) h0)|skip
  (first|refine aB ?_|refine aA ?_);simp only [go_sem,simprocAttr,Tryz.f24]
def aBr (l:List Int):Cat:=(jZ (from_ l) 5 14).1
theorem aJL {l:List Int} (h:CodeOk l):CatB (aBr l):=(aBK h.src (by decide) (by decide) (by decide) (by decide)).2
theorem fG:aD Tryz.prog 22:=⟨_,Tryz.func22,rfl,rfl⟩
theorem kM {l:List Int} (h:CodeOk l):Spec Tryz.prog 22 [.bor [] (bys l)] [] (aLJ 0 (aBr l)) (aOp 0 (aBr l)):=by
 refine aC (E:=TE) 0 Tryz.func22 rfl (by simp [Tryz.f22]) fun X hn hX=>?_
 have hF:=aCt (l:=l) h.len
 have hD:=aCv (o:=5) (m:=14) h.src (by decide) (by decide) (by decide) (by decide)
 have e:aBr l=(jZ (from_ l) 5 14).1:=rfl
 rw [e]
 clear e
 generalize jZ (from_ l) 5 14=d at hD⊢
 obtain⟨c,t⟩:=d
 simp only at hD⊢
 repeat'(first|refine wkQ ?_|refine Tw.f ?_ ?_|(refine kcQ zW ?_;refine kwQ (hF) [(0,1)] [] ?_)|(refine kcQ zY ?_;refine kwQ (hD) [(0,1),(1,2),(2,3),(3,4),(4,5)] [] ?_)|(refine fun(hc:(_:Bool)=_)=>?_;try simp only [hcS]at hc))
 all_goals try exact om_
 (first|refine aB ?_|refine aA ?_);simp only [go_sem,simprocAttr,Tryz.f22]
end Go.Eng
end
section
namespace Go.Eng
open Go Go.Proofs Go.Cats
attribute [local go_sem] List.set_cons_zero List.set_cons_succ aDr
theorem aOR:MapN Tryz.prog 318 2 2:=⟨Tryz.underlying318,Tryz.underlying2,Tryz.underlying2,fun w=>by
 have h1:(Tryz.prog.info? 2).bind (·.zero)=some (.int .i64 0):=by
  show(Tryz.prog.types[2]?).bind (·.zero)=_
  rw [Tryz.type2];rfl
 cases h2:Tryz.prog.info? 2 with
 |none=>rw [h2]at h1;cases h1
 |some i=>
  rw [h2]at h1
  have h3:i.zero=some (.int .i64 0):=h1
  simp [zeroValue,typeInfo,h2,h3]⟩
theorem aEQ {A:List Int} {n i:Nat} {v:Int} (hA:A.length=i) (h:i<n):(A++List.replicate (n-i) 0).set i v=(A++[v])++List.replicate (n-(i+1)) 0:=by
 rw [List.set_append_right _ _ (by omega),hA,Nat.sub_self,show n-i=(n-(i+1))+1 by omega,List.replicate_succ,List.set_cons_zero,List.append_assoc]
 rfl
theorem aHn:aD Tryz.prog 200:=⟨_,Tryz.func200,rfl,rfl⟩
theorem aKU {l:List Int} (hl:l.length≤1048576) (hr:∀i,i<l.length→inR (l.getD i 0)):Spec Tryz.prog 200 [.bor [] (ints l)] [] (.sl 0) [(0,⟨1, .arr (ints (clsI l l.length).1)⟩)]:=by
 refine aC (E:=TE) 0 Tryz.func200 rfl (by simp [Tryz.f200]) fun X hn hX=>?_
 repeat'(first|(with_reducible first|refine St.f ?_|refine V_c ?_|refine And.intro ?_ ?_|refine aJ ?_ ?_|refine aO ?_)|((refine aV ?_);intro K hK)|((with_reducible refine So.f ?_);intro K hK;simp(contextual:=true)only [go_sem,simprocAttr])|((with_reducible refine hK _ ?_);clear hK K)|(refine aHA (k:=2) (e:=2) (by simp only [go_sem,simprocAttr]) ?_;simp only [go_sem,simprocAttr])|(refine fun(hc:(_:Bool)=_)=>?_;try simp only [hcS]at hc))
 all_goals try exact om_
 refine aG (G:={i:Nat//i≤l.length∧(True)}) (fun⟨i,_⟩=>[(15,iv i),(3, .sl 0),(4, .sl 1)]) [2,13,14] (fun⟨i,_⟩=>[(0,⟨1, .arr (uR TE.P 2 2 (clsI l i).2)⟩),(1,⟨1, .arr (ints ((clsI l i).1++List.replicate (l.length-i) 0))⟩)]) [0,1] (fun zz=>l.length-zz.1) ⟨0,Nat.zero_le _,by first|trivial|simp⟩ ?_ ?_
 ·exact Imp.au hX
 rintro⟨i,hii,hwi⟩
 simp only [go_sem,simprocAttr]
 obtain⟨f1,f2,_⟩:=mI l i
 have fl:((clsI l i).1++List.replicate (l.length-i) 0).length=l.length:=by rw [List.length_append,List.length_replicate];omega
 rcases Nat.lt_or_ge i l.length with hlt|hge
 ·have hri:=hr i hlt
  have hml:(clsI l i).2.length<maxLen:=by unfold maxLen;omega
  by_cases q:idxOf (clsI l i).2 (l.getD i 0)<0
  ·have e1:=wB q
   have hd1:decide (0≤idxOf (clsI l i).2 (l.getD i 0))=false:=decide_eq_false (by omega)
   have hs:=aEQ (v:=((clsI l i).2.length:Int)) f1 hlt
   repeat'(first|((refine oF (id:=8) (by rw [hn];rfl) ?_);intro K hK)|(refine rB ?_;intro K hK;refine aJ7 (k:=2) (e:=2) (i:=0) (cv:=1) (S:=(clsI l i).2) aOR (by simp only [go_sem,simprocAttr]) rfl ?_;simp only [go_sem,simprocAttr])|((with_reducible refine rC ?_);intro K hK;simp(contextual:=true)only [go_sem,simprocAttr])|(with_reducible refine mL ?_)|(with_reducible first|refine St.f ?_|refine V_c ?_|refine And.intro ?_ ?_|refine aJ ?_ ?_|refine aO ?_)|((refine aV ?_);intro K hK)|((with_reducible refine So.f ?_);intro K hK;simp(contextual:=true)only [go_sem,simprocAttr])|((with_reducible refine hK _ ?_);clear hK K)|(refine aBY (i:=0) (cv:=1) (S:=(clsI l i).2) (v:=l.getD i 0) aOR (by simp only [go_sem,simprocAttr]) rfl (by simp only [go_sem,simprocAttr]) hri ?_;rw [hd1];simp only [go_sem,simprocAttr])|(refine aJ8 (i:=0) (cv:=1) (S:=(clsI l i).2) (y:=l.getD i 0) aOR rfl (by simp only [go_sem,simprocAttr]) rfl (by simp only [go_sem,simprocAttr]) hri (by simp only [go_sem,simprocAttr]) hml q ?_;simp only [go_sem,simprocAttr])|(refine fun(hc:(_:Bool)=_)=>?_;try simp only [hcS]at hc))
   all_goals try exact om_
   ·refine⟨⟨i+1,by omega,(by trivial)⟩,by simp only;omega,Imp.auto hX (by simp only [go_sem,simprocAttr,e1,hs])⟩
  ·have e1:=wC q
   have q0:0≤idxOf (clsI l i).2 (l.getD i 0):=by omega
   have hd1:decide (0≤idxOf (clsI l i).2 (l.getD i 0))=true:=decide_eq_true q0
   have hs:=aEQ (v:=idxOf (clsI l i).2 (l.getD i 0)) f1 hlt
   repeat'(first|(with_reducible first|refine St.f ?_|refine V_c ?_|refine And.intro ?_ ?_|refine aJ ?_ ?_|refine aO ?_)|((refine aV ?_);intro K hK)|((with_reducible refine So.f ?_);intro K hK;simp(contextual:=true)only [go_sem,simprocAttr])|((with_reducible refine hK _ ?_);clear hK K)|(refine aBY (i:=0) (cv:=1) (S:=(clsI l i).2) (v:=l.getD i 0) aOR (by simp only [go_sem,simprocAttr]) rfl (by simp only [go_sem,simprocAttr]) hri ?_;rw [hd1,if_pos q0];simp only [go_sem,simprocAttr])|(refine fun(hc:(_:Bool)=_)=>?_;try simp only [hcS]at hc))
   all_goals try exact om_
   ·refine⟨⟨i+1,by omega,(by trivial)⟩,by simp only;omega,Imp.auto hX (by simp only [go_sem,simprocAttr,e1,hs])⟩
 ·have ei:i=l.length:=by omega
  subst ei
  rw [Nat.sub_self,List.replicate_zero,List.append_nil]
  repeat'(first|(with_reducible first|refine St.f ?_|refine V_c ?_|refine And.intro ?_ ?_|refine aJ ?_ ?_|refine aO ?_)|((refine aV ?_);intro K hK)|((with_reducible refine So.f ?_);intro K hK;simp(contextual:=true)only [go_sem,simprocAttr])|((with_reducible refine hK _ ?_);clear hK K)|(refine fun(hc:(_:Bool)=_)=>?_;try simp only [hcS]at hc))
  all_goals try exact om_
  ·(first|refine aB ?_|refine aA ?_);simp only [go_sem,simprocAttr,Tryz.f200]
end Go.Eng
end
section
namespace Go.Eng
open Go Go.Proofs Go.Cats
attribute [local go_sem] List.set_cons_zero List.set_cons_succ
def rtL (J:List Int) (n:Nat):List Int:=(List.range n).map fun x=>(rt J x:Int)
@[go_sem] theorem aUJ (J:List Int):rtL J 0=[]:=rfl
theorem aPm (J:List Int) (n:Nat):(rtL J n).length=n:=by simp [rtL]
theorem aNk (J:List Int) (n:Nat):rtL J (n+1)=rtL J n++[(rt J n:Int)]:=by simp [rtL,List.range_succ]
theorem aRE {J:List Int} {n i:Nat} (h:i<n):(rtL J n).getD i 0=rt J i:=by
 unfold rtL
 rw [List.getD_eq_getElem?_getD,List.getElem?_map,List.getElem?_range h];rfl
@[go_sem] theorem aT8 (J:List Int):lbN J 0=J:=rfl
theorem qW:aD Tryz.prog 102:=⟨_,Tryz.func102,rfl,rfl⟩
theorem tK {J:List Int} (hu:UF J) (hl:J.length≤1048576):Spec Tryz.prog 102 [.sl 0] [(0,⟨1, .arr (ints J)⟩)] (.sl 1) [(0,⟨1, .arr (ints (lbN J J.length))⟩),(1,⟨1, .arr (ints (clsI (rtL J J.length) J.length).1)⟩)]:=by
 refine aC (E:=TE) 1 Tryz.func102 rfl (by simp [Tryz.f102]) fun X hn hX=>?_
 repeat'(first|refine wkQ ?_|refine Tw.f ?_ ?_|(refine fun(hc:(_:Bool)=_)=>?_;try simp only [hcS]at hc))
 all_goals try exact om_
 refine aG (G:={i:Nat//i≤J.length∧(True)}) (fun⟨i,_⟩=>[(10,iv i),(3, .sl 1)]) [0,2,9] (fun⟨i,_⟩=>[(0,⟨1, .arr (ints (lbN J i))⟩),(1,⟨1, .arr (ints (rtL J i++List.replicate (J.length-i) 0))⟩)]) [0,1] (fun zz=>J.length-zz.1) ⟨0,Nat.zero_le _,by first|trivial|simp⟩ ?_ ?_
 ·exact Imp.au hX
 rintro⟨i,hii,hwi⟩
 simp only [go_sem,simprocAttr]
 obtain⟨u1,u2,u3⟩:=aMt hu i (by omega)
 have rl:=aPm J i
 have fl:(rtL J i++List.replicate (J.length-i) 0).length=J.length:=by rw [List.length_append,List.length_replicate];omega
 rcases Nat.lt_or_ge i J.length with hlt|hge
 ·have hroot:=mW (J:=lbN J i) (x:=i) u1 (by omega) (by omega)
  rw [u3 hlt]at hroot
  have e1:=aNk J i
  have e2:lbN J (i+1)=hv (lbN J i) i:=rfl
  have hs:=aEQ (v:=(rt J i:Int)) rl hlt
  repeat'(first|refine wkQ ?_|refine Tw.f ?_ ?_|(refine kcQ kY ?_;refine kwQ (hroot) [(0,0)] [] ?_)|(refine fun(hc:(_:Bool)=_)=>?_;try simp only [hcS]at hc))
  all_goals try exact om_
  ·refine⟨⟨i+1,by omega,(by trivial)⟩,by simp only;omega,Imp.auto hX (by simp only [go_sem,simprocAttr,e1,e2,hs])⟩
 ·have ei:i=J.length:=by omega
  subst ei
  rw [Nat.sub_self,List.replicate_zero,List.append_nil]
  have hnr:∀i,i<(rtL J J.length).length→inR ((rtL J J.length).getD i 0):=fun i hi=>by
   rw [rl]at hi
   rw [aRE hi]
   have:=aEd hu hi
   unfold inR;omega
  have hnm:=aKU (l:=rtL J J.length) (by omega) hnr
  rw [rl]at hnm
  repeat'(first|refine wkQ ?_|refine Tw.f ?_ ?_|(refine kcQ aHn ?_;refine kwQ (hnm) [(0,2)] [1] ?_)|(refine fun(hc:(_:Bool)=_)=>?_;try simp only [hcS]at hc))
  all_goals try exact om_
  ·(first|refine aB ?_|refine aA ?_);simp only [go_sem,simprocAttr,Tryz.f102]
theorem aEx:aD Tryz.prog 100:=⟨_,Tryz.func100,rfl,rfl⟩
theorem aGQ {n:Nat} (h:n≤1048576):Spec Tryz.prog 100 [iv n] [] (.sl 0) [(0,⟨1, .arr (ints (nums n))⟩)]:=by
 refine aC (E:=TE) 0 Tryz.func100 rfl (by simp [Tryz.f100]) fun X hn hX=>?_
 repeat'(first|refine wkQ ?_|refine Tw.f ?_ ?_|(refine kcQ aFK ?_;refine krQ (aId ?_) ?_)|(refine fun(hc:(_:Bool)=_)=>?_;try simp only [hcS]at hc))
 all_goals try exact om_
 ·(first|refine aB ?_|refine aA ?_);simp only [go_sem,simprocAttr,Tryz.f100]
end Go.Eng
end
section
namespace Go.Eng
open Go Go.Cats
section
variable {A B:List Fun} {cs:List Dt} {k:Nat} {e:Dt}
variable {X:Cx} {tm:List (Nat×Sv)} {rs:List (Nat×Rs)} {nx:Nat}
end
section
variable {a0 a1 a2 a3 a4 a5 a6 a7 a8 a9 a10 a11:Dt} {A B:List Fun} {e:Dt}
@[go_sem] theorem bA8 (n:Nat):n*12+0=n*12:=rfl
@[go_sem] theorem aZJ (n:Nat):n*12+5+1=n*12+6:=rfl
@[go_sem] theorem aZK (n:Nat):n*12+5+2=n*12+7:=rfl
@[go_sem] theorem aZL (n:Nat):n*12+5+3=n*12+8:=rfl
@[go_sem] theorem aZM (n:Nat):n*12+5+4=n*12+9:=rfl
@[go_sem] theorem aZI (n:Nat):n*12+5+0=n*12+5:=rfl
end
end Go.Eng
end
section
namespace Go.Eng
open Go Go.Proofs Go.Cats
attribute [local go_sem] List.set_cons_zero List.set_cons_succ
def aAA (f:Fun):Nat→List (List Int)
 |0=>[]
 |k+1=>aAA f k++[[(k:Int),f.obs.getD k 0]]
@[go_sem] theorem aSL (f:Fun):aAA f 0=[]:=rfl
theorem wZ (f:Fun):∀k,(aAA f k).length=k
 |0=>rfl
 |k+1=>by rw [aAA,List.length_append,wZ f k];rfl
def lP (F:List Fun):Nat→List (List Int)
 |0=>[]
 |i+1=>lP F i++aAA (F.getD i default) (F.getD i default).obs.length
@[go_sem] theorem aSM (F:List Fun):lP F 0=[]:=rfl
theorem aB3 (F:List Fun) {n:Nat} (h:∀f∈F,f.obs.length=n):∀i,i≤F.length→(lP F i).length=i*n
 |0,_=>by simp [lP]
 |i+1,hi=>by
  rw [lP,List.length_append,aB3 F h i (by omega),wZ,h _ (aX (by omega)),Nat.add_mul,Nat.one_mul]
theorem aGm {f:Fun} {r:List Int}:∀{k:Nat},r∈aAA f k→∃x,x<k∧r=[(x:Int),f.obs.getD x 0]
 |0,h=>absurd h List.not_mem_nil
 |k+1,h=>by
  rw [aAA]at h
  rcases List.mem_append.1 h with h|h
  ·obtain⟨x,hx,e⟩:=aGm h;exact⟨x,by omega,e⟩
  ·exact⟨k,by omega,List.mem_singleton.1 h⟩
theorem aGo {F:List Fun} {r:List Int}:∀{i:Nat},i≤F.length→r∈lP F i→∃f∈F,∃x,x<f.obs.length∧r=[(x:Int),f.obs.getD x 0]
 |0,_,h=>absurd h List.not_mem_nil
 |i+1,hi,h=>by
  rw [lP]at h
  rcases List.mem_append.1 h with h|h
  ·exact aGo (by omega) h
  ·obtain⟨x,hx,e⟩:=aGm h;exact⟨_,aX (by omega),x,hx,e⟩
theorem aI0 {F:List Fun} {n:Nat} (h:∀f∈F,f.obs.length=n) (h2:∀f∈F,∀x,x<n→0≤f.obs.getD x 0∧f.obs.getD x 0<n):aFs n (lP F F.length):=fun k hk=>by
 obtain⟨f,hf,x,hx,e⟩:=aGo (Nat.le_refl _) (aX (d:=[]) hk)
 rw [h f hf]at hx
 rw [e]
 have:=h2 f hf x hx
 exact⟨rfl,⟨by simp,by simp;exact hx⟩,by simp;exact this.1,by simp;exact this.2⟩
end Go.Eng
end
section
namespace Go.Proofs.YthgijhnmcglppaaGreat
open Go Go.Eng Go.Cats Go.ChangeShapes Go.WideShapes Go.RowKit
theorem aJR:joinedFacts Tryz.pinned.checked.prog 4 Tryz.f4 Rows.fnAutomorphismGroupsSpec Rows.fnAutomorphismGroupsRow=true:=by
 unfold joinedFacts
 simp only [Bool.and_eq_true]
 repeat' with_reducible apply And.intro
 all_goals(as_aux_lemma=>kernel_rfl)
end Go.Proofs.YthgijhnmcglppaaGreat
end
