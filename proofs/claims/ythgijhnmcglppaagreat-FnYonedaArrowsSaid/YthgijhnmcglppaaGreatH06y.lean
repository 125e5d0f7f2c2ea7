/- Several texts in one: H06, K06, K07. -/
import Derived.Test.YthgijhnmcglppaaGreatK03y
set_option linter.unusedSimpArgs false
set_option linter.unusedVariables false
set_option maxRecDepth 100000
set_option maxHeartbeats 16000000
section
namespace Go.Eng
open Go Go.Proofs Go.Cats
theorem aOW:SMB nilSM:=by
 have hnil:SFB aGj:=⟨⟨by decide,by decide,by decide,by decide,by decide,by decide,fun f h=>by simp [aGj]at h⟩,by decide,by decide,fun a h=>by simp [aGj]at h⟩
 exact⟨hnil,hnil,by decide,fun a h=>by simp [nilSM]at h⟩
theorem aAU {P:Program} {F:FuncId} {args:List Sv} {y:Value} (h:Spec P F args [] (.tup [.agg [iv 0, .v (.slice none 0 0), .v (.slice none 0 0), .v (.slice none 0 0), .v (.slice none 0 0), .v (.slice none 0 0), .v (.slice none 0 0),iv 0, .v (.slice none 0 0), .v (.slice none 0 0), .v (.slice none 0 0), .v (.slice none 0 0), .v (.slice none 0 0), .v (.slice none 0 0), .v (.slice none 0 0)], .v y]) []):Spec P F args [] (.tup [.agg [iv nilSM.src.shape.ob, .sl 0, .sl 1, .sl 2, .sl 3, .sl 4, .sl 5,iv nilSM.tgt.shape.ob, .sl 6, .sl 7, .sl 8, .sl 9, .sl 10, .sl 11, .sl 12], .v y])
  [(0,⟨1, .arr (ints nilSM.src.shape.fr)⟩),(1,⟨1, .arr (ints nilSM.src.shape.to)⟩),(2,⟨1, .arr (ints nilSM.src.shape.id)⟩),(3,⟨1, .arr (aF nilSM.src.shape.co)⟩),(4,⟨1, .arr (ints nilSM.src.sizes)⟩),(5,⟨1, .arr (aF nilSM.src.acts)⟩),(6,⟨1, .arr (ints nilSM.tgt.shape.fr)⟩),(7,⟨1, .arr (ints nilSM.tgt.shape.to)⟩),(8,⟨1, .arr (ints nilSM.tgt.shape.id)⟩),(9,⟨1, .arr (aF nilSM.tgt.shape.co)⟩),(10,⟨1, .arr (ints nilSM.tgt.sizes)⟩),(11,⟨1, .arr (aF nilSM.tgt.acts)⟩),(12,⟨1, .arr (aF nilSM.parts)⟩)]:=by
 refine Spec.adopt h (dD (dD (dD (iH (dD (iH (dD (dD (dD (iH (dD (iH (iH aBN))))))))))))) fun w S v cn h=>?_
 simp only [Sv.ok,Sv.okL]at h⊢
 obtain⟨vs,rfl,x,r,rfl,⟨us,rfl,hu⟩,hr⟩:=h
 refine⟨_,rfl,_,_,rfl,⟨us,rfl,?_⟩,hr⟩
 obtain⟨x0,r0,rfl,e0,x1,r1,rfl,e1,x2,r2,rfl,e2,x3,r3,rfl,e3,x4,r4,rfl,e4,x5,r5,rfl,e5,x6,r6,rfl,e6,x7,r7,rfl,e7,x8,r8,rfl,e8,x9,r9,rfl,e9,x10,r10,rfl,e10,x11,r11,rfl,e11,x12,r12,rfl,e12,x13,r13,rfl,e13,x14,r14,rfl,e14,e15⟩:=hu
 exact⟨_,_,rfl,e0,_,_,rfl,⟨Nat.le_refl 1,e1⟩,_,_,rfl,⟨Nat.le_refl 1,e2⟩,_,_,rfl,⟨Nat.le_refl 1,e3⟩,_,_,rfl,⟨Nat.le_refl 1,e4⟩,_,_,rfl,⟨Nat.le_refl 1,e5⟩,_,_,rfl,⟨Nat.le_refl 1,e6⟩,_,_,rfl,e7,_,_,rfl,⟨Nat.le_refl 1,e8⟩,_,_,rfl,⟨Nat.le_refl 1,e9⟩,_,_,rfl,⟨Nat.le_refl 1,e10⟩,_,_,rfl,⟨Nat.le_refl 1,e11⟩,_,_,rfl,⟨Nat.le_refl 1,e12⟩,_,_,rfl,⟨Nat.le_refl 1,e13⟩,_,_,rfl,⟨Nat.le_refl 1,e14⟩,e15⟩
end Go.Eng
end
section
namespace Go.Eng
open Go Go.Proofs Go.Cats
attribute [local go_sem] List.set_cons_zero List.set_cons_succ
theorem aAE {c:Cat} {h code:Int} (hb:CatB c) (hA:AC c [h] code) (h0:code≠0):Spec Tryz.prog 37 [cK c,iv h] [] (.tup [.agg [iv 0, .v (.slice none 0 0), .v (.slice none 0 0), .v (.slice none 0 0), .v (.slice none 0 0), .v (.slice none 0 0), .v (.slice none 0 0),iv 0, .v (.slice none 0 0), .v (.slice none 0 0), .v (.slice none 0 0), .v (.slice none 0 0), .v (.slice none 0 0), .v (.slice none 0 0), .v (.slice none 0 0)],iv code]) []:=by
 have hl:[h].length≤1048576:=by simp
 refine aC (E:=TE) 0 Tryz.func37 rfl (by simp [Tryz.f37]) fun X hn hX=>?_
 repeat'(first|refine wkQ ?_|refine Tw.f ?_ ?_|(refine kcQ iF ?_;refine ksQ (a:=fZ (c:=c) (l:=[h]) (code:=code) (by first|omega|assumption|rfl|exact(by assumption:SMB _).src|exact(by assumption:SMB _).tgt) (by first|omega|assumption|rfl|exact(by assumption:SMB _).src|exact(by assumption:SMB _).tgt) (by first|omega|assumption|rfl|exact(by assumption:SMB _).src|exact(by assumption:SMB _).tgt)) (c:=?_))|(refine fun(hc:(_:Bool)=_)=>?_;try simp only [hcS]at hc))
 all_goals try exact om_
 all_goals try((first|refine aB ?_|refine aA ?_);simp only [go_sem,simprocAttr,Tryz.f37])
 all_goals omega
theorem aAF {c:Cat} {h:Int} (hb:CatB c) (s:IsCat c) (h0:0≤h) (h1:h<c.fr.length) (n:¬(c.small (c.T h)∧c.small (c.F h))):Spec Tryz.prog 37 [cK c,iv h] [] (.tup [.agg [iv 0, .v (.slice none 0 0), .v (.slice none 0 0), .v (.slice none 0 0), .v (.slice none 0 0), .v (.slice none 0 0), .v (.slice none 0 0),iv 0, .v (.slice none 0 0), .v (.slice none 0 0), .v (.slice none 0 0), .v (.slice none 0 0), .v (.slice none 0 0), .v (.slice none 0 0), .v (.slice none 0 0)],iv 3]) []:=by
 have hS:=s.toShape
 have tl:=hS.tol
 have hl:[h].length≤1048576:=by simp
 have hw:Within [h] c.fr.length:=fun i hi=>by
  have:i=0:=by simp at hi;omega
  subst this;exact⟨h0,h1⟩
 have hA:AC c [h] 0:= .inr (.inr ⟨s,hw,rfl⟩)
 by_cases hs:c.small (c.T h)
 ·have hR1:=bR (x:=c.T h) hS hb hs
  have hR2:=cB (x:=c.F h) hS hb (fun q=>n ⟨hs,q⟩)
  refine aC (E:=TE) 0 Tryz.func37 rfl (by simp [Tryz.f37]) fun X hn hX=>?_
  repeat'(first|refine wkQ ?_|refine Tw.f ?_ ?_|(refine kcQ iF ?_;refine ksQ (a:=fZ (c:=c) (l:=[h]) (code:=0) (by first|omega|assumption|rfl|exact(by assumption:SMB _).src|exact(by assumption:SMB _).tgt) (by first|omega|assumption|rfl|exact(by assumption:SMB _).src|exact(by assumption:SMB _).tgt) (by first|omega|assumption|rfl|exact(by assumption:SMB _).src|exact(by assumption:SMB _).tgt)) (c:=?_))|(refine kcQ aU ?_;refine kwQ (hR1) [(0,3),(1,4),(2,5),(3,6),(4,7),(5,8)] [0] ?_;clear hR1)|(refine kcQ aU ?_;refine kwQ (hR2) [] [0] ?_)|(refine fun(hc:(_:Bool)=_)=>?_;try simp only [hcS]at hc))
  all_goals try exact om_
  all_goals try(exfalso;omega)
  all_goals((first|refine aB ?_|refine aA ?_);simp only [go_sem,simprocAttr,Tryz.f37])
 ·have hR1:=cB (x:=c.T h) hS hb hs
  by_cases ht:c.small (c.F h)
  ·have hR2:=bR (x:=c.F h) hS hb ht
   refine aC (E:=TE) 0 Tryz.func37 rfl (by simp [Tryz.f37]) fun X hn hX=>?_
   repeat'(first|refine wkQ ?_|refine Tw.f ?_ ?_|(refine kcQ iF ?_;refine ksQ (a:=fZ (c:=c) (l:=[h]) (code:=0) (by first|omega|assumption|rfl|exact(by assumption:SMB _).src|exact(by assumption:SMB _).tgt) (by first|omega|assumption|rfl|exact(by assumption:SMB _).src|exact(by assumption:SMB _).tgt) (by first|omega|assumption|rfl|exact(by assumption:SMB _).src|exact(by assumption:SMB _).tgt)) (c:=?_))|(refine kcQ aU ?_;refine kwQ (hR1) [] [0] ?_;clear hR1)|(refine kcQ aU ?_;refine kwQ (hR2) [(0,4),(1,5),(2,6),(3,7),(4,8),(5,9)] [0] ?_)|(refine fun(hc:(_:Bool)=_)=>?_;try simp only [hcS]at hc))
   all_goals try exact om_
   all_goals try(exfalso;omega)
   all_goals((first|refine aB ?_|refine aA ?_);simp only [go_sem,simprocAttr,Tryz.f37])
  ·have hR2:=cB (x:=c.F h) hS hb ht
   refine aC (E:=TE) 0 Tryz.func37 rfl (by simp [Tryz.f37]) fun X hn hX=>?_
   repeat'(first|refine wkQ ?_|refine Tw.f ?_ ?_|(refine kcQ iF ?_;refine ksQ (a:=fZ (c:=c) (l:=[h]) (code:=0) (by first|omega|assumption|rfl|exact(by assumption:SMB _).src|exact(by assumption:SMB _).tgt) (by first|omega|assumption|rfl|exact(by assumption:SMB _).src|exact(by assumption:SMB _).tgt) (by first|omega|assumption|rfl|exact(by assumption:SMB _).src|exact(by assumption:SMB _).tgt)) (c:=?_))|(refine kcQ aU ?_;refine kwQ (hR1) [] [0] ?_;clear hR1)|(refine kcQ aU ?_;refine kwQ (hR2) [] [0] ?_)|(refine fun(hc:(_:Bool)=_)=>?_;try simp only [hcS]at hc))
   all_goals try exact om_
   all_goals try(exfalso;omega)
   all_goals((first|refine aB ?_|refine aA ?_);simp only [go_sem,simprocAttr,Tryz.f37])
def AmOut (c:Cat) (h:Int) (m:SM) (code:Int):Prop:=(m=nilSM∧((AC c [h] code∧code≠0)∨(IsCat c∧(0≤h∧h<c.fr.length)∧¬(c.small (c.T h)∧c.small (c.F h))∧code=3)))∨(IsCat c∧(0≤h∧h<c.fr.length)∧(c.small (c.T h)∧c.small (c.F h))∧m=arM c h∧code=0)
theorem AmOut.ex (c:Cat) (h:Int):∃m code,AmOut c h m code:=by
 by_cases s:IsCat c
 ·by_cases hr:0≤h∧h<c.fr.length
  ·by_cases n:c.small (c.T h)∧c.small (c.F h)
   ·exact⟨_,_, .inr ⟨s,hr,n,rfl,rfl⟩⟩
   ·exact⟨_,_, .inl ⟨rfl, .inr ⟨s,hr,n,rfl⟩⟩⟩
  ·exact⟨_,_, .inl ⟨rfl, .inl ⟨.inr (.inl ⟨s,fun q=>hr (q 0 (by simp)),rfl⟩),by decide⟩⟩⟩
 ·exact⟨_,_, .inl ⟨rfl, .inl ⟨.inl ⟨s,rfl⟩,by decide⟩⟩⟩
theorem AmOut.b {c:Cat} {h code:Int} {m:SM} (ho:AmOut c h m code) (hb:CatB c):SMB m:=by
 rcases ho with⟨rfl,_⟩|⟨s,_,_,rfl,_⟩
 ·exact aOW
 ·exact aLt s hb
theorem AmOut.zero {c:Cat} {h:Int} {m:SM} (ho:AmOut c h m 0):IsCat c∧(0≤h∧h<c.fr.length)∧(c.small (c.T h)∧c.small (c.F h))∧m=arM c h:=by
 rcases ho with⟨_,⟨_,q⟩|⟨_,_,_,q⟩⟩|⟨s,r,n,e,_⟩
 ·exact absurd rfl q
 ·exact absurd q (by decide)
 ·exact⟨s,r,n,e⟩
theorem AmOut.in_ {c:Cat} {h code:Int} {m:SM} (ho:AmOut c h m code) (s:IsCat c) (hr:0≤h∧h<c.fr.length):code=0∨code=3:=by
 rcases ho with⟨_,⟨q,q2⟩|⟨_,_,_,q⟩⟩|⟨_,_,_,_,e⟩
 ·rcases q with⟨q,_⟩|⟨_,q,_⟩|⟨_,_,q⟩
  ·exact absurd s q
  ·refine absurd (fun i hi=>?_) q
   have:i=0:=by simp at hi;omega
   subst this;exact hr
  ·exact absurd q q2
 ·exact .inr q
 ·exact .inl e
theorem fP {c:Cat} {h code:Int} {m:SM} (hb:CatB c) (ho:AmOut c h m code):Spec Tryz.prog 37 [cK c,iv h] [] (.tup [smO 0 m,iv code]) (smQ 0 m):=by
 rcases ho with⟨rfl,⟨hA,h0⟩|⟨s,hr,n,rfl⟩⟩|⟨s,hr,n,rfl,rfl⟩
 ·exact aAU (aAE hb hA h0)
 ·exact aAU (aAF hb s hr.1 hr.2 n)
 ·exact aAG hb s hr.1 hr.2 n.1 n.2
end Go.Eng
end
section
namespace Go.Eng
open Go Go.Proofs Go.Cats
attribute [local go_sem] List.set_cons_zero List.set_cons_succ aFz aFw
theorem aHN {h n:Int} (k:0≤h∧h<n):Within [h] n:=fun i hi=>by
 have:i=0:=by simp at hi;omega
 subst this;exact k
theorem gI:aD Tryz.prog 38:=⟨_,Tryz.func38,rfl,rfl⟩
theorem sE {c:Cat} {h code:Int} (hb:CatB c) (hA:AC c [h] code) (h0:code≠0):Spec Tryz.prog 38 [cK c,iv h] [] (.tup [.agg [iv 0, .v (.slice none 0 0), .v (.slice none 0 0), .v (.slice none 0 0), .v (.slice none 0 0), .v (.slice none 0 0), .v (.slice none 0 0),iv 0, .v (.slice none 0 0), .v (.slice none 0 0), .v (.slice none 0 0), .v (.slice none 0 0), .v (.slice none 0 0), .v (.slice none 0 0), .v (.slice none 0 0)],iv code]) []:=by
 refine aC (E:=TE) 0 Tryz.func38 rfl (by simp [Tryz.f38]) fun X hn hX=>?_
 rcases hA with⟨n,rfl⟩|⟨s,n,rfl⟩|⟨_,_,rfl⟩
 ·repeat'(first|refine wkQ ?_|refine Tw.f ?_ ?_|(refine kcQ iY ?_;refine krQ (rZ (c:=c) ?_) ?_)|(refine fun(hc:(_:Bool)=_)=>?_;try simp only [hcS]at hc))
  all_goals try exact om_
  all_goals try((first|refine aB ?_|refine aA ?_);simp only [go_sem,simprocAttr,Tryz.f38])
  all_goals exact absurd (by assumption) n
 ·repeat'(first|refine wkQ ?_|refine Tw.f ?_ ?_|(refine kcQ iY ?_;refine krQ (rZ (c:=c) ?_) ?_)|(refine kcQ pF ?_;refine krQ (rY (c:=c) (f:=h)) ?_)|(refine fun(hc:(_:Bool)=_)=>?_;try simp only [hcS]at hc))
  all_goals try exact om_
  ·exact absurd s hc
  ·(first|refine aB ?_|refine aA ?_);simp only [go_sem,simprocAttr,Tryz.f38]
  all_goals exact absurd (aHN hc) n
 ·exact absurd rfl h0
theorem sF {c:Cat} {h:Int} (hb:CatB c) (s:IsCat c) (h0:0≤h) (h1:h<c.fr.length) (n:¬(c.small (c.T h)∧c.small (c.F h))):Spec Tryz.prog 38 [cK c,iv h] [] (.tup [.agg [iv 0, .v (.slice none 0 0), .v (.slice none 0 0), .v (.slice none 0 0), .v (.slice none 0 0), .v (.slice none 0 0), .v (.slice none 0 0),iv 0, .v (.slice none 0 0), .v (.slice none 0 0), .v (.slice none 0 0), .v (.slice none 0 0), .v (.slice none 0 0), .v (.slice none 0 0), .v (.slice none 0 0)],iv 3]) []:=by
 have hS:=s.toShape
 have tl:=hS.tol
 have hr:0≤h∧h<c.fr.length:=⟨h0,h1⟩
 have e1:c.fr.getD h.toNat 0=c.F h:=rfl
 have e2:c.to.getD h.toNat 0=c.T h:=rfl
 have q1:=nT (x:=c.F h) hS
 have q2:=nT (x:=c.T h) hS
 refine aC (E:=TE) 0 Tryz.func38 rfl (by simp [Tryz.f38]) fun X hn hX=>?_
 repeat'(first|refine wkQ ?_|refine Tw.f ?_ ?_|(refine kcQ iY ?_;refine krQ (rZ (c:=c) ?_) ?_)|(refine kcQ pF ?_;refine krQ (rY (c:=c) (f:=h)) ?_)|(refine kcQ lK ?_;refine kwQ (q1) [] [] ?_;clear q1)|(refine kcQ lK ?_;refine kwQ (q2) [] [] ?_)|(refine fun(hc:(_:Bool)=_)=>?_;try simp only [hcS]at hc))
 all_goals try exact om_
 all_goals try(exfalso;omega)
 all_goals try exact absurd s hc
 all_goals try exact absurd hr hc
 all_goals try((first|refine aB ?_|refine aA ?_);simp only [go_sem,simprocAttr,Tryz.f38])
 all_goals exact absurd ⟨by assumption,by assumption⟩ n
theorem sG {c:Cat} {h:Int} (hb:CatB c) (s:IsCat c) (h0:0≤h) (h1:h<c.fr.length) (hs:c.small (c.T h)) (ht:c.small (c.F h)):Spec Tryz.prog 38 [cK c,iv h] [] (.tup [smO 0 (arM c h),iv 0]) (smQ 0 (arM c h)):=by
 have hS:=s.toShape
 have o0:=hS.ob0
 have o8:=hS.ob8
 have m40:=hS.m40
 have tl:=hS.tol
 have cl:=hS.col
 have hM:=aLt (h:=h) s hb
 have hMs:=hM.src
 have hMt:=hM.tgt
 have hMp:=hM.parts
 have hMr:=hM.row
 have hr:0≤h∧h<c.fr.length:=⟨h0,h1⟩
 have e1:c.fr.getD h.toNat 0=c.F h:=rfl
 have e2:c.to.getD h.toNat 0=c.T h:=rfl
 have q1:=nT (x:=c.F h) hS
 have q2:=nT (x:=c.T h) hS
 rw [cV ht]at q1
 rw [cV hs]at q2
 have sp_l19Make_loc:=aIc (f:=c.rep (c.T h)) (g:=c.rep (c.F h)) (p:=arP c h c.ob.toNat) hMs hMt hMp hMr
 refine aC (E:=TE) 0 Tryz.func38 rfl (by simp [Tryz.f38]) fun X hn hX=>?_
 repeat'(first|refine wkQ ?_|refine Tw.f ?_ ?_|(refine kcQ iY ?_;refine krQ (rZ (c:=c) ?_) ?_)|(refine kcQ pF ?_;refine krQ (rY (c:=c) (f:=h)) ?_)|(refine kcQ lK ?_;refine kwQ (q1) [] [] ?_;clear q1)|(refine kcQ lK ?_;refine kwQ (q2) [] [] ?_)|(refine fun(hc:(_:Bool)=_)=>?_;try simp only [hcS]at hc))
 all_goals try exact om_
 all_goals try(exfalso;omega)
 all_goals try exact absurd s hc
 all_goals try exact absurd hr hc
 refine aG (G:={z:Nat//z≤c.ob.toNat∧(True)}) (fun⟨z,_⟩=>[(9,iv z),(8, .sl 2)]) [1,2,4,5,6,7] (fun⟨z,_⟩=>[(2,⟨1, .arr (aF (arP c h z))⟩)]) [2] (fun zz=>c.ob.toNat-zz.1) ⟨0,Nat.zero_le _,by first|trivial|simp⟩ ?_ ?_
 ·exact Imp.au hX
 rintro⟨z,hiz,hwz⟩
 simp only [go_sem,simprocAttr]
 have pl:=pC (c:=c) (h:=h) (n:=z)
 rcases Nat.lt_or_ge z c.ob.toNat with hlz|hgz
 ·have l1:=c.hom_len (c.F h) z
  have l2:=c.hom_len (c.T h) z
  have hA:=mB (c:=c) (x:=c.F h) (y:=(z:Int)) (by omega) tl
  have hB:=mB (c:=c) (x:=c.T h) (y:=(z:Int)) (by omega) tl
  have e3:=aFv (c:=c) (h:=h) (n:=z)
  repeat'(first|refine wkQ ?_|refine Tw.f ?_ ?_|(refine kcQ kE ?_;refine kwQ (hB) [(0,3)] [] ?_;clear hB)|(refine kcQ kE ?_;refine kwQ (hA) [(0,4)] [] ?_)|(refine fun(hc:(_:Bool)=_)=>?_;try simp only [hcS]at hc))
  all_goals try exact om_
  all_goals try(exfalso;omega)
  refine aG (G:={i:Nat//i≤(c.hom (c.T h) z).length∧(True)}) (fun⟨i,_⟩=>[(13,iv i),(12, .sl 5)]) [1,2,4,5,6,7,8,9,10,11] (fun⟨i,_⟩=>[(5,⟨1, .arr (ints (arR c h z i))⟩)]) [5] (fun zz=>(c.hom (c.T h) z).length-zz.1) ⟨0,Nat.zero_le _,by first|trivial|simp⟩ ?_ ?_
  ·exact Imp.au hX
  rintro⟨i,hii,hwi⟩
  simp only [go_sem,simprocAttr]
  have rl:=aIw (c:=c) (h:=h) (z:=z) (i:=i)
  rcases Nat.lt_or_ge i (c.hom (c.T h) z).length with hli|hgi
  ·have e4:=aFy hli
   obtain⟨k0,k1,k2,k3⟩:=Cat.mem_hom.1 (Cat.at_mem hli)
   have r1:=(hS.coe h.toNat (by omega)).1
   have hI:=rX (l:=c.hom (c.F h) z) (n:=c.C h ((c.hom (c.T h) z).getD i 0)) (by omega)
   repeat'(first|refine wkQ ?_|refine Tw.f ?_ ?_|(refine kcQ aAa ?_;refine krQ (aCG (c:=c) ?_ ?_ ?_ ?_) ?_)|(refine kcQ pE ?_;refine kwQ (hI) [] [4] ?_)|(refine fun(hc:(_:Bool)=_)=>?_;try simp only [hcS]at hc))
   all_goals try exact om_
   all_goals try(exfalso;omega)
   refine⟨⟨i+1,by omega,(by trivial)⟩,by simp only;omega,Imp.auto hX (by simp only [go_sem,simprocAttr,e4])⟩
  ·obtain rfl:i=(c.hom (c.T h) z).length:=by omega
   have e4:=aFx c h z
   repeat'(first|refine wkQ ?_|refine Tw.f ?_ ?_|(refine fun(hc:(_:Bool)=_)=>?_;try simp only [hcS]at hc))
   all_goals try exact om_
   all_goals try(exfalso;omega)
   refine⟨⟨z+1,by omega,(by(trivial))⟩,by simp only;omega,Imp.auto hX (by simp only [go_sem,simprocAttr,e3,e4])⟩
 ·obtain rfl:z=c.ob.toNat:=by omega
  repeat'(first|refine wkQ ?_|refine Tw.f ?_ ?_|(refine kcQ aBy ?_;refine krQ (aEg (c:=c) (x:=c.T h) ?_ ?_) ?_)|(refine kcQ aBy ?_;refine krQ (aEg (c:=c) (x:=c.F h) ?_ ?_) ?_)|(refine kcQ aFJ ?_;refine krQ (sp_l19Make_loc) ?_)|(refine fun(hc:(_:Bool)=_)=>?_;try simp only [hcS]at hc))
  all_goals try exact om_
  all_goals try(exfalso;omega)
  (first|refine aB ?_|refine aA ?_);simp only [go_sem,simprocAttr,Tryz.f38]
  all_goals repeat'(first|rfl|constructor)
theorem fK {c:Cat} {h code:Int} {m:SM} (hb:CatB c) (ho:AmOut c h m code):Spec Tryz.prog 38 [cK c,iv h] [] (.tup [smO 0 m,iv code]) (smQ 0 m):=by
 rcases ho with⟨rfl,⟨hA,h0⟩|⟨s,hr,n,rfl⟩⟩|⟨s,hr,n,rfl,rfl⟩
 ·exact aAU (sE hb hA h0)
 ·exact aAU (sF hb s hr.1 hr.2 n)
 ·exact sG hb s hr.1 hr.2 n.1 n.2
end Go.Eng
end
