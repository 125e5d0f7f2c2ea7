/- Several texts in one: Q15, Q16, Q18. -/
import Derived.Test.YthgijhnmcglppaaGreatQ14q
set_option linter.unusedSimpArgs false
set_option linter.unusedVariables false
set_option maxRecDepth 100000
set_option maxHeartbeats 16000000
section
namespace Go.Eng
open Go Go.Proofs Go.Cats
attribute [local go_sem] List.set_cons_zero List.set_cons_succ
theorem aDs {c d:Cat}:∀{k:Nat} {cc dd:List Int} {n:Nat},cc.length=c.fr.length→(rA c d k cc dd n).1.length=c.fr.length
 |0,_,_,_,h=>h
 |k+1,_,_,_,h=>by
  rw [rA]
  split
  ·exact aBE
  ·exact aDs aBE
theorem aDt {c d:Cat}:∀{k:Nat} {cc dd:List Int} {n:Nat},dd.length=d.fr.length→(rA c d k cc dd n).2.length=d.fr.length
 |0,_,_,_,h=>h
 |k+1,_,_,_,h=>by
  rw [rA]
  split
  ·exact aBF
  ·exact aDt aBF
noncomputable def aEq (c d:Cat) (m:Nat):List Fun:=if c.ob=d.ob∧c.fr.length=d.fr.length then(cZ c d true c.ob.toNat []).take m else []
theorem aBx:aD Tryz.prog 169:=⟨_,Tryz.func169,rfl,rfl⟩
theorem aKR {c d:Cat} {m:Nat} (sc:IsCat c) (sd:IsCat d) (bc:CatB c) (bd:CatB d) (hm:0<m) (hm2:m≤4096):Spec Tryz.prog 169 [cK c,cK d,iv m] [] (.sl 0) [(0,⟨1, .arr (bM (aEq c d m))⟩)]:=by
 have m40:=sc.toShape.m40
 have n40:=sd.toShape.m40
 have c0:=sc.toShape.ob0
 by_cases he:c.ob=d.ob∧c.fr.length=d.fr.length
 ·obtain⟨ho,ha⟩:=he
  rw [aEq,if_pos ⟨ho,ha⟩]
  have hcol:=aDc sc.toShape sd.toShape
  have hk:=aQb (k:=c.fr.length+d.fr.length+1) (n:=0) (aT4 (c:=c) (d:=d))
  have h1:=aDs (c:=c) (d:=d) (k:=c.fr.length+d.fr.length+1) (cc:=iN c) (dd:=iN d) (n:=0) (by simp [iN])
  have h2:=aDt (c:=c) (d:=d) (k:=c.fr.length+d.fr.length+1) (cc:=iN c) (dd:=iN d) (n:=0) (by simp [iN])
  generalize rA c d (c.fr.length+d.fr.length+1) (iN c) (iN d) 0=R at *
  obtain⟨cc,dd⟩:=R
  simp only at hcol hk h1 h2
  cases hv:dec (qN cc dd)with
  |true=>
   rw [hv]at hcol
   have hrun:=qG (cc:=cc) (dd:=dd) sc sd bc bd ho ha hk h1 h2 hm2 c.ob.toNat [] [] (by simp;omega) (by simp [Within]) (by simp [NdI]) (by simpa using hm)
   rw [List.nil_append]at hrun
   refine aC (E:=TE) 0 Tryz.func169 rfl (by simp [Tryz.f169]) fun X hn hX=>?_
   repeat'(first|(refine dM 8 (Imp.closeB 3 2 13 _ _ rfl rfl rfl (by decide)) ?_;simp only [go_sem,simprocAttr])|(refine dM 9 (Imp.openB 3 13 _ _ rfl (Nat.succ_le_succ (Nat.zero_le _)) rfl rfl) ?_;simp only [go_sem,simprocAttr])|(with_reducible first|refine St.f ?_|refine V_c ?_|refine And.intro ?_ ?_|refine aJ ?_ ?_)|((refine aV ?_);intro K hK)|((with_reducible refine So.f ?_);intro K hK;simp(contextual:=true)only [go_sem,simprocAttr])|((with_reducible refine hK _ ?_);clear hK K)|((with_reducible refine aE 256 ?_);refine EvCall.mr (hcol) qY [(0,4),(1,5)] [] ?_)|((with_reducible refine aE 257 ?_);refine EvCall.mr (hrun) qZ [(0,3),(1,4),(2,5),(3,6)] [] ?_)|(refine fun(hc:(_:Bool)=_)=>?_;try simp only [hcS]at hc))
   all_goals try exact om_
   all_goals first|(exact absurd ho (by assumption))|(exfalso;omega)|skip
   (first|refine aB ?_|refine aA ?_);simp only [go_sem,simprocAttr,Tryz.f169]
  |false=>
   rw [hv]at hcol
   have hne:¬qN cc dd:=fun h=>by rw [cV h]at hv;cases hv
   rw [aLp sc sd ho ha hk h1 h2 hne,List.take_nil]
   refine aC (E:=TE) 0 Tryz.func169 rfl (by simp [Tryz.f169]) fun X hn hX=>?_
   repeat'(first|refine wkQ ?_|refine Tw.f ?_ ?_|(refine kcQ qY ?_;refine kwQ (hcol) [(0,4),(1,5)] [] ?_)|(refine fun(hc:(_:Bool)=_)=>?_;try simp only [hcS]at hc))
   all_goals try exact om_
   all_goals first|(exact absurd ho (by assumption))|(exfalso;omega)|skip
   (first|refine aB ?_|refine aA ?_);simp only [go_sem,simprocAttr,Tryz.f169]
 ·rw [aEq,if_neg he]
  refine aC (E:=TE) 0 Tryz.func169 rfl (by simp [Tryz.f169]) fun X hn hX=>?_
  repeat'(first|refine wkQ ?_|refine Tw.f ?_ ?_|(refine fun(hc:(_:Bool)=_)=>?_;try simp only [hcS]at hc))
  all_goals try exact om_
  all_goals first|(exact absurd ⟨by assumption,by omega⟩ he)|skip
  all_goals((first|refine aB ?_|refine aA ?_);simp only [go_sem,simprocAttr,Tryz.f169])
end Go.Eng
end
section
namespace Go.Eng
open Go Go.Proofs Go.Cats
attribute [local go_sem] List.set_cons_zero List.set_cons_succ
theorem pW {c:Cat} {v:Bool} (hb:CatB c) (h:dec (IsCat c)=v):Spec Tryz.prog 85 [cK c] [] (bv v) []:=by
 subst h
 exact rZ hb
def _root_.Go.Cats.CodI (c d:Cat) (code:Int):Prop:=(¬(IsCat c∧IsCat d)∧code=1)∨(IsCat c∧IsCat d∧¬(c.fr.length≤16∧d.fr.length≤16)∧code=3)∨(IsCat c∧IsCat d∧(c.fr.length≤16∧d.fr.length≤16)∧code=0)
theorem qX:aD Tryz.prog 168:=⟨_,Tryz.func168,rfl,rfl⟩
theorem pZ {c d:Cat} {code:Int} (bc:CatB c) (bd:CatB d) (h:CodI c d code):Spec Tryz.prog 168 [cK c,cK d] [] (iv code) []:=by
 rcases h with⟨h,rfl⟩|⟨h1,h2,h,rfl⟩|⟨h1,h2,⟨h3,h4⟩,rfl⟩
 ·by_cases h1:IsCat c
  ·have v1:=cV h1
   have v2:=iZ fun h2:IsCat d=>h ⟨h1,h2⟩
   refine aC (E:=TE) 0 Tryz.func168 rfl (by simp [Tryz.f168]) fun X hn hX=>?_
   repeat'(first|refine wkQ ?_|refine Tw.f ?_ ?_|(refine kcQ iY ?_;refine ksQ (a:=pW (by first|omega|assumption|rfl) (by first|omega|assumption|rfl)) (c:=?_))|(refine fun(hc:(_:Bool)=_)=>?_;try simp only [hcS]at hc))
   all_goals try exact om_
   ·(first|refine aB ?_|refine aA ?_);simp only [go_sem,simprocAttr,Tryz.f168]
  ·have v1:=iZ h1
   refine aC (E:=TE) 0 Tryz.func168 rfl (by simp [Tryz.f168]) fun X hn hX=>?_
   repeat'(first|refine wkQ ?_|refine Tw.f ?_ ?_|(refine kcQ iY ?_;refine ksQ (a:=pW (by first|omega|assumption|rfl) (by first|omega|assumption|rfl)) (c:=?_))|(refine fun(hc:(_:Bool)=_)=>?_;try simp only [hcS]at hc))
   all_goals try exact om_
   ·(first|refine aB ?_|refine aA ?_);simp only [go_sem,simprocAttr,Tryz.f168]
 ·have v1:=cV h1
  have v2:=cV h2
  refine aC (E:=TE) 0 Tryz.func168 rfl (by simp [Tryz.f168]) fun X hn hX=>?_
  repeat'(first|refine wkQ ?_|refine Tw.f ?_ ?_|(refine kcQ iY ?_;refine ksQ (a:=pW (by first|omega|assumption|rfl) (by first|omega|assumption|rfl)) (c:=?_))|(refine fun(hc:(_:Bool)=_)=>?_;try simp only [hcS]at hc))
  all_goals try exact om_
  all_goals((first|refine aB ?_|refine aA ?_);simp only [go_sem,simprocAttr,Tryz.f168])
 ·have v1:=cV h1
  have v2:=cV h2
  refine aC (E:=TE) 0 Tryz.func168 rfl (by simp [Tryz.f168]) fun X hn hX=>?_
  repeat'(first|refine wkQ ?_|refine Tw.f ?_ ?_|(refine kcQ iY ?_;refine ksQ (a:=pW (by first|omega|assumption|rfl) (by first|omega|assumption|rfl)) (c:=?_))|(refine fun(hc:(_:Bool)=_)=>?_;try simp only [hcS]at hc))
  all_goals try exact om_
  all_goals((first|refine aB ?_|refine aA ?_);simp only [go_sem,simprocAttr,Tryz.f168])
end Go.Eng
end
section
namespace Go.Eng
open Go Go.Proofs Go.Cats
attribute [local go_sem] List.set_cons_zero List.set_cons_succ
def _root_.Go.Cats.AOut (c d:Cat) (F:List Fun) (code:Int):Prop:=
 (¬(IsCat c∧IsCat d)∧F=[]∧code=1)∨(IsCat c∧IsCat d∧¬(c.fr.length≤16∧d.fr.length≤16)∧F=[]∧code=3)∨(IsCat c∧IsCat d∧(c.fr.length≤16∧d.fr.length≤16)∧
  ((¬(c.ob=d.ob∧c.fr.length=d.fr.length)∧F=[]∧code=0)∨(c.ob=d.ob∧c.fr.length=d.fr.length∧200<(cZ c d true c.ob.toNat []).length∧F=[]∧code=3)∨(c.ob=d.ob∧c.fr.length=d.fr.length∧(cZ c d true c.ob.toNat []).length≤200∧F=cZ c d true c.ob.toNat []∧code=0)))
theorem _root_.Go.Cats.AOut.ex (c d:Cat):∃F code,AOut c d F code:=by
 by_cases h1:IsCat c∧IsCat d
 ·by_cases h2:c.fr.length≤16∧d.fr.length≤16
  ·by_cases h3:c.ob=d.ob∧c.fr.length=d.fr.length
   ·by_cases h4:(cZ c d true c.ob.toNat []).length≤200
    ·exact⟨_,0, .inr (.inr ⟨h1.1,h1.2,h2, .inr (.inr ⟨h3.1,h3.2,h4,rfl,rfl⟩)⟩)⟩
    ·exact⟨_,3, .inr (.inr ⟨h1.1,h1.2,h2, .inr (.inl ⟨h3.1,h3.2,by omega,rfl,rfl⟩)⟩)⟩
   ·exact⟨_,0, .inr (.inr ⟨h1.1,h1.2,h2, .inl ⟨h3,rfl,rfl⟩⟩)⟩
  ·exact⟨_,3, .inr (.inl ⟨h1.1,h1.2,h2,rfl,rfl⟩)⟩
 ·exact⟨_,1, .inl ⟨h1,rfl,rfl⟩⟩
theorem pB {P:Program} {F:FuncId} {args:List Sv} {code:Int} (h:Spec P F args [] (.tup [.v (.slice none 0 0),iv code]) []):Spec P F args [] (.tup [.sl 0,iv code]) [(0,⟨1, .arr (bM [])⟩)]:=by
 refine Spec.adopt h (fun p hp=>?_) fun w S v cn h=>?_
 ·rw [List.mem_singleton]at hp;subst hp
  exact⟨12, .v (.int .i64 0),by decide,rfl⟩
 ·simp only [Sv.ok,Sv.okL]at h⊢
  obtain⟨vs,rfl,x,r,rfl,e,hr⟩:=h
  exact⟨_,rfl,_,_,rfl,⟨Nat.le_refl 1,e⟩,hr⟩
theorem nK:aD Tryz.prog 98:=⟨_,Tryz.func98,rfl,rfl⟩
theorem jV {c d:Cat} {code:Int} (hc:CatB c) (hd:CatB d) (h:(¬(IsCat c∧IsCat d)∧code=1)∨(IsCat c∧IsCat d∧¬(c.fr.length≤16∧d.fr.length≤16)∧code=3)∨(IsCat c∧IsCat d∧(c.fr.length≤16∧d.fr.length≤16)∧((¬(c.ob=d.ob∧c.fr.length=d.fr.length)∧code=0)∨(c.ob=d.ob∧c.fr.length=d.fr.length∧200<(cZ c d true c.ob.toNat []).length∧code=3)))):Spec Tryz.prog 98 [.bptr [] (aW c), .bptr [] (aW d)] [] (.tup [.v (.slice none 0 0),iv code]) []:=by
 rcases h with⟨h,rfl⟩|⟨h1,h2,h,rfl⟩|⟨h1,h2,h3,⟨h,rfl⟩|⟨e1,e2,h,rfl⟩⟩
 ·refine aC (E:=TE) 0 Tryz.func98 rfl (by simp [Tryz.f98]) fun X hn hX=>?_
  repeat'(first|refine wkQ ?_|refine Tw.f ?_ ?_|(refine kcQ dI ?_;refine ksQ (a:=cJ (by first|omega|assumption|rfl) (by first|omega|assumption|rfl)) (c:=?_))|(refine fun(hc:(_:Bool)=_)=>?_;try simp only [hcS]at hc))
  all_goals try exact om_
  ·(first|refine aB ?_|refine aA ?_);simp only [go_sem,simprocAttr,Tryz.f98]
  all_goals exact absurd (by assumption) h
 ·refine aC (E:=TE) 0 Tryz.func98 rfl (by simp [Tryz.f98]) fun X hn hX=>?_
  have h0:IsCat c∧IsCat d:=⟨h1,h2⟩
  repeat'(first|refine wkQ ?_|refine Tw.f ?_ ?_|(refine kcQ dI ?_;refine ksQ (a:=cJ (by first|omega|assumption|rfl) (by first|omega|assumption|rfl)) (c:=?_))|(refine kcQ jN ?_;refine ksQ (a:=zK (by first|omega|assumption|rfl) (by first|omega|assumption|rfl) (by first|omega|assumption|rfl)) (c:=?_))|(refine fun(hc:(_:Bool)=_)=>?_;try simp only [hcS]at hc))
  all_goals try exact om_
  ·exact absurd h0 (by assumption)
  ·(first|refine aB ?_|refine aA ?_);simp only [go_sem,simprocAttr,Tryz.f98]
 ·obtain⟨h4,h5⟩:=h3
  have hne:=vG (m:=200) hc hd h
  refine aC (E:=TE) 0 Tryz.func98 rfl (by simp [Tryz.f98]) fun X hn hX=>?_
  have h0:IsCat c∧IsCat d:=⟨h1,h2⟩
  repeat'(first|refine wkQ ?_|refine Tw.f ?_ ?_|(refine kcQ dI ?_;refine ksQ (a:=cJ (by first|omega|assumption|rfl) (by first|omega|assumption|rfl)) (c:=?_))|(refine kcQ jN ?_;refine ksQ (a:=jW (by first|omega|assumption|rfl) (by first|omega|assumption|rfl) (by first|omega|assumption|rfl) (by first|omega|assumption|rfl)) (c:=?_))|(refine kcQ kC ?_;refine kwQ (hne) [] [] ?_)|(refine fun(hc:(_:Bool)=_)=>?_;try simp only [hcS]at hc))
  all_goals try exact om_
  ·exact absurd h0 (by assumption)
  ·(first|refine aB ?_|refine aA ?_);simp only [go_sem,simprocAttr,Tryz.f98]
 ·obtain⟨h4,h5⟩:=h3
  have hr:eat (stL 200) [] (cZ c d true c.ob.toNat [])=(false,(cZ c d true c.ob.toNat []).take 201):=by
   rw [aID _ _ (Nat.zero_le _),List.nil_append,decide_eq_false (by omega)]
  have heq:=mV (M:=200) hc hd h1 h2 (by decide) e1 e2 hr
  refine aC (E:=TE) 0 Tryz.func98 rfl (by simp [Tryz.f98]) fun X hn hX=>?_
  have h0:IsCat c∧IsCat d:=⟨h1,h2⟩
  repeat'(first|refine wkQ ?_|refine Tw.f ?_ ?_|(refine kcQ dI ?_;refine ksQ (a:=cJ (by first|omega|assumption|rfl) (by first|omega|assumption|rfl)) (c:=?_))|(refine kcQ jN ?_;refine ksQ (a:=jW (by first|omega|assumption|rfl) (by first|omega|assumption|rfl) (by first|omega|assumption|rfl) (by first|omega|assumption|rfl)) (c:=?_))|(refine kcQ kC ?_;refine kwQ (heq) [(0,1)] [] ?_)|(refine fun(hc:(_:Bool)=_)=>?_;try simp only [hcS]at hc))
  all_goals try exact om_
  ·exact absurd h0 (by assumption)
  ·(first|refine aB ?_|refine aA ?_);simp only [go_sem,simprocAttr,Tryz.f98]
theorem aDb {c d:Cat} (hc:CatB c) (hd:CatB d) (h1:IsCat c) (h2:IsCat d) (h3:c.fr.length≤16∧d.fr.length≤16) (e1:c.ob=d.ob) (e2:c.fr.length=d.fr.length) (h:(cZ c d true c.ob.toNat []).length≤200):Spec Tryz.prog 98 [.bptr [] (aW c), .bptr [] (aW d)] [] (.tup [.sl 0,iv 0]) [(0,⟨1, .arr (bM (cZ c d true c.ob.toNat []))⟩)]:=by
 obtain⟨h4,h5⟩:=h3
 have hr:eat (stL 200) [] (cZ c d true c.ob.toNat [])=(true,cZ c d true c.ob.toNat []):=by
  rw [aID _ _ (Nat.zero_le _),List.nil_append,decide_eq_true h,List.take_of_length_le (by omega)]
 have heq:=mV (M:=200) hc hd h1 h2 (by decide) e1 e2 hr
 refine aC (E:=TE) 0 Tryz.func98 rfl (by simp [Tryz.f98]) fun X hn hX=>?_
 have h0:IsCat c∧IsCat d:=⟨h1,h2⟩
 repeat'(first|refine wkQ ?_|refine Tw.f ?_ ?_|(refine kcQ dI ?_;refine ksQ (a:=cJ (by first|omega|assumption|rfl) (by first|omega|assumption|rfl)) (c:=?_))|(refine kcQ jN ?_;refine ksQ (a:=jW (by first|omega|assumption|rfl) (by first|omega|assumption|rfl) (by first|omega|assumption|rfl) (by first|omega|assumption|rfl)) (c:=?_))|(refine kcQ kC ?_;refine kwQ (heq) [(0,1)] [] ?_)|(refine fun(hc:(_:Bool)=_)=>?_;try simp only [hcS]at hc))
 all_goals try exact om_
 ·exact absurd h0 (by assumption)
 ·(first|refine aB ?_|refine aA ?_);simp only [go_sem,simprocAttr,Tryz.f98]
theorem kQ {c d:Cat} {F:List Fun} {code:Int} (hc:CatB c) (hd:CatB d) (h:AOut c d F code):Spec Tryz.prog 98 [.bptr [] (aW c), .bptr [] (aW d)] [] (.tup [.sl 0,iv code]) [(0,⟨1, .arr (bM F)⟩)]:=by
 rcases h with⟨h,rfl,rfl⟩|⟨h1,h2,h,rfl,rfl⟩|⟨h1,h2,h3,⟨h,rfl,rfl⟩|⟨e1,e2,h,rfl,rfl⟩|⟨e1,e2,h,rfl,rfl⟩⟩
 ·exact pB (jV hc hd (.inl ⟨h,rfl⟩))
 ·exact pB (jV hc hd (.inr (.inl ⟨h1,h2,h,rfl⟩)))
 ·exact pB (jV hc hd (.inr (.inr ⟨h1,h2,h3, .inl ⟨h,rfl⟩⟩)))
 ·exact pB (jV hc hd (.inr (.inr ⟨h1,h2,h3, .inr ⟨e1,e2,h,rfl⟩⟩)))
 ·exact aDb hc hd h1 h2 h3 e1 e2 h
end Go.Eng
end
