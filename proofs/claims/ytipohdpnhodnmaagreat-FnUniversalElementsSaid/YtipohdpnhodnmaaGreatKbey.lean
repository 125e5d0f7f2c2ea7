/- Several texts in one: S04, EngSo, L02, Z15, E08, P43b. -/
import Derived.Test.YtipohdpnhodnmaaGreatE07q
import Derived.Scope
import Derived.Laws.Small
import Derived.Test.YtipohdpnhodnmaaGreatRows
import Derived.JoinedOf
import Derived.ProofKit
set_option linter.unusedSimpArgs false
set_option linter.unusedVariables false
set_option maxRecDepth 100000
set_option maxHeartbeats 32000000
section
namespace Go.Eng
open Go Go.Proofs Go.Cats
attribute [local go_sem] fC fD List.getD_cons_zero
def SlOut (f e:Fun) (c:Cat) (x:Int) (r:Cat) (code:Int):Prop:=(OC c [x] code∧code≠0∧r=⟨0,[],[],[],[]⟩)∨(OC c [x] 0∧COut f e r code)
theorem SlOut.b {f e:Fun} {c:Cat} {x:Int} {r:Cat} {code:Int} (h:SlOut f e c x r code):CatB r:=by
 rcases h with⟨_,_,rfl⟩|⟨_,h⟩
 ·exact⟨by simp,by simp,by simp,by simp,by simp,by simp,fun i hi=>by simp at hi⟩
 ·exact h.b
end Go.Eng
end
section
namespace Go.Eng
open Go
section
variable {P:Program} {b:Frame} {a:Act} {k:List Item} {cs:List Frame} {w:World} {Q:Exit→Act→World→Prop}
theorem gC {c:Code}:step P (lone (b.atR a (.code (.scope c)::k)) cs w)= .next (lone (b.atR a (.code c:: .inScope c::k)) cs w):=
 step_lone_go (by simp [stepG,stepG.exec,Frame.atR])
theorem aAX {c:Code}:step P (lone (b.atR a (.inScope c::k)) cs w)= .next (lone (b.atR a k) cs w):=
 step_lone_go (by simp [stepG,stepG.exec,Frame.atR])
theorem aFS {F:Fence} {n:Nat} {c:Code} (h:c.wpIn F n P (Exit.noGoto Q) a w):(Code.scope c).wpIn F n P Q a w:=by
 intro b k cs hro hb hr
 have h0:(lone (b.atR a (.code (.scope c)::k)) cs w).fenced P F:=fenced_calm hb hr rfl
 obtain⟨e,a₁,w₁,hq,harr⟩:=h b (.inScope c::k) cs hro hb hr
 cases e with
 |normal=>exact⟨.normal,a₁,w₁,hq, .head h0 gC (StepsIn.trans harr (.one (fenced_calm hb hr rfl) aAX))⟩
 |exit id=>
  have hx:exitTo id (.inScope c::k)=exitTo id k:=by simp [exitTo]
  exact⟨_,a₁,w₁,hq,fun k' hk=> .head h0 gC (harr.1 k' (by rw [hx];exact hk)),
   fun hr' hk=>let ⟨k₁,h1,h2⟩:=harr.2 hr' (by rw [hx];exact hk);⟨k₁,h1, .head h0 gC h2⟩⟩
 |goto l=>exact hq.elim
 |ret=>exact⟨_,a₁,w₁,hq, .of_steps (.one h0 gC) harr⟩
 |panic ch=>exact⟨_,a₁,w₁,hq, .of_steps (.one h0 gC) harr⟩
 |outgrown=>exact⟨_,a₁,w₁,hq, .of_steps (.one h0 gC) harr⟩
end
section
variable {X:Cx} {E:Env} {σ:Ss} {Q:Exit→Ss→Prop}
theorem aLH {c:Code} (h:V X E c σ (noG Q)):V X E (.scope c) σ Q:=fun hk a w hg=>
 aFS (wpIn_mono (h hk a w hg) fun e a' w' ⟨t,h1,h2⟩=>by
  cases e with
  |goto l=>exact h2.elim
  |normal=>exact⟨t,h1,h2⟩
  |exit i=>exact⟨t,h1,h2⟩
  |ret=>exact⟨t,h1,h2⟩
  |panic ch=>exact⟨t,h1,h2⟩
  |outgrown=>exact⟨t,h1,h2⟩)
theorem aLG {l:Nat} (h:Q .normal σ):V X E (.label l) σ Q:=fun _ _ _ hg=>wpIn_label ⟨σ,hg,h⟩
end
section
variable {E:Env} {d:Option Nat} {σ:Ss} {K:Ss→Prop}
end
end Go.Eng
end
section
namespace Go.Eng
open Go Go.Proofs Go.Cats
attribute [local go_sem] fC fD
theorem aBR (c:Cat) (n:Nat):oW c (n+1)=oW c n++(open Classical in if aBX c n then [(n:Int)]else []):=fJ _ _
theorem aIf (c:Cat):oW c 0=[]:=rfl
theorem aLi (c:Cat) (n:Nat):(oW c n).length≤n:=by
 have:=dK (n:=n) (k:=1) (f:=fun x=>open Classical in if aBX c x then [(x:Int)]else []) fun x _=>by split<;>simp
 unfold oW;omega
theorem aLj {c:Cat} {n:Nat} (h:aBX c n):oW c (n+1)=oW c n++[(n:Int)]:=by rw [aBR,if_pos h]
theorem aNb {c:Cat} {n:Nat} (h:¬aBX c n):oW c (n+1)=oW c n:=by rw [aBR,if_neg h,List.append_nil]
attribute [local go_sem] aIf
theorem nQ:aF Tryz.prog 70:=⟨_,Tryz.func70,rfl,rfl⟩
theorem oR {c:Cat} (h:Shape c):Spec Tryz.prog 70 [.bptr [] (dJ c)] [] (.sl 0) [(0,⟨1, .arr (ints (aA4 c))⟩)]:=by
 refine aD (E:=TE) 0 Tryz.func70 rfl (by simp [Tryz.f70]) fun X hn hX=>?_
 have o1:=h.ob0
 have o2:=h.ob8
 have m4:=h.m40
 have tl:=h.tol
 repeat'(first|(with_reducible first|refine St.f ?_|refine V_c ?_|refine And.intro ?_ ?_|refine aI ?_ ?_|refine aN ?_)|((refine aQ ?_);intro K hK)|((with_reducible refine So.f ?_);intro K hK;simp(contextual:=true)only [go_sem,simprocAttr])|((with_reducible refine hK _ ?_);clear hK K)|(refine aLH ?_)|(refine aLG ?_)|(refine fun(hc:(_:Bool)=_)=>?_;try simp only [hcS]at hc))
 all_goals try exact om_
 refine aG (G:={x:Nat//x≤c.ob.toNat∧(True)}) (fun⟨x,_⟩=>[(4,iv x),(3, .sl 0)]) [0,2] (fun⟨x,_⟩=>[(0,⟨1, .arr (ints (oW c x))⟩)]) [0] (fun zz=>c.ob.toNat-zz.1) ⟨0,Nat.zero_le _,by first|trivial|simp⟩ ?_ ?_
 ·exact Imp.au hX
 rintro⟨x,hix,hwx⟩
 simp only [go_sem,simprocAttr]
 have l1:=aLi c x
 rcases Nat.lt_or_ge x c.ob.toNat with hlx|hgx
 ·repeat'(first|refine wkQ ?_|refine Tw.f ?_ ?_|(refine fun(hc:(_:Bool)=_)=>?_;try simp only [hcS]at hc))
  all_goals try exact om_
  all_goals try(exfalso;omega)
  refine aG (G:={y:Nat//y≤c.ob.toNat∧(∀k,k<y→(c.hom k x).length=1)}) (fun⟨y,_⟩=>[(5,iv y),(4,iv x),(3, .sl 0)]) [0,2] (fun⟨y,_⟩=>[(0,⟨1, .arr (ints (oW c x))⟩)]) [0] (fun zz=>c.ob.toNat-zz.1) ⟨0,Nat.zero_le _,by omega⟩ ?_ ?_
  ·exact Imp.au hX
  rintro⟨y,hiy,hwy⟩
  simp only [go_sem,simprocAttr]
  rcases Nat.lt_or_ge y c.ob.toNat with hly|hgy
  ·repeat'(first|refine wkQ ?_|refine Tw.f ?_ ?_|(refine kcQ fI ?_;refine krQ (fO (x:=y) (y:=x) ?_ ?_) ?_)|(refine fun(hc:(_:Bool)=_)=>?_;try simp only [hcS]at hc))
   all_goals try exact om_
   all_goals try(exfalso;omega)
   ·have e1:=aNb (c:=c) (n:=x) fun q=>absurd (q y hly) (by omega)
    refine⟨⟨x+1,by omega,(by(trivial))⟩,by simp only;omega,Imp.auto hX (by simp only [go_sem,simprocAttr,e1])⟩
   ·refine⟨⟨y+1,by omega,(by exact bW hwy (by omega))⟩,by simp only;omega,Imp.ao hX⟩
  ·obtain rfl:y=c.ob.toNat:=by omega
   have e1:=aLj (c:=c) (n:=x) fun k hk=>hwy k hk
   repeat'(first|refine wkQ ?_|refine Tw.f ?_ ?_|(refine fun(hc:(_:Bool)=_)=>?_;try simp only [hcS]at hc))
   all_goals try exact om_
   all_goals try(exfalso;omega)
   refine⟨⟨x+1,by omega,(by(trivial))⟩,by simp only;omega,Imp.auto hX (by simp only [go_sem,simprocAttr,e1])⟩
 ·obtain rfl:x=c.ob.toNat:=by omega
  repeat'(first|refine wkQ ?_|refine Tw.f ?_ ?_|(refine fun(hc:(_:Bool)=_)=>?_;try simp only [hcS]at hc))
  all_goals try exact om_
  all_goals try(exfalso;omega)
  (first|refine aB ?_|refine aA ?_);simp only [go_sem,simprocAttr,Tryz.f70]
  rfl
def ArOut (c r:Cat) (code:Int):Prop:=(¬IsCat c∧code=1∧r=⟨0,[],[],[],[]⟩)∨(IsCat c∧COut (sO c) (sO c) r code)
theorem ArOut.b {c r:Cat} {code:Int} (h:ArOut c r code):CatB r:=by
 rcases h with⟨_,_,rfl⟩|⟨_,h⟩
 ·exact⟨by simp,by simp,by simp,by simp,by simp,by simp,fun i hi=>by simp at hi⟩
 ·exact h.b
end Go.Eng
end
section
namespace Go.Eng
open Go Go.Proofs Go.Cats
attribute [local go_sem] List.set_cons_zero List.set_cons_succ
structure CodeOk (l:List Int):Prop where
 len:l.length≤4096
 b:∀i,i<l.length→0≤l.getD i 0∧l.getD i 0<256
theorem CodeOk.src {l:List Int} (h:CodeOk l):RnOk (from_ l):=aMd h.len h.b
end Go.Eng
end
section
namespace Go.Eng
open Go Go.Proofs Go.Cats
attribute [local go_sem] List.set_cons_zero List.set_cons_succ
def pY (s:RnS):Cat×RnS:=if aK s 3=0 then jZ (aL s 3) 2 6 else jZ (aL s 3) 4 12
theorem aIu {s:RnS} (hs:RnOk s):RnOk (pY s).2∧CatB (pY s).1:=by
 unfold pY
 split
 ·exact aDi (aM hs) (by decide) (by decide) (by decide) (by decide)
 ·exact aDi (aM hs) (by decide) (by decide) (by decide) (by decide)
theorem lD:aF Tryz.prog 40:=⟨_,Tryz.func40,rfl,rfl⟩
theorem aFA {s:RnS} (hs:RnOk s):Spec Tryz.prog 40 [.ptr 0 0] [(0,bB s)] (aEO 1 (pY s).1) ((0,bB (pY s).2)::aC9 1 (pY s).1):=by
 have hA:=aP (n:=3) hs
 have hA1:=aM (n:=3) hs
 have h1:=aAa (o:=2) (m:=6) hA1 (by decide) (by decide) (by decide) (by decide)
 have h2:=aAa (o:=4) (m:=12) hA1 (by decide) (by decide) (by decide) (by decide)
 have e:pY s=if aK s 3=0 then jZ (aL s 3) 2 6 else jZ (aL s 3) 4 12:=rfl
 rw [e]
 clear e
 generalize jZ (aL s 3) 2 6=d1 at h1⊢
 generalize jZ (aL s 3) 4 12=d2 at h2⊢
 refine aD (E:=TE) 1 Tryz.func40 rfl (by simp [Tryz.f40]) fun X hn hX=>?_
 by_cases h0:aK s 3=0
 ·rw [if_pos h0]
  rw [h0]at hA
  repeat'(first|refine wkQ ?_|refine Tw.f ?_ ?_|(refine kcQ aH ?_;refine kwQ (hA) [(0,0)] [] ?_)|(refine kcQ uW ?_;refine kwQ (h1) [(0,0),(1,2),(2,3),(3,4),(4,5)] [] ?_)|(refine fun(hc:(_:Bool)=_)=>?_;try simp only [hcS]at hc))
  all_goals try exact om_
  (first|refine aB ?_|refine aA ?_);simp only [go_sem,simprocAttr,Tryz.f40]
 ·rw [if_neg h0]
  repeat'(first|((with_reducible refine(id ?_:V _ _ (Code.region 2 _ _) _ _));exfalso;exact absurd (by assumption) h0)|(with_reducible first|refine St.f ?_|refine V_c ?_|refine And.intro ?_ ?_|refine aI ?_ ?_)|((refine aQ ?_);intro K hK)|((with_reducible refine So.f ?_);intro K hK;simp(contextual:=true)only [go_sem,simprocAttr])|((with_reducible refine hK _ ?_);clear hK K)|((with_reducible refine aE 42 ?_);refine EvCall.mr (hA) aH [(0,0)] [] ?_)|((with_reducible refine aE 98 ?_);refine EvCall.mr (h2) uW [(0,0),(1,2),(2,3),(3,4),(4,5)] [] ?_)|(refine fun(hc:(_:Bool)=_)=>?_;try simp only [hcS]at hc))
  all_goals try exact om_
  all_goals try contradiction
  (first|refine aB ?_|refine aA ?_);simp only [go_sem,simprocAttr,Tryz.f40]
abbrev aWp (s:RnS):Rs:=⟨1, .box [.bor [(1,1),(2,1),(3,1),(4,1)] (bys s.code),iv s.at_, .v (.int .u64 s.hash)]⟩
theorem oE:aF Tryz.prog 39:=⟨_,Tryz.func39,rfl,rfl⟩
theorem aAU {s:RnS} {c:Cat} {size:Int} (hb:CatB c) (h:¬IsCat c):Spec Tryz.prog 39 [.ptr 0 0,aEO 1 c,iv size] ((0,bB s)::aC9 1 c) (.agg [iv c.ob, .sl 1, .sl 2, .sl 3, .bor [(4,1)] (aC c.co), .v (.slice none 0 0), .v (.slice none 0 0)]) ((0,bB s)::aC9 1 c):=by
 refine aD (E:=TE) 5 Tryz.func39 rfl (by simp [Tryz.f39]) fun X hn hX=>?_
 repeat'(first|(refine dG 1 (Imp.cellRd 5 4 4 _ _ _ (aC c.co) rfl (by decide) rfl rfl) ?_;simp only [go_sem,simprocAttr])|(with_reducible first|refine St.f ?_|refine V_c ?_|refine And.intro ?_ ?_|refine aI ?_ ?_)|((refine aQ ?_);intro K hK)|((with_reducible refine So.f ?_);intro K hK;simp(contextual:=true)only [go_sem,simprocAttr])|((with_reducible refine hK _ ?_);clear hK K)|((with_reducible refine aE 62 ?_);refine EvCall.rr (aAm (c:=c) ?_) gZ ?_)|(refine fun(hc:(_:Bool)=_)=>?_;try simp only [hcS]at hc))
 all_goals try exact om_
 all_goals try exact absurd (by assumption) h
 (first|refine aB ?_|refine aA ?_);simp only [go_sem,simprocAttr,Tryz.f39]
theorem sX {s:RnS} {c:Cat} {size:Int} (hs:RnOk s) (hb:CatB c) (h:IsCat c) (h2:2≤size) (h16:size≤16):
  SpecE Tryz.prog 39 [.ptr 0 0,aEO 1 c,iv size] ((0,bB s)::aC9 1 c) (fun z:SF×RnS=>SFB z.1∧RnOk z.2) (fun z=>sfO 5 z.1) (fun z=>(0,aWp z.2)::(1,⟨1, .arr (ints c.fr)⟩)::(2,⟨1, .arr (ints c.to)⟩)::(3,⟨1, .arr (ints c.id)⟩)::(4,⟨1, .arr (rdA (aC c.co))⟩)::sfW 5 z.1):=by
 have hG:=aCH hs h.toShape hb h2 h16
 refine iO (E:=TE) 5 Tryz.func39 rfl (by simp [Tryz.f39]) fun X hn hX=>?_
 repeat'(first|(refine dG 1 (Imp.cellRd 5 4 4 _ _ _ (aC c.co) rfl (by decide) rfl rfl) ?_;simp only [go_sem,simprocAttr])|((with_reducible refine(id ?_:V _ _ (Code.region 3 _ _) _ _));refine gY 3 (by rw [hn];rfl) ?_;intro K hK)|(refine kC hG aC7 [(0,0),(1,7),(2,8),(3,9),(4,10),(5,11),(6,12)] [1,2,3,4] (by simp only [go_sem,simprocAttr];rfl) (by simp [go_sem]) (by simp [go_sem]<;>(repeat'(first|rfl|constructor))) ?_;intro z hz;simp only [go_sem,simprocAttr])|((with_reducible refine iW ?_);intro K hK;simp(contextual:=true)only [go_sem,simprocAttr])|(with_reducible refine eZ ?_)|(with_reducible first|refine St.f ?_|refine V_c ?_|refine And.intro ?_ ?_|refine aI ?_ ?_)|((refine aQ ?_);intro K hK)|((with_reducible refine So.f ?_);intro K hK;simp(contextual:=true)only [go_sem,simprocAttr])|((with_reducible refine hK _ ?_);clear hK K)|((with_reducible refine aE 62 ?_);refine EvCall.rr (aAm (c:=c) ?_) gZ ?_)|(refine fun(hc:(_:Bool)=_)=>?_;try simp only [hcS]at hc))
 all_goals try exact om_
 all_goals try exact absurd h (by assumption)
 obtain⟨f,t⟩:=z
 obtain⟨z1,z2,z3⟩:=hz
 simp only at z1 z2 z3
 have hN:=aP (n:=40) z3
 have hN1:=aM (n:=40) z3
 generalize aL t 40=t2 at hN hN1
 have hfb:=z1.b (by rw [z2];exact hb)
 by_cases h0:aK t 40=0
 ·rw [h0]at hN
  have hB:=aCF (s:=t2) hN1 z1 (by rw [z2];exact hb)
  repeat'(first|((with_reducible refine(id ?_:V _ _ (Code.region 5 _ _) _ _));refine gY 5 (by rw [hn];rfl) ?_;intro K hK)|(refine kC hB aC4 [(0,0),(1,7),(2,8),(3,9),(4,10),(5,11),(6,12),(7,14),(8,15),(9,16),(10,17),(11,18),(12,19)] [1,2,3,4] (by simp only [go_sem,simprocAttr];rfl) (by simp [go_sem]) (by simp [go_sem]<;>(repeat'(first|rfl|constructor))) ?_;intro y hy;simp only [go_sem,simprocAttr])|((with_reducible refine iW ?_);intro K hK;simp(contextual:=true)only [go_sem,simprocAttr])|(with_reducible refine eZ ?_)|(with_reducible first|refine St.f ?_|refine V_c ?_|refine And.intro ?_ ?_|refine aI ?_ ?_)|((refine aQ ?_);intro K hK)|((with_reducible refine So.f ?_);intro K hK;simp(contextual:=true)only [go_sem,simprocAttr])|((with_reducible refine hK _ ?_);clear hK K)|((with_reducible refine aE 42 ?_);refine EvCall.mr (hN) aH [(0,0)] [1,2,3,4] ?_)|(refine fun(hc:(_:Bool)=_)=>?_;try simp only [hcS]at hc))
  all_goals try exact om_
  all_goals try contradiction
  refine⟨y,hy,?_⟩
  (first|refine aB ?_|refine aA ?_);simp only [go_sem,simprocAttr,Tryz.f39]
  all_goals repeat'(first|rfl|constructor)
 ·generalize aK t 40=d at hN h0
  repeat'(first|(refine dG 6 (Imp.arrAb 10 _ (aC f.shape.co) rfl rfl) ?_;simp only [go_sem,simprocAttr])|((with_reducible refine iW ?_);intro K hK;simp(contextual:=true)only [go_sem,simprocAttr])|(with_reducible refine eZ ?_)|(with_reducible first|refine St.f ?_|refine V_c ?_|refine And.intro ?_ ?_|refine aI ?_ ?_)|((refine aQ ?_);intro K hK)|((with_reducible refine So.f ?_);intro K hK;simp(contextual:=true)only [go_sem,simprocAttr])|((with_reducible refine hK _ ?_);clear hK K)|((with_reducible refine aE 42 ?_);refine EvCall.mr (hN) aH [(0,0)] [1,2,3,4] ?_)|(refine fun(hc:(_:Bool)=_)=>?_;try simp only [hcS]at hc))
  all_goals try exact om_
  all_goals try contradiction
  refine⟨(f,t2),⟨hfb,hN1⟩,?_⟩
  (first|refine aB ?_|refine aA ?_);simp only [go_sem,simprocAttr,Tryz.f39]
  all_goals repeat'(first|rfl|constructor)
end Go.Eng
end
section
namespace Go.Proofs.YtipohdpnhodnmaaGreat
open Go Go.Eng Go.Cats Go.ChangeShapes Go.WideShapes Go.RowKit
theorem aG1:joinedFacts Tryz.pinned.checked.prog 4 Tryz.f4 Rows.fnUniversalElementsSpec Rows.fnUniversalElementsRow=true:=by
 unfold joinedFacts
 simp only [Bool.and_eq_true]
 repeat' with_reducible apply And.intro
 all_goals(as_aux_lemma=>kernel_rfl)
end Go.Proofs.YtipohdpnhodnmaaGreat
end
