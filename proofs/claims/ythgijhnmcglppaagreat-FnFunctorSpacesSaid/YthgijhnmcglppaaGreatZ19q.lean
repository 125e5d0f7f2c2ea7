/- Draws of two categories, often with a functor category within the limits. -/
import Derived.Test.YthgijhnmcglppaaGreatKbbx
set_option linter.unusedSimpArgs false
set_option linter.unusedVariables false
set_option maxRecDepth 100000
set_option maxHeartbeats 32000000
namespace Go.Eng
open Go Go.Proofs Go.Cats
def two2:Cat:=poC [[1,1],[0,1]] 2
theorem po2:PoOK [[1,1],[0,1]] 2:=uL (by decide)
def fpT (s:RnS):(Cat×Cat)×RnS:=(((eO 2 4 12 s).1,(eO 3 6 12 (eO 2 4 12 s).2).1),(eO 3 6 12 (eO 2 4 12 s).2).2)
open Classical in
noncomputable def fpL:Nat→RnS→(Cat×Cat)×RnS
 |0,s=>((two2,two2),s)
 |k+1,s=>if FcY (fpT s).1.1 (fpT s).1.2 then fpT s else fpL k (fpT s).2
open Classical in
noncomputable def fpF (s:RnS):(Cat×Cat)×RnS:=
 if aM s 10=0 then(((iU (aL s 10) 3 8).1,(iU (iU (aL s 10) 3 8).2 4 12).1),(iU (iU (aL s 10) 3 8).2 4 12).2)else fpL 6 (aL s 10)
section
variable {s:RnS} {k:Nat}
theorem aLx (h:RnOk s):RnOk (fpT s).2∧IsCat (fpT s).1.1∧IsCat (fpT s).1.2:=by
 obtain⟨h1,h2,_⟩:=pB (o:=2) (m:=4) (by decide) (by decide) (by decide) (by decide) 12 s h
 obtain⟨g1,g2,_⟩:=pB (o:=3) (m:=6) (by decide) (by decide) (by decide) (by decide) 12 _ h1
 unfold fpT
 simp only
 exact⟨g1,h2,g2⟩
theorem aLw:∀(k:Nat) (s:RnS),RnOk s→RnOk (fpL k s).2∧IsCat (fpL k s).1.1∧IsCat (fpL k s).1.2
 |0,s,h=>⟨h,po2.cat,po2.cat⟩
 |k+1,s,h=>by
  have ht:=aLx h
  unfold fpL
  split
  ·exact ht
  ·exact aLw k _ ht.1
theorem aG1 (h:RnOk s):RnOk (fpF s).2∧CatB (fpF s).1.1∧CatB (fpF s).1.2:=by
 have h0:=aQ (n:=10) h
 unfold fpF
 split
 ·have h1:=aA2 (o:=3) (m:=8) h0 (by decide) (by decide) (by decide) (by decide)
  have h2:=aA2 (o:=4) (m:=12) h1.1 (by decide) (by decide) (by decide) (by decide)
  simp only
  exact⟨h2.1,h1.2,h2.2⟩
 ·obtain⟨h1,h2,h3⟩:=aLw 6 _ h0
  exact⟨h1,pA h2.toShape,pA h3.toShape⟩
theorem aOt (h:FcY (fpT s).1.1 (fpT s).1.2):fpL (k+1) s=fpT s:=by rw [fpL,if_pos h]
theorem aQN (h:¬FcY (fpT s).1.1 (fpT s).1.2):fpL (k+1) s=fpL k (fpT s).2:=by rw [fpL,if_neg h]
end
abbrev aH2 (n:Nat) (c d:Cat):List (Nat×Rs):=[(n,⟨1, .arr (ints c.fr)⟩),(n+1,⟨1, .arr (ints c.to)⟩),(n+2,⟨1, .arr (ints c.id)⟩),(n+3,⟨1, .arr (rdA (aF c.co))⟩),(n+4,⟨1, .arr (ints d.fr)⟩),(n+5,⟨1, .arr (ints d.to)⟩),(n+6,⟨1, .arr (ints d.id)⟩),(n+7,⟨1, .arr (rdA (aF d.co))⟩)]
attribute [go_sem] aH2
attribute [local go_sem] List.set_cons_zero List.set_cons_succ
theorem zL:aE Tryz.prog 76:=⟨_,Tryz.func76,rfl,rfl⟩
theorem aBU {s:RnS} (hs:RnOk s):Spec Tryz.prog 76 [.ptr 0 0] [(0,bO s)] (.tup [aD1 1 (fpF s).1.1,aD1 5 (fpF s).1.2]) ((0,bO (fpF s).2)::aH2 1 (fpF s).1.1 (fpF s).1.2):=by
 have hN:=aY (n:=10) hs
 have h0:=aQ (n:=10) hs
 have hone:Spec Tryz.prog 176 [.bor [] (aF [[1,1],[0,1]])] [] (.agg [iv two2.ob, .sl 0, .sl 1, .sl 2, .sl 3]) [(0,⟨1, .arr (ints two2.fr)⟩),(1,⟨1, .arr (ints two2.to)⟩),(2,⟨1, .arr (ints two2.id)⟩),(3,⟨1, .arr (aF two2.co)⟩)]:=cS po2 rfl (by decide)
 refine aD (E:=TE) 1 Tryz.func76 rfl (by simp [Tryz.f76]) fun X hn hX=>?_
 by_cases hz:aM s 10=0
 ·rw [hz]at hN
  have e:fpF s=(((iU (aL s 10) 3 8).1,(iU (iU (aL s 10) 3 8).2 4 12).1),(iU (iU (aL s 10) 3 8).2 4 12).2):=by unfold fpF;rw [if_pos hz]
  rw [e]
  clear e
  generalize aL s 10=t at hN h0⊢
  have hA:=aBH (o:=3) (m:=8) h0 (by decide) (by decide) (by decide) (by decide)
  have hk:=(aA2 (o:=3) (m:=8) h0 (by decide) (by decide) (by decide) (by decide)).1
  generalize iU t 3 8=a at hA hk⊢
  have hB:=aBH (o:=4) (m:=12) hk (by decide) (by decide) (by decide) (by decide)
  generalize iU a.2 4 12=b at hB⊢
  obtain⟨c,ta⟩:=a
  obtain⟨d,tb⟩:=b
  simp only at hA hB⊢
  repeat'(first|refine wkQ ?_|refine Tw.f ?_ ?_|(refine kcQ aI ?_;refine kwQ (hN) [(0,0)] [] ?_)|((with_reducible refine kaQ [.ptr 0 0,iv 3,iv 8] ?_);refine kcQ zI ?_;refine kwQ (hA) [(0,0),(1,3),(2,4),(3,5),(4,6)] [] ?_)|((with_reducible refine kaQ [.ptr 0 0,iv 4,iv 12] ?_);refine kcQ zI ?_;refine kwQ (hB) [(0,0),(1,7),(2,8),(3,9),(4,10)] [] ?_)|(refine fun(hc:(_:Bool)=_)=>?_;try simp only [hcS]at hc))
  all_goals try exact om_
  all_goals try contradiction
  (first|refine aB ?_|refine aA ?_);simp only [go_sem,simprocAttr,Tryz.f76]
 ·have e:fpF s=fpL 6 (aL s 10):=by unfold fpF;rw [if_neg hz]
  rw [e]
  clear e
  generalize aL s 10=t at hN h0⊢
  obtain⟨F,hF⟩:∃F,fpL 6 t=F:=⟨_,rfl⟩
  rw [hF]
  repeat'(first|refine wkQ ?_|refine Tw.f ?_ ?_|(refine kcQ aI ?_;refine kwQ (hN) [(0,0)] [] ?_)|(refine fun(hc:(_:Bool)=_)=>?_;try simp only [hcS]at hc))
  all_goals try exact om_
  all_goals try contradiction
  refine aG (G:={p:Nat×RnS//p.1≤6∧RnOk p.2∧fpL (6-p.1) p.2=F}) (fun p=>[(4,iv p.1.1),(0, .ptr 0 0),(2, .ptr 1 0),(3, .ptr 2 0)]) [] (fun p=>[(0,bO p.1.2)]) [0] (fun p=>6-p.1.1) ⟨(0,t),by simp,h0,hF⟩ ?_ ?_
  ·exact Imp.au hX
  rintro⟨⟨k,u⟩,hk,hk2,hk3⟩
  simp only at hk hk2 hk3
  simp only [go_sem,simprocAttr]
  rcases Nat.lt_or_ge k 6 with hlt|hge
  ·rw [show 6-k=(6-(k+1))+1 by omega]at hk3
   have hA:=uX (o:=2) (m:=4) hk2 (by decide) (by decide)
   obtain⟨a1,a2,_⟩:=pB (o:=2) (m:=4) (by decide) (by decide) (by decide) (by decide) 12 u hk2
   have ht:=aLx hk2
   have eT:fpT u=(((eO 2 4 12 u).1,(eO 3 6 12 (eO 2 4 12 u).2).1),(eO 3 6 12 (eO 2 4 12 u).2).2):=rfl
   generalize eO 2 4 12 u=a at hA a1 a2 eT
   have hB:=uX (o:=3) (m:=6) a1 (by decide) (by decide)
   obtain⟨b1,b2,_⟩:=pB (o:=3) (m:=6) (by decide) (by decide) (by decide) (by decide) 12 a.2 a1
   generalize eO 3 6 12 a.2=b at hB b1 b2 eT
   obtain⟨c,ta⟩:=a
   obtain⟨d,tb⟩:=b
   simp only at hA hB a1 a2 b1 b2 eT
   have bc:=pA a2.toShape
   have bd:=pA b2.toShape
   by_cases hy:FcY c d
   ·have hM:=gM a2 b2 bc bd (.inl ⟨hy,rfl,rfl⟩)
    rw [aOt (by rw [eT];exact hy),eT]at hk3
    subst hk3
    repeat'(first|(refine bU 9 (Imp.trans (Imp.arrAb 6 _ (aF c.co) rfl rfl) (Imp.arrAb 10 _ (aF d.co) rfl rfl)) ?_;simp only [go_sem,simprocAttr])|(with_reducible first|refine St.f ?_|refine V_c ?_|refine eDn ?_|refine And.intro ?_ ?_|refine aH ?_ ?_|refine aK ?_)|((refine aN ?_);intro K hK)|((with_reducible refine So.f ?_);intro K hK;simp(contextual:=true)only [go_sem,simprocAttr])|((with_reducible refine hK _ ?_);clear hK K)|((with_reducible refine(id ?_:EvCall _ _ [.ptr 0 0,iv 2,iv 4] _ _));refine EvCall.mr (hA) iF [(0,0),(1,3),(2,4),(3,5),(4,6)] [] ?_)|((with_reducible refine(id ?_:EvCall _ _ [.ptr 0 0,iv 3,iv 6] _ _));refine EvCall.mr (hB) iF [(0,0),(1,7),(2,8),(3,9),(4,10)] [] ?_)|((with_reducible refine aC 86 ?_);refine EvCall.mr (hM) iG [(0,13),(1,14),(2,15),(3,16),(4,17),(5,18)] [3,4,5,6,7,8,9,10] ?_)|(refine fun(hc:(_:Bool)=_)=>?_;try simp only [hcS]at hc))
    all_goals try exact om_
    all_goals try(exfalso;omega)
    (first|refine aB ?_|refine aA ?_);simp only [go_sem,simprocAttr,Tryz.f76]
   ·have hM:=gM a2 b2 bc bd (.inr ⟨hy,rfl,rfl⟩)
    rw [aQN (by rw [eT];exact hy),eT]at hk3
    rw [eT]at ht
    repeat'(first|refine wkQ ?_|refine Tw.f ?_ ?_|((with_reducible refine kaQ [.ptr 0 0,iv 2,iv 4] ?_);refine kcQ iF ?_;refine kwQ (hA) [(0,0),(1,3),(2,4),(3,5),(4,6)] [] ?_)|((with_reducible refine kaQ [.ptr 0 0,iv 3,iv 6] ?_);refine kcQ iF ?_;refine kwQ (hB) [(0,0),(1,7),(2,8),(3,9),(4,10)] [] ?_)|(refine kcQ iG ?_;refine kwQ (hM) [] [3,4,5,6,7,8,9,10] ?_)|(refine fun(hc:(_:Bool)=_)=>?_;try simp only [hcS]at hc))
    all_goals try exact om_
    all_goals try(exfalso;omega)
    exact⟨⟨(k+1,tb),by simp only;omega,ht.1,hk3⟩,by simp only;omega,Imp.au hX⟩
  ·obtain rfl:k=6:=by omega
   have hk4:((two2,two2),u)=F:=hk3
   subst hk4
   clear hk3
   generalize two2=w at *
   have hone':=hone
   repeat'(first|((with_reducible refine(id ?_:V _ _ Code.ret _ _));refine aPK (Imp.trans (Imp.arrAb 9 _ (aF w.co) rfl rfl) (Imp.arrAb 16 _ (aF w.co) rfl rfl)) ?_;simp only [go_sem,simprocAttr])|(with_reducible first|refine St.f ?_|refine V_c ?_|refine eDn ?_|refine And.intro ?_ ?_|refine aH ?_ ?_|refine aK ?_)|((refine aN ?_);intro K hK)|((with_reducible refine So.f ?_);intro K hK;simp(contextual:=true)only [go_sem,simprocAttr])|((with_reducible refine hK _ ?_);clear hK K)|((with_reducible refine aC 176 ?_);refine EvCall.mr (hone) bX [(0,6),(1,7),(2,8),(3,9)] [5] ?_;clear hone)|((with_reducible refine aC 176 ?_);refine EvCall.mr (hone') bX [(0,13),(1,14),(2,15),(3,16)] [12] ?_)|(refine fun(hc:(_:Bool)=_)=>?_;try simp only [hcS]at hc))
   all_goals try exact om_
   all_goals try(exfalso;omega)
   (first|refine aB ?_|refine aA ?_);simp only [go_sem,simprocAttr,Tryz.f76]
noncomputable def aFg (l:List Int):Cat×Cat:=(fpF (from_ l)).1
theorem aOc {l:List Int} (h:CodeOk l):CatB (aFg l).1∧CatB (aFg l).2:=(aG1 h.src).2
theorem dA:aE Tryz.prog 13:=⟨_,Tryz.func13,rfl,rfl⟩
theorem kP {l:List Int} (h:CodeOk l):Spec Tryz.prog 13 [.bor [] (bys l)] [] (.tup [aD1 0 (aFg l).1,aD1 4 (aFg l).2]) (aH2 0 (aFg l).1 (aFg l).2):=by
 refine aD (E:=TE) 0 Tryz.func13 rfl (by simp [Tryz.f13]) fun X hn hX=>?_
 have hF:=aBE (l:=l) h.len
 have hP:=aBU h.src
 have e:aFg l=(fpF (from_ l)).1:=rfl
 rw [e]
 clear e
 generalize fpF (from_ l)=d at hP⊢
 obtain⟨⟨c,d⟩,t⟩:=d
 simp only at hP⊢
 repeat'(first|refine wkQ ?_|refine Tw.f ?_ ?_|(refine kcQ zE ?_;refine kwQ (hF) [(0,2)] [] ?_)|(refine kcQ zL ?_;refine kwQ (hP) [(0,2),(1,3),(2,4),(3,5),(4,6),(5,7),(6,8),(7,9),(8,10)] [] ?_)|(refine fun(hc:(_:Bool)=_)=>?_;try simp only [hcS]at hc))
 all_goals try exact om_
 (first|refine aB ?_|refine aA ?_);simp only [go_sem,simprocAttr,Tryz.f13]
noncomputable def aD5 (l:List Int):(Cat×Cat)×Int:=((fpF (from_ l)).1,aHi (fpF (from_ l)).2 (fpF (from_ l)).1.1.ob)
theorem aOl {l:List Int} (h:CodeOk l):CatB (aD5 l).1.1∧CatB (aD5 l).1.2:=(aG1 h.src).2
theorem eU:aE Tryz.prog 28:=⟨_,Tryz.func28,rfl,rfl⟩
theorem jW {l:List Int} (h:CodeOk l):Spec Tryz.prog 28 [.bor [] (bys l)] [] (.tup [aD1 0 (aD5 l).1.1,aD1 4 (aD5 l).1.2,iv (aD5 l).2]) (aH2 0 (aD5 l).1.1 (aD5 l).1.2):=by
 refine aD (E:=TE) 0 Tryz.func28 rfl (by simp [Tryz.f28]) fun X hn hX=>?_
 have hF:=aBE (l:=l) h.len
 have hP:=aBU h.src
 have hk:=(aG1 h.src).1
 have hN:=aEw (n:=(fpF (from_ l)).1.1.ob) hk
 have e:aD5 l=((fpF (from_ l)).1,aHi (fpF (from_ l)).2 (fpF (from_ l)).1.1.ob):=rfl
 rw [e]
 clear e
 generalize fpF (from_ l)=d at hP hk hN⊢
 obtain⟨⟨c,d⟩,t⟩:=d
 simp only at hP hk hN⊢
 repeat'(first|refine wkQ ?_|refine Tw.f ?_ ?_|(refine kcQ zE ?_;refine kwQ (hF) [(0,2)] [] ?_)|(refine kcQ zL ?_;refine kwQ (hP) [(0,2),(1,3),(2,4),(3,5),(4,6),(5,7),(6,8),(7,9),(8,10)] [] ?_)|(refine kcQ aCm ?_;refine kwQ (hN) [(0,2)] [] ?_)|(refine fun(hc:(_:Bool)=_)=>?_;try simp only [hcS]at hc))
 all_goals try exact om_
 (first|refine aB ?_|refine aA ?_);simp only [go_sem,simprocAttr,Tryz.f28]
end Go.Eng
