/- A set functor is spoilt, by the reference: what is known of it. -/
import Derived.Test.YtipohdpnhodnmaaGreatKcfx
import Derived.Test.YtipohdpnhodnmaaGreatE06q
set_option linter.unusedSimpArgs false
set_option linter.unusedVariables false
set_option maxRecDepth 100000
set_option maxHeartbeats 32000000
namespace Go.Eng
open Go Go.Proofs Go.Cats
attribute [local go_sem] List.set_cons_zero List.set_cons_succ
abbrev sfW (n:Nat) (f:SF):List (Nat×Rs):=[(n,⟨1, .arr (ints f.shape.fr)⟩),(n+1,⟨1, .arr (ints f.shape.to)⟩),(n+2,⟨1, .arr (ints f.shape.id)⟩),(n+3,⟨1, .arr (rdA (aC f.shape.co))⟩),(n+4,⟨1, .arr (ints f.sizes)⟩),(n+5,⟨1, .arr (aC f.acts)⟩)]
abbrev aR2 (f g:SF):List (Nat×Rs):=[(1,⟨1, .arr (ints f.shape.fr)⟩),(2,⟨1, .arr (ints f.shape.to)⟩),(3,⟨1, .arr (ints f.shape.id)⟩),(4,⟨1, .arr (aC f.shape.co)⟩),(5,⟨1, .arr (ints f.sizes)⟩),(6,⟨1, .arr (aC f.acts)⟩),(7,⟨1, .arr (ints g.shape.fr)⟩),(8,⟨1, .arr (ints g.shape.to)⟩),(9,⟨1, .arr (ints g.shape.id)⟩),(10,⟨1, .arr (rdA (aC g.shape.co))⟩),(11,⟨1, .arr (ints g.sizes)⟩),(12,⟨1, .arr (aC g.acts)⟩)]
attribute [go_sem] sfQ sfW aR2
theorem _root_.Go.Cats.SFB.sizes_ {f:SF} (h:SFB f) (l:List Int) (hl:l.length=f.sizes.length):SFB ⟨f.shape,l,f.acts⟩:=⟨h.shape,by show l.length≤_;rw [hl];exact h.sizes,h.acts,h.row⟩
theorem _root_.Go.Cats.SFB.row_ {f:SF} (h:SFB f) (a:Nat) (r:List Int) (hr:r.length≤1048576):SFB ⟨f.shape,f.sizes,f.acts.set a r⟩:=⟨h.shape,h.sizes,by show(f.acts.set a r).length≤_;rw [List.length_set];exact h.acts,zO h.row hr⟩
theorem _root_.Go.Cats.SFB.more_ {f:SF} (h:SFB f) (hl:f.acts.length≤40):SFB ⟨f.shape,f.sizes,f.acts++[[]]⟩:=by
 have e:(f.acts++[([]:List Int)]).length=f.acts.length+1:=by rw [List.length_append];rfl
 refine⟨h.shape,h.sizes,by show(f.acts++[([]:List Int)]).length≤_;omega,fun a ha=>?_⟩
 have ha:a<(f.acts++[([]:List Int)]).length:=ha
 show((f.acts++[([]:List Int)]).getD a []).length≤_
 by_cases q:a<f.acts.length
 ·rw [List.getD_eq_getElem?_getD,List.getElem?_append_left q,←List.getD_eq_getElem?_getD];exact h.row a q
 ·rw [List.getD_eq_getElem?_getD,List.getElem?_append_right (by omega),show a-f.acts.length=0 by omega];exact Nat.zero_le _
theorem aC4:aF Tryz.prog 97:=⟨_,Tryz.func97,rfl,rfl⟩
theorem aCF {s:RnS} {f:SF} (hs:RnOk s) (hf:Loose f) (hb:CatB f.shape):
  SpecE Tryz.prog 97 [.ptr 0 0,sfO 1 f] ((0,bB s)::sfQ 1 f) (fun z:SF×RnS=>SFB z.1∧RnOk z.2) (fun z=>sfO 7 z.1) (fun z=>(0,bB z.2)::aR2 f z.1):=by
 have hB:=hf.b hb
 have o0:=hf.shape.ob0
 have o8:=hf.shape.ob8
 have m40:=hf.shape.m40
 have szl:=hf.szl
 have acl:=hf.acl
 have hS:=hf.shape
 have hA:=aP (n:=5) hs
 have hA1:=aM (n:=5) hs
 have hA2:=aV (n:=5) hs (by decide)
 generalize aL s 5=t at hA hA1
 generalize aK s 5=k at hA hA2
 have hk:k=0∨k=1∨(k=2∨k=3)∨k=4:=by omega
 show SpecE Tryz.prog 97 [.ptr 0 0, .agg [iv f.shape.ob, .sl 1, .sl 2, .sl 3, .sl 4, .sl 5, .sl 6]] [(0,bB s),(1,⟨1, .arr (ints f.shape.fr)⟩),(2,⟨1, .arr (ints f.shape.to)⟩),(3,⟨1, .arr (ints f.shape.id)⟩),(4,⟨1, .arr (aC f.shape.co)⟩),(5,⟨1, .arr (ints f.sizes)⟩),(6,⟨1, .arr (aC f.acts)⟩)] _ _ _
 refine iO (E:=TE) 7 Tryz.func97 rfl (by simp [Tryz.f97]) fun X hn hX=>?_
 rcases hk with rfl|rfl|hk|rfl
 ·have hC:=zZ hA1 hS
  have hC1:=aCZ hA1 hS
  generalize lY t f.shape=d at hC hC1
  repeat'(first|refine wkQ ?_|refine Tw.f ?_ ?_|(refine kcQ fS ?_;refine krQ (iN (f:=f) ?_) ?_)|(refine kcQ aH ?_;refine kwQ (hA) [(0,0)] [] ?_;clear hA)|(refine kcQ uV ?_;refine kwQ (hC) [(0,0),(1,9),(2,10),(3,11),(4,12),(5,15),(6,16),(7,17),(8,18)] [] ?_)|(refine fun(hc:(_:Bool)=_)=>?_;try simp only [hcS]at hc))
  all_goals try exact om_
  all_goals try(exfalso;omega)
  refine⟨(⟨d.1,f.sizes,f.acts⟩,d.2),⟨⟨hC1.2,hB.sizes,hB.acts,hB.row⟩,hC1.1⟩,?_⟩
  (first|refine aB ?_|refine aA ?_);simp only [go_sem,simprocAttr,Tryz.f97]
  all_goals repeat'(first|rfl|constructor)
 ·by_cases hz:0<f.sizes.length
  ·have hN:=aP (n:=(f.sizes.length:Int)) hA1
   have hN1:=aM (n:=(f.sizes.length:Int)) hA1
   have hN2:=aV (n:=(f.sizes.length:Int)) hA1 (by omega)
   generalize aL t (f.sizes.length:Int)=t2 at hN hN1
   generalize aK t (f.sizes.length:Int)=i at hN hN2
   have hP:Spec Tryz.prog 177 [.ptr 0 0, .sl 1] [(0,bB t2),(1,⟨1, .arr (ints [-1,0,1,2,17])⟩)] (iv ([-1,0,1,2,17].getD (aK t2 5).toNat 0)) [(0,bB (aL t2 5)),(1,⟨1, .arr (ints [-1,0,1,2,17])⟩)]:=zX (l:=[-1,0,1,2,17]) hN1 (by simp) (by simp)
   have hP1:=aM (n:=5) hN1
   generalize aL t2 5=t3 at hP hP1
   generalize ([-1,0,1,2,17]:List Int).getD (aK t2 5).toNat 0=v at hP
   repeat'(first|(refine dG 15 (Imp.arrAb 12 _ (aC f.shape.co) rfl rfl) ?_;simp only [go_sem,simprocAttr])|(with_reducible first|refine St.f ?_|refine V_c ?_|refine eDn ?_|refine And.intro ?_ ?_|refine aI ?_ ?_|refine aN ?_)|((refine aQ ?_);intro K hK)|((with_reducible refine So.f ?_);intro K hK;simp(contextual:=true)only [go_sem,simprocAttr])|((with_reducible refine hK _ ?_);clear hK K)|((with_reducible refine aE 102 ?_);refine EvCall.rr (iN (f:=f) ?_) fS ?_)|((with_reducible refine aE 42 ?_);refine EvCall.mr (hA) aH [(0,0)] [] ?_;clear hA)|((with_reducible refine aE 42 ?_);refine EvCall.mr (hN) aH [(0,0)] [] ?_)|((with_reducible refine aE 177 ?_);refine EvCall.mr (hP) uU [(0,0),(1,15)] [] ?_)|(refine fun(hc:(_:Bool)=_)=>?_;try simp only [hcS]at hc))
   all_goals try exact om_
   all_goals try(exfalso;omega)
   refine⟨(⟨f.shape,f.sizes.set i.toNat v,f.acts⟩,t3),⟨hB.sizes_ _ (List.length_set ..),hP1⟩,?_⟩
   (first|refine aB ?_|refine aA ?_);simp only [go_sem,simprocAttr,Tryz.f97]
   all_goals repeat'(first|rfl|constructor)
  ·repeat'(first|(refine dG 15 (Imp.arrAb 12 _ (aC f.shape.co) rfl rfl) ?_;simp only [go_sem,simprocAttr])|(with_reducible first|refine St.f ?_|refine V_c ?_|refine eDn ?_|refine And.intro ?_ ?_|refine aI ?_ ?_|refine aN ?_)|((refine aQ ?_);intro K hK)|((with_reducible refine So.f ?_);intro K hK;simp(contextual:=true)only [go_sem,simprocAttr])|((with_reducible refine hK _ ?_);clear hK K)|((with_reducible refine aE 102 ?_);refine EvCall.rr (iN (f:=f) ?_) fS ?_)|((with_reducible refine aE 42 ?_);refine EvCall.mr (hA) aH [(0,0)] [] ?_;clear hA)|(refine fun(hc:(_:Bool)=_)=>?_;try simp only [hcS]at hc))
   all_goals try exact om_
   all_goals try(exfalso;omega)
   refine⟨(f,t),⟨hB,hA1⟩,?_⟩
   (first|refine aB ?_|refine aA ?_);simp only [go_sem,simprocAttr,Tryz.f97]
   all_goals repeat'(first|rfl|constructor)
 ·have hN:=aP (n:=(f.acts.length:Int)) hA1
  have hN1:=aM (n:=(f.acts.length:Int)) hA1
  have hN2:=fun q:0<f.acts.length=>aV (n:=(f.acts.length:Int)) hA1 (by omega)
  generalize aL t (f.acts.length:Int)=t2 at hN hN1
  generalize aK t (f.acts.length:Int)=a at hN hN2
  by_cases hz:0<f.acts.length∧0<(f.acts.getD a.toNat []).length
  ·have hN2:=hN2 hz.1
   obtain⟨a,rfl⟩:∃b:Nat,a=b:=⟨_,(Int.toNat_of_nonneg hN2.1).symm⟩
   rw [Int.toNat_natCast]at hz
   have rb:=hB.row a (by omega)
   have h1:=aP (n:=((f.acts.getD a []).length:Int)) hN1
   have h11:=aM (n:=((f.acts.getD a []).length:Int)) hN1
   have h12:=aV (n:=((f.acts.getD a []).length:Int)) hN1 (by omega)
   generalize aL t2 ((f.acts.getD a []).length:Int)=t3 at h1 h11
   generalize aK t2 ((f.acts.getD a []).length:Int)=i at h1 h12
   have h2:=aP (n:=4) h11
   have h21:=aM (n:=4) h11
   have h22:=aV (n:=4) h11 (by decide)
   generalize aL t3 4=t4 at h2 h21
   generalize aK t3 4=u at h2 h22
   have h3:=aP (n:=8) h21
   have h31:=aM (n:=8) h21
   have h32:=aV (n:=8) h21 (by decide)
   generalize aL t4 8=t5 at h3 h31
   generalize aK t4 8=w at h3 h32
   have hw:w.tdiv 7=w/7:=Int.tdiv_eq_ediv_of_nonneg h32.1
   repeat'(first|((with_reducible refine(id ?_:V _ _ (Code.region 4 _ _) _ _));exfalso;omega)|((with_reducible refine(id ?_:V _ _ (Code.region 7 _ _) _ _));exfalso;omega)|(refine dG 12 (Imp.open_ 14 a (aC f.acts) [] (.inr ⟨rfl,rfl⟩) (Nat.le_refl 1) (by simp only [go_sem];omega) rfl (by simp only [go_sem]) rfl) ?_;simp only [go_sem,simprocAttr])|(refine dG 15 (Imp.trans (Imp.closeA 14 15 a _ _ rfl rfl (by decide) (by simp [go_sem,simprocAttr];omega)) (Imp.arrAb 12 _ (aC f.shape.co) rfl rfl)) ?_;simp only [go_sem,simprocAttr])|(with_reducible first|refine St.f ?_|refine V_c ?_|refine eDn ?_|refine And.intro ?_ ?_|refine aI ?_ ?_|refine aN ?_)|((refine aQ ?_);intro K hK)|((with_reducible refine So.f ?_);intro K hK;simp(contextual:=true)only [go_sem,simprocAttr])|((with_reducible refine hK _ ?_);clear hK K)|((with_reducible refine aE 102 ?_);refine EvCall.rr (iN (f:=f) ?_) fS ?_)|((with_reducible refine aE 42 ?_);refine EvCall.mr (hA) aH [(0,0)] [] ?_;clear hA)|((with_reducible refine aE 42 ?_);refine EvCall.mr (hN) aH [(0,0)] [] ?_;clear hN)|((with_reducible refine aE 42 ?_);refine EvCall.mr (h1) aH [(0,0)] [] ?_;clear h1)|((with_reducible refine aE 42 ?_);refine EvCall.mr (h2) aH [(0,0)] [] ?_;clear h2)|((with_reducible refine aE 42 ?_);refine EvCall.mr (h3) aH [(0,0)] [] ?_)|(refine fun(hc:(_:Bool)=_)=>?_;try simp only [hcS]at hc))
   all_goals try exact om_
   all_goals try(exfalso;omega)
   all_goals refine⟨(⟨f.shape,f.sizes,f.acts.set a ((f.acts.getD a []).set i.toNat (u-w.tdiv 7))⟩,t5),⟨hB.row_ _ _ (by rw [List.length_set];exact rb),h31⟩,?_⟩
   all_goals((first|refine aB ?_|refine aA ?_);simp only [go_sem,simprocAttr,Tryz.f97])
   all_goals repeat'(first|rfl|constructor)
  ·repeat'(first|((with_reducible refine(id ?_:V _ _ (Code.region 4 _ _) _ _));exfalso;omega)|((with_reducible refine(id ?_:V _ _ (Code.region 7 _ _) _ _));exfalso;omega)|(refine dG 15 (Imp.arrAb 12 _ (aC f.shape.co) rfl rfl) ?_;simp only [go_sem,simprocAttr])|((with_reducible refine(id ?_:V _ _ (Code.region 12 _ _) _ _));exfalso;omega)|(with_reducible first|refine St.f ?_|refine V_c ?_|refine eDn ?_|refine And.intro ?_ ?_|refine aI ?_ ?_|refine aN ?_)|((refine aQ ?_);intro K hK)|((with_reducible refine So.f ?_);intro K hK;simp(contextual:=true)only [go_sem,simprocAttr])|((with_reducible refine hK _ ?_);clear hK K)|((with_reducible refine aE 102 ?_);refine EvCall.rr (iN (f:=f) ?_) fS ?_)|((with_reducible refine aE 42 ?_);refine EvCall.mr (hA) aH [(0,0)] [] ?_;clear hA)|((with_reducible refine aE 42 ?_);refine EvCall.mr (hN) aH [(0,0)] [] ?_)|(refine fun(hc:(_:Bool)=_)=>?_;try simp only [hcS]at hc))
   all_goals try exact om_
   all_goals try(exfalso;omega)
   all_goals refine⟨(f,t2),⟨hB,hN1⟩,?_⟩
   all_goals((first|refine aB ?_|refine aA ?_);simp only [go_sem,simprocAttr,Tryz.f97])
   all_goals repeat'(first|rfl|constructor)
 ·repeat'(first|(refine dG 15 (Imp.arrAb 12 _ (aC f.shape.co) rfl rfl) ?_;simp only [go_sem,simprocAttr])|(with_reducible first|refine St.f ?_|refine V_c ?_|refine eDn ?_|refine And.intro ?_ ?_|refine aI ?_ ?_|refine aN ?_)|((refine aQ ?_);intro K hK)|((with_reducible refine So.f ?_);intro K hK;simp(contextual:=true)only [go_sem,simprocAttr])|((with_reducible refine hK _ ?_);clear hK K)|((with_reducible refine aE 102 ?_);refine EvCall.rr (iN (f:=f) ?_) fS ?_)|((with_reducible refine aE 42 ?_);refine EvCall.mr (hA) aH [(0,0)] [] ?_;clear hA)|(refine fun(hc:(_:Bool)=_)=>?_;try simp only [hcS]at hc))
  all_goals try exact om_
  all_goals try(exfalso;omega)
  refine⟨(⟨f.shape,f.sizes,f.acts++[[]]⟩,t),⟨hB.more_ (by omega),hA1⟩,?_⟩
  (first|refine aB ?_|refine aA ?_);simp only [go_sem,simprocAttr,Tryz.f97]
  all_goals repeat'(first|rfl|constructor)
end Go.Eng
