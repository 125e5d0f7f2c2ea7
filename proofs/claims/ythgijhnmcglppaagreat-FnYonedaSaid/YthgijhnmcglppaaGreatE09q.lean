/- An element is drawn, by the reference; DrawElementMap: what is known of what it draws. -/
import Derived.Test.YthgijhnmcglppaaGreatE08q
set_option linter.unusedSimpArgs false
set_option linter.unusedVariables false
set_option maxRecDepth 100000
set_option maxHeartbeats 32000000
namespace Go.Eng
open Go Go.Proofs Go.Cats
attribute [local go_sem] List.set_cons_zero List.set_cons_succ
theorem rO:aE Tryz.prog 130:=⟨_,Tryz.func130,rfl,rfl⟩
theorem qC {s:RnS} {f:SF} (hs:RnOk s) (hb:SFB f):
  SpecE Tryz.prog 130 [.ptr 0 0,sfV f] [(0,bA s)] (fun z:Int×Int×RnS=>RnOk z.2.2) (fun z=> .tup [iv z.1,iv z.2.1]) (fun z=>[(0,bA z.2.2)]):=by
 have hN:=tA (n:=f.shape.ob) hs
 have hN1:=aFR (n:=f.shape.ob) hs
 generalize aB6 s f.shape.ob=t at hN hN1
 generalize aEN s f.shape.ob=x0 at hN
 have hA:=aP (n:=3) hN1
 have hA1:=aM (n:=3) hN1
 generalize aL t 3=t2 at hA hA1
 generalize aK t 3=d at hA
 refine iT (E:=TE) 1 Tryz.func130 rfl (by simp [Tryz.f130]) fun X hn hX=>?_
 by_cases hI:IsSF f
 ·have o0:=hI.cat.toShape.ob0
  have o8:=hI.cat.toShape.ob8
  have szl:=hI.szl
  repeat'(first|refine wkQ ?_|refine Tw.f ?_ ?_|(refine kcQ lQ ?_;refine kwQ (hN) [(0,0)] [] ?_)|(refine fun(hc:(_:Bool)=_)=>?_;try simp only [hcS]at hc))
  all_goals try exact om_
  all_goals try(exfalso;omega)
  refine aH (G:={p:Nat×Int//p.1≤8}) (fun p=>[(7,iv p.1.1),(6,iv p.1.2)]) [0,3,4,5] (fun p=>[(0,bA t)]) [0] (fun p=>8-p.1.1) ⟨(0,x0),Nat.zero_le _⟩ ?_ ?_
  ·exact Imp.au hX
  rintro⟨⟨k,x⟩,hk0⟩
  simp only at hk0
  simp only [go_sem,simprocAttr]
  by_cases hx:0≤x∧x<f.shape.ob
  ·have hM:=tA (n:=f.sizes.getD x.toNat 0) hN1
   have hM1:=aFR (n:=f.sizes.getD x.toNat 0) hN1
   generalize aB6 t (f.sizes.getD x.toNat 0)=t3 at hM hM1
   generalize aEN t (f.sizes.getD x.toNat 0)=e at hM
   repeat'(first|refine wkQ ?_|refine Tw.f ?_ ?_|(refine kcQ iD ?_;refine krQ (kP (f:=f) ?_) ?_)|(refine kcQ lS ?_;refine krQ (nJ (c:=f.shape) (x:=x)) ?_)|(refine kcQ lQ ?_;refine kwQ (hM) [(0,0)] [] ?_)|(refine fun(hc:(_:Bool)=_)=>?_;try simp only [hcS]at hc))
   all_goals try exact om_
   all_goals try(exfalso;omega)
   all_goals try exact absurd hI (by assumption)
   all_goals try exact absurd hx (by assumption)
   all_goals try refine⟨⟨(k+1,(x+1).tmod f.shape.ob),by simp only;omega⟩,by simp only;omega,Imp.ao hX⟩
   all_goals refine⟨(x,e,t3),hM1,?_⟩
   all_goals((first|refine aB ?_|refine aA ?_);simp only [go_sem,simprocAttr,Tryz.f130])
  ·repeat'(first|refine wkQ ?_|refine Tw.f ?_ ?_|(refine kcQ iD ?_;refine krQ (kP (f:=f) ?_) ?_)|(refine kcQ lS ?_;refine krQ (nJ (c:=f.shape) (x:=x)) ?_)|(refine kcQ aF ?_;refine kwQ (hA) [(0,0)] [] ?_)|(refine fun(hc:(_:Bool)=_)=>?_;try simp only [hcS]at hc))
   all_goals try exact om_
   all_goals try(exfalso;omega)
   all_goals try exact absurd hI (by assumption)
   all_goals try exact absurd (by assumption) hx
   all_goals refine⟨(x,d,t2),hA1,?_⟩
   all_goals((first|refine aB ?_|refine aA ?_);simp only [go_sem,simprocAttr,Tryz.f130])
 ·repeat'(first|refine wkQ ?_|refine Tw.f ?_ ?_|(refine kcQ lQ ?_;refine kwQ (hN) [(0,0)] [] ?_)|(refine fun(hc:(_:Bool)=_)=>?_;try simp only [hcS]at hc))
  all_goals try exact om_
  all_goals try(exfalso;omega)
  refine aH (G:={p:Nat//p≤0}) (fun p=>[(7,iv p.1),(6,iv x0)]) [0,3,4,5] (fun p=>[(0,bA t)]) [0] (fun p=>0) ⟨0,Nat.le_refl _⟩ ?_ ?_
  ·exact Imp.au hX
  rintro⟨k,hk0⟩
  obtain rfl:k=0:=by omega
  simp only [go_sem,simprocAttr]
  repeat'(first|refine wkQ ?_|refine Tw.f ?_ ?_|(refine kcQ iD ?_;refine krQ (kP (f:=f) ?_) ?_)|(refine kcQ aF ?_;refine kwQ (hA) [(0,0)] [] ?_)|(refine fun(hc:(_:Bool)=_)=>?_;try simp only [hcS]at hc))
  all_goals try exact om_
  all_goals try(exfalso;omega)
  all_goals try exact absurd (by assumption) hI
  all_goals refine⟨(x0,d,t2),hA1,?_⟩
  all_goals((first|refine aB ?_|refine aA ?_);simp only [go_sem,simprocAttr,Tryz.f130])
theorem mC:aE Tryz.prog 44:=⟨_,Tryz.func44,rfl,rfl⟩
theorem lY {l:List Int} (h:CodeOk l):
  SpecE Tryz.prog 44 [.bor [] (bys l)] [] (fun z:SF×Int×Int=>SFB z.1) (fun z=> .tup [.agg [iv z.1.shape.ob, .sl 0, .sl 1, .sl 2, .bor [(3,1)] (aC z.1.shape.co), .sl 4, .sl 5],iv z.2.1,iv z.2.2]) (fun z=>sfW 0 z.1):=by
 have hF:=aE6 (l:=l) h.len
 have hs:=h.src
 generalize from_ l=s at hF hs
 have hB:=aE9 hs
 obtain⟨hB1,hB2⟩:=aHM hs
 generalize uP s=d at hB hB1 hB2
 obtain⟨c,t⟩:=d
 simp only at hB hB1 hB2
 refine iT (E:=TE) 0 Tryz.func44 rfl (by simp [Tryz.f44]) fun X hn hX=>?_
 by_cases hc1:IsCat c
 ·have hD:=aCo (size:=5) hB1 hB2 hc1 (by decide) (by decide)
  repeat'(first|((with_reducible refine(id ?_:V _ _ (Code.region 2 _ _) _ _));refine iB 2 (by rw [hn];rfl) ?_;intro K hK)|(refine cZ 3 (Imp.cellRd 12 4 9 _ _ _ (aC f.shape.co) rfl (by decide) rfl rfl) ?_;simp only [go_sem,simprocAttr])|((with_reducible refine(id ?_:V _ _ (Code.region 3 _ _) _ _));refine iB 3 (by rw [hn];rfl) ?_;intro K hK)|(refine kD hD vB [(0,1),(1,2),(2,3),(3,4),(4,5),(5,6),(6,7),(7,8),(8,9),(9,10),(10,11)] [] (by simp only [go_sem,simprocAttr];rfl) (by simp [go_sem]) (by simp [go_sem]<;>(repeat'(first|rfl|constructor))) ?_;intro z hz;obtain⟨f,t2⟩:=z;obtain⟨z1,z2⟩:=hz;simp only at z1 z2;have hP:=qC z2 z1;simp only [go_sem,simprocAttr])|(refine kD hP rO [(0,1)] [6,7,8,9,10,11,2,3,4,5] (by simp only [go_sem,simprocAttr];rfl) (by simp [go_sem]) (by simp [go_sem]<;>(repeat'(first|rfl|constructor))) ?_;intro y hy;simp only [go_sem,simprocAttr])|((with_reducible refine kE ?_);intro K hK;simp(contextual:=true)only [go_sem,simprocAttr])|(with_reducible refine fY ?_)|(with_reducible first|refine St.f ?_|refine V_c ?_|refine And.intro ?_ ?_|refine aJ ?_ ?_)|((refine aT ?_);intro K hK)|((with_reducible refine So.f ?_);intro K hK;simp(contextual:=true)only [go_sem,simprocAttr])|((with_reducible refine hK _ ?_);clear hK K)|((with_reducible refine aG 77 ?_);refine EvCall.mr (hF) uS [(0,1)] [] ?_)|((with_reducible refine aG 129 ?_);refine EvCall.mr (hB) vA [(0,1),(1,2),(2,3),(3,4),(4,5)] [] ?_)|(refine fun(hc:(_:Bool)=_)=>?_;try simp only [hcS]at hc))
  all_goals try exact om_
  refine⟨(f,y.1,y.2.1),z1,?_⟩
  (first|refine aB ?_|refine aA ?_);simp only [go_sem,simprocAttr,Tryz.f44]
  all_goals repeat'(first|rfl|constructor)
 ·have hD:=aAF (s:=t) (size:=5) hB2 hc1
  have hfb:SFB ⟨c,[],[]⟩:=⟨hB2,by simp,by simp,fun a ha=>by simp at ha⟩
  have hP:=qC hB1 hfb
  repeat'(first|(refine cZ 3 (Imp.adoptBi 6 5 _ _ rfl rfl rfl (by rw [hX];rfl)) ?_;refine dN (Imp.adoptBs 6 6 _ _ rfl rfl rfl (by rw [hX];rfl)) ?_;simp only [go_sem,simprocAttr])|((with_reducible refine(id ?_:V _ _ (Code.region 3 _ _) _ _));refine iB 3 (by rw [hn];rfl) ?_;intro K hK)|(refine kD hP rO [(0,1)] [2,3,4,5,7,8] (by simp only [go_sem,simprocAttr];rfl) (by simp [go_sem]) (by simp [go_sem]<;>(repeat'(first|rfl|constructor))) ?_;intro y hy;simp only [go_sem,simprocAttr])|((with_reducible refine kE ?_);intro K hK;simp(contextual:=true)only [go_sem,simprocAttr])|(with_reducible refine fY ?_)|(with_reducible first|refine St.f ?_|refine V_c ?_|refine And.intro ?_ ?_|refine aJ ?_ ?_)|((refine aT ?_);intro K hK)|((with_reducible refine So.f ?_);intro K hK;simp(contextual:=true)only [go_sem,simprocAttr])|((with_reducible refine hK _ ?_);clear hK K)|((with_reducible refine aG 77 ?_);refine EvCall.mr (hF) uS [(0,1)] [] ?_)|((with_reducible refine aG 129 ?_);refine EvCall.mr (hB) vA [(0,1),(1,2),(2,3),(3,4),(4,5)] [] ?_)|((with_reducible refine aG 128 ?_);refine EvCall.mr (hD) vB [(0,1),(1,2),(2,3),(3,4),(4,5)] [] ?_)|(refine fun(hc:(_:Bool)=_)=>?_;try simp only [hcS]at hc))
  all_goals try exact om_
  refine⟨(⟨c,[],[]⟩,y.1,y.2.1),hfb,?_⟩
  (first|refine aB ?_|refine aA ?_);simp only [go_sem,simprocAttr,Tryz.f44]
  all_goals repeat'(first|rfl|constructor)
end Go.Eng
