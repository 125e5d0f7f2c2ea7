/- Several texts in one: E24, E25. -/
import Derived.Test.YtipohdpnhodnmaaGreatE23q
import Derived.Test.YtipohdpnhodnmaaGreatO11y
import Derived.Test.YtipohdpnhodnmaaGreatE15q
set_option linter.unusedSimpArgs false
set_option linter.unusedVariables false
set_option maxRecDepth 100000
set_option maxHeartbeats 32000000
section
namespace Go.Eng
open Go Go.Proofs Go.Cats
attribute [local go_sem] List.set_cons_zero List.set_cons_succ
theorem iV:aF Tryz.prog 20:=⟨_,Tryz.func20,rfl,rfl⟩
theorem nT {f:SF} (s:IsSF f) (hb:SFB f) (hy:ElY f):Spec Tryz.prog 20 [sfV f] [] (.tup [.agg [iv (elO f).length, .sl 0, .sl 1, .sl 2, .sl 3], .sl 4, .sl 5,iv 0]) [(0,⟨1, .arr (ints (elK f).fr)⟩),(1,⟨1, .arr (ints (elK f).to)⟩),(2,⟨1, .arr (ints (elK f).id)⟩),(3,⟨1, .arr (aC (elK f).co)⟩),(4,⟨1, .arr (aC (elO f))⟩),(5,⟨1, .arr (aC (elA f))⟩)]:=by
 have hE:=dA s hb (.inl ⟨hy,rfl,rfl⟩)
 refine aD (E:=TE) 0 Tryz.func20 rfl (by simp [Tryz.f20]) fun X hn hX=>?_
 repeat'(first|refine wkQ ?_|refine Tw.f ?_ ?_|(refine kcQ bC ?_;refine krQ (bI (f:=f) ?_) ?_)|(refine kcQ dE ?_;refine kwQ (hE) [(0,2),(1,3),(2,4),(3,5),(4,6),(5,7),(6,8),(7,9),(8,10)] [0] ?_)|(refine fun(hc:(_:Bool)=_)=>?_;try simp only [hcS]at hc))
 all_goals try exact om_
 ·exact absurd s (by assumption)
 ·(first|refine aB ?_|refine aA ?_);simp only [go_sem,simprocAttr,Tryz.f20]
theorem nS {f:SF} (s:IsSF f) (hb:SFB f) (hy:¬ElY f):Spec Tryz.prog 20 [sfV f] [] (.tup [.agg [iv 0, .v (.slice none 0 0), .v (.slice none 0 0), .v (.slice none 0 0), .v (.slice none 0 0)], .v (.slice none 0 0), .v (.slice none 0 0),iv 3]) []:=by
 have hE:=dA s hb (.inr ⟨hy,rfl,rfl⟩)
 refine aD (E:=TE) 0 Tryz.func20 rfl (by simp [Tryz.f20]) fun X hn hX=>?_
 repeat'(first|refine wkQ ?_|refine Tw.f ?_ ?_|(refine kcQ bC ?_;refine krQ (bI (f:=f) ?_) ?_)|(refine kcQ dE ?_;refine kwQ (hE) [] [0] ?_)|(refine fun(hc:(_:Bool)=_)=>?_;try simp only [hcS]at hc))
 all_goals try exact om_
 ·exact absurd s (by assumption)
 ·(first|refine aB ?_|refine aA ?_);simp only [go_sem,simprocAttr,Tryz.f20]
theorem xY:aF Tryz.prog 136:=⟨_,Tryz.func136,rfl,rfl⟩
theorem aAW {c:Cat} {a b:Nat} (sc:Shape c) (ha:a<c.fr.length) (hb:b<c.fr.length):Spec Tryz.prog 136 [iv a,iv b, .bptr [] [.pt (dJ c)]] [] (iv (c.C b a)) []:=by
 have f6:=sc.col
 have f7:=sc.comp_row (f:=(b:Int)) (by omega) (by omega)
 refine aD (E:=TE) 0 Tryz.func136 rfl (by simp [Tryz.f136]) fun X hn hX=>?_
 repeat'(first|refine wkQ ?_|refine Tw.f ?_ ?_|(refine kcQ bZ ?_;refine krQ (cN (c:=c) ?_ ?_ ?_ ?_) ?_)|(refine fun(hc:(_:Bool)=_)=>?_;try simp only [hcS]at hc))
 all_goals try exact om_
 (first|refine aB ?_|refine aA ?_);simp only [go_sem,simprocAttr,Tryz.f136]
noncomputable def aRH (c:Cat):LC:=⟨[.bptr [] [.pt (dJ c)]],rfl⟩
@[go_sem] theorem aWi (c:Cat):(aRH c).l=[.bptr [] [.pt (dJ c)]]:=rfl
theorem aRI (c:Cat) (h:c.to.length=c.fr.length):fH c.to c.fr (fun a b=>c.C b a) c.to.length=(jJ c).co:=by
 unfold fH jJ
 refine List.map_congr_left fun i hi=>List.map_congr_left fun j hj=>?_
 unfold aCP
 rfl
theorem aCa:aF Tryz.prog 69:=⟨_,Tryz.func69,rfl,rfl⟩
theorem aEg {c:Cat} (sc:Shape c):Spec Tryz.prog 69 [.bptr [] (dJ c)] [] (.agg [iv c.ob, .sl 0, .sl 1, .sl 2, .sl 3]) [(0,⟨1, .arr (ints c.to)⟩),(1,⟨1, .arr (ints c.fr)⟩),(2,⟨1, .arr (ints c.id)⟩),(3,⟨1, .arr (aC (jJ c).co)⟩)]:=by
 refine aD (E:=TE) 0 Tryz.func69 rfl (by simp [Tryz.f69]) fun X hn hX=>?_
 have m40:=sc.m40
 have tol:=sc.tol
 have idl:=sc.idl
 have o8:=sc.ob8
 have T:=sR (ob:=c.ob) (fr:=c.to) (to:=c.fr) (id:=c.id) (F:=136) (cp:=aRH c) (h:=fun a b=>c.C b a) xY (fun a b ha hb _=>aAW sc (by omega) (by omega)) (by omega) (by omega) sc.ob0
 have k1:=mN (l:=c.to) (by omega)
 have k2:=mN (l:=c.fr) (by omega)
 have k3:=mN (l:=c.id) (by omega)
 repeat'(first|refine wkQ ?_|refine Tw.f ?_ ?_|(refine kcQ jM ?_;refine kwQ (k1) [(0,3)] [] ?_;clear k1)|(refine kcQ jM ?_;refine kwQ (k2) [(0,4)] [] ?_;clear k2)|(refine kcQ jM ?_;refine kwQ (k3) [(0,5)] [] ?_)|(refine kcQ jV ?_;refine kwQ (T) [(0,6),(1,3),(2,4),(3,5),(4,7)] [0] ?_)|(refine fun(hc:(_:Bool)=_)=>?_;try simp only [hcS]at hc))
 all_goals try exact om_
 all_goals try omega
 (first|refine aB ?_|refine aA ?_);simp only [go_sem,simprocAttr,Tryz.f69]
 rw [←aRI c tol,tol]
theorem qH:aF Tryz.prog 21:=⟨_,Tryz.func21,rfl,rfl⟩
theorem sS {c:Cat} (s:IsCat c) (hb:CatB c):Spec Tryz.prog 21 [jX c] [] (.tup [.sl 0,iv 0]) [(0,⟨1, .arr (ints (aA4 (jJ c)))⟩)]:=by
 refine aD (E:=TE) 0 Tryz.func21 rfl (by simp [Tryz.f21]) fun X hn hX=>?_
 have so:=aJ1 s.toShape
 have hop:=aEg s.toShape
 have T:=oR so
 repeat'(first|refine wkQ ?_|refine Tw.f ?_ ?_|(refine kcQ fW ?_;refine krQ (gP (c:=c) ?_) ?_)|(refine kcQ aCa ?_;refine kwQ (hop) [(0,1),(1,2),(2,3),(3,4)] [0] ?_)|(refine kcQ nQ ?_;refine kwQ (T) [(0,6)] [5,1,2,3,4] ?_)|(refine fun(hc:(_:Bool)=_)=>?_;try simp only [hcS]at hc))
 all_goals try exact om_
 ·exact absurd s (by assumption)
 ·(first|refine aB ?_|refine aA ?_);simp only [go_sem,simprocAttr,Tryz.f21]
end Go.Eng
end
section
namespace Go.Eng
open Go Go.Proofs Go.Cats
attribute [local go_sem] List.set_cons_zero List.set_cons_succ
theorem aIx (k:Int) (f:Nat) (s:RnS) (c:Cat):(dI k f s c).1.fr.length≤c.fr.length+1:=by
 unfold dI
 repeat' split
 all_goals first
  |(show c.fr.length≤_;omega)
  |(show(c.fr++[0]).length≤_;rw [List.length_append];exact Nat.le_refl _)
theorem aBc {s:RnS} {o m:Int} (hs:RnOk s) (ho:o≤8) (hm:m≤40) (ho1:1≤o) (hm1:1≤m):((jZ s o m).1.fr.length:Int)≤m+1:=by
 obtain⟨h1,h2,_,h4⟩:=xK ho hm ho1 hm1 12 s hs
 unfold jZ
 split
 ·have:=aIx (aK (aL (aL (dV o m 12 s).2 24) (dV o m 12 s).1.fr.length) 8) (aK (aL (dV o m 12 s).2 24) (dV o m 12 s).1.fr.length).toNat (aL (aL (aL (dV o m 12 s).2 24) (dV o m 12 s).1.fr.length) 8) (dV o m 12 s).1
  unfold lY
  omega
 ·show((dV o m 12 s).1.fr.length:Int)≤_
  omega
theorem aGX {s:RnS} (hs:RnOk s):(pY s).1.fr.length≤13:=by
 unfold pY
 split
 ·have:=aBc (o:=2) (m:=6) (aM (n:=3) hs) (by decide) (by decide) (by decide) (by decide)
  omega
 ·have:=aBc (o:=4) (m:=12) (aM (n:=3) hs) (by decide) (by decide) (by decide) (by decide)
  omega
theorem aFy {c:Cat} (hb:CatB c):Spec Tryz.prog 62 [aEO 0 c] (aC9 0 c) (bv (dec (IsCat c))) (aC9 0 c):=by
 refine aD (E:=TE) 4 Tryz.func62 rfl (by simp [Tryz.f62]) fun X hn hX=>?_
 repeat'(first|(refine dG 1 (Imp.cellRd 4 4 3 _ _ _ (aC c.co) rfl (by decide) rfl rfl) ?_;simp only [go_sem,simprocAttr])|(with_reducible first|refine St.f ?_|refine V_c ?_|refine And.intro ?_ ?_|refine aI ?_ ?_)|((refine aQ ?_);intro K hK)|((with_reducible refine So.f ?_);intro K hK;simp(contextual:=true)only [go_sem,simprocAttr])|((with_reducible refine hK _ ?_);clear hK K)|((with_reducible refine aE 121 ?_);refine EvCall.rr (zR ?_) uP ?_)|((with_reducible refine aE 122 ?_);refine EvCall.rr (vJ ?_) rQ ?_)|(refine fun(hc:(_:Bool)=_)=>?_;try simp only [hcS]at hc))
 all_goals try exact om_
 ·(first|refine aB ?_|refine aA ?_);simp only [go_sem,simprocAttr,Tryz.f62]
  exact cW (fun s=>hc s.toShape)
 ·(first|refine aB ?_|refine aA ?_);simp only [go_sem,simprocAttr,Tryz.f62]
  rw [←jC,cB hc.fault_zero]
theorem iA:aF Tryz.prog 17:=⟨_,Tryz.func17,rfl,rfl⟩
theorem gV {l:List Int} (h:CodeOk l):
  SpecE Tryz.prog 17 [.bor [] (bys l)] [] (fun z:SF=>SFB z) (fun z=> .agg [iv z.shape.ob, .sl 0, .sl 1, .sl 2, .bor [(3,1)] (aC z.shape.co), .sl 4, .sl 5]) (fun z=>sfW 0 z):=by
 have hF:=aFw (l:=l) h.len
 have hs:=h.src
 generalize from_ l=s at hF hs
 have hB:=aFA hs
 obtain⟨hB1,hB2⟩:=aIu hs
 have hfew:=aGX hs
 generalize pY s=d at hB hB1 hB2 hfew
 obtain⟨c,t⟩:=d
 simp only at hB hB1 hB2 hfew
 refine iO (E:=TE) 0 Tryz.func17 rfl (by simp [Tryz.f17]) fun X hn hX=>?_
 have hIs:=aFy hB2
 by_cases hc1:IsCat c
 ·have hD:=sX (size:=4) hB1 hB2 hc1 (by decide) (by decide)
  rw [lE hc1]at hIs
  have hN:=aP (n:=3) hB1
  have hN1:=aM (n:=3) hB1
  have hD2:=sX (size:=4) hN1 hB2 hc1 (by decide) (by decide)
  by_cases hob:0<c.ob
  ·generalize aK t 3=d3 at hN
   generalize aL t 3=t2 at hN hN1 hD2
   by_cases h3:0<d3
   ·have hM:=aP (n:=c.ob) hN1
    have hM1:=aM (n:=c.ob) hN1
    have hx:=aV (n:=c.ob) hN1 hob
    generalize aK t2 c.ob=x at hM hx
    generalize aL t2 c.ob=t3 at hM hM1
    have hR:=aH4 (x:=x) hc1.toShape hB2
    have hsm:c.small x:=fun y _=>Nat.le_trans (Cat.hom_len c x y) (by omega)
    have hI:=aGD hc1 hx.1 hx.2 hsm
    have hfb:SFB (c.rep x):=Cat.rep_sfb hc1.toShape hB2 x
    have hX2:=aAV hM1 hI hfb
    repeat'(first|(refine dG 4 (Imp.cellRd 6 4 5 _ _ _ (aC c.co) rfl (by decide) rfl rfl) ?_;simp only [go_sem,simprocAttr])|((with_reducible refine(id ?_:V _ _ (Code.region 5 _ _) _ _));refine gY 5 (by rw [hn];rfl) ?_;intro K hK)|(refine kC hX2 aB7 [(0,1),(1,14),(2,15),(3,16),(4,17),(5,18),(6,19),(7,20)] [7,8,9,10,11,12] (by simp only [go_sem,simprocAttr];rfl) (by simp [go_sem]) (by simp [go_sem]<;>(repeat'(first|rfl|constructor))) ?_;intro z hz;obtain⟨f,ps,t4⟩:=z;obtain⟨z1,z2⟩:=hz;simp only at z1 z2;simp only [go_sem,simprocAttr])|((with_reducible refine iW ?_);intro K hK;simp(contextual:=true)only [go_sem,simprocAttr])|(with_reducible refine eZ ?_)|((with_reducible refine(id ?_:V _ _ Code.ret _ _));refine cZ (Imp.arrAb 17 _ (aC f.shape.co) rfl rfl) ?_;refine cZ (Imp.cellRd 0 4 17 _ _ _ (aC f.shape.co) rfl (by decide) rfl rfl) ?_;simp only [go_sem,simprocAttr])|(with_reducible first|refine St.f ?_|refine V_c ?_|refine eDn ?_|refine And.intro ?_ ?_|refine aI ?_ ?_)|((refine aQ ?_);intro K hK)|((with_reducible refine So.f ?_);intro K hK;simp(contextual:=true)only [go_sem,simprocAttr])|((with_reducible refine hK _ ?_);clear hK K)|((with_reducible refine aE 38 ?_);refine EvCall.mr (hF) lB [(0,1)] [] ?_)|((with_reducible refine aE 40 ?_);refine EvCall.mr (hB) lD [(0,1),(1,2),(2,3),(3,4),(4,5)] [] ?_)|((with_reducible refine aE 62 ?_);refine EvCall.mr (hIs) gZ [(0,2),(1,3),(2,4),(3,5)] [] ?_)|((with_reducible refine aE 42 ?_);refine EvCall.mr (hN) aH [(0,1)] [] ?_;clear hN)|((with_reducible refine aE 42 ?_);refine EvCall.mr (hM) aH [(0,1)] [] ?_)|((with_reducible refine aE 63 ?_);refine EvCall.mr (hR) aEM [(0,7),(1,8),(2,9),(3,10),(4,11),(5,12)] [2,3,4,5] ?_)|(refine fun(hc:(_:Bool)=_)=>?_;try simp only [hcS]at hc))
    all_goals try exact om_
    all_goals try(exfalso;omega)
    refine⟨f,z1,?_⟩
    (first|refine aB ?_|refine aA ?_);simp only [go_sem,simprocAttr,Tryz.f17]
    all_goals repeat'(first|rfl|constructor)
   ·repeat'(first|((with_reducible refine(id ?_:V _ _ (Code.region 4 _ _) _ _));exfalso;omega)|((with_reducible refine(id ?_:V _ _ (Code.region 7 _ _) _ _));exfalso;omega)|((with_reducible refine(id ?_:V _ _ (Code.region 7 _ _) _ _));refine gY 7 (by rw [hn];rfl) ?_;intro K hK)|(refine kC hD2 oE [(0,1),(1,2),(2,3),(3,4),(4,5),(5,7),(6,8),(7,9),(8,10),(9,11),(10,12)] [] (by simp only [go_sem,simprocAttr];rfl) (by simp [go_sem]) (by simp [go_sem]<;>(repeat'(first|rfl|constructor))) ?_;intro z hz;obtain⟨f,t4⟩:=z;obtain⟨z1,z2⟩:=hz;simp only at z1 z2;simp only [go_sem,simprocAttr])|((with_reducible refine iW ?_);intro K hK;simp(contextual:=true)only [go_sem,simprocAttr])|(with_reducible refine eZ ?_)|((with_reducible refine(id ?_:V _ _ Code.ret _ _));refine cZ (Imp.cellRd 0 4 10 _ _ _ (aC f.shape.co) rfl (by decide) rfl rfl) ?_;simp only [go_sem,simprocAttr])|(with_reducible first|refine St.f ?_|refine V_c ?_|refine eDn ?_|refine And.intro ?_ ?_|refine aI ?_ ?_)|((refine aQ ?_);intro K hK)|((with_reducible refine So.f ?_);intro K hK;simp(contextual:=true)only [go_sem,simprocAttr])|((with_reducible refine hK _ ?_);clear hK K)|((with_reducible refine aE 38 ?_);refine EvCall.mr (hF) lB [(0,1)] [] ?_)|((with_reducible refine aE 40 ?_);refine EvCall.mr (hB) lD [(0,1),(1,2),(2,3),(3,4),(4,5)] [] ?_)|((with_reducible refine aE 62 ?_);refine EvCall.mr (hIs) gZ [(0,2),(1,3),(2,4),(3,5)] [] ?_)|((with_reducible refine aE 42 ?_);refine EvCall.mr (hN) aH [(0,1)] [] ?_)|(refine fun(hc:(_:Bool)=_)=>?_;try simp only [hcS]at hc))
    all_goals try exact om_
    all_goals try(exfalso;omega)
    refine⟨f,z1,?_⟩
    (first|refine aB ?_|refine aA ?_);simp only [go_sem,simprocAttr,Tryz.f17]
    all_goals repeat'(first|rfl|constructor)
  ·repeat'(first|((with_reducible refine(id ?_:V _ _ (Code.region 4 _ _) _ _));exfalso;omega)|((with_reducible refine(id ?_:V _ _ (Code.region 7 _ _) _ _));exfalso;omega)|((with_reducible refine(id ?_:V _ _ (Code.region 7 _ _) _ _));refine gY 7 (by rw [hn];rfl) ?_;intro K hK)|(refine kC hD oE [(0,1),(1,2),(2,3),(3,4),(4,5),(5,7),(6,8),(7,9),(8,10),(9,11),(10,12)] [] (by simp only [go_sem,simprocAttr];rfl) (by simp [go_sem]) (by simp [go_sem]<;>(repeat'(first|rfl|constructor))) ?_;intro z hz;obtain⟨f,t4⟩:=z;obtain⟨z1,z2⟩:=hz;simp only at z1 z2;simp only [go_sem,simprocAttr])|((with_reducible refine iW ?_);intro K hK;simp(contextual:=true)only [go_sem,simprocAttr])|(with_reducible refine eZ ?_)|((with_reducible refine(id ?_:V _ _ Code.ret _ _));refine cZ (Imp.cellRd 0 4 10 _ _ _ (aC f.shape.co) rfl (by decide) rfl rfl) ?_;simp only [go_sem,simprocAttr])|(with_reducible first|refine St.f ?_|refine V_c ?_|refine eDn ?_|refine And.intro ?_ ?_|refine aI ?_ ?_)|((refine aQ ?_);intro K hK)|((with_reducible refine So.f ?_);intro K hK;simp(contextual:=true)only [go_sem,simprocAttr])|((with_reducible refine hK _ ?_);clear hK K)|((with_reducible refine aE 38 ?_);refine EvCall.mr (hF) lB [(0,1)] [] ?_)|((with_reducible refine aE 40 ?_);refine EvCall.mr (hB) lD [(0,1),(1,2),(2,3),(3,4),(4,5)] [] ?_)|((with_reducible refine aE 62 ?_);refine EvCall.mr (hIs) gZ [(0,2),(1,3),(2,4),(3,5)] [] ?_)|((with_reducible refine aE 42 ?_);refine EvCall.mr (hN) aH [(0,1)] [] ?_)|(refine fun(hc:(_:Bool)=_)=>?_;try simp only [hcS]at hc))
   all_goals try exact om_
   all_goals try(exfalso;omega)
   refine⟨f,z1,?_⟩
   (first|refine aB ?_|refine aA ?_);simp only [go_sem,simprocAttr,Tryz.f17]
   all_goals repeat'(first|rfl|constructor)
 ·have hD:=aAU (s:=t) (size:=4) hB2 hc1
  rw [mF hc1]at hIs
  have hfb:SFB ⟨c,[],[]⟩:=⟨hB2,by simp,by simp,fun a ha=>by simp at ha⟩
  repeat'(first|((with_reducible refine(id ?_:V _ _ Code.ret _ _));refine cZ (Imp.adoptBi 0 5 _ _ rfl rfl rfl (by rw [hX];rfl)) ?_;refine cZ (Imp.adoptBs 0 6 _ _ rfl rfl rfl (by rw [hX];rfl)) ?_;simp only [go_sem,simprocAttr])|(with_reducible first|refine St.f ?_|refine V_c ?_|refine eDn ?_|refine And.intro ?_ ?_|refine aI ?_ ?_)|((refine aQ ?_);intro K hK)|((with_reducible refine So.f ?_);intro K hK;simp(contextual:=true)only [go_sem,simprocAttr])|((with_reducible refine hK _ ?_);clear hK K)|((with_reducible refine aE 38 ?_);refine EvCall.mr (hF) lB [(0,1)] [] ?_)|((with_reducible refine aE 40 ?_);refine EvCall.mr (hB) lD [(0,1),(1,2),(2,3),(3,4),(4,5)] [] ?_)|((with_reducible refine aE 62 ?_);refine EvCall.mr (hIs) gZ [(0,2),(1,3),(2,4),(3,5)] [] ?_)|((with_reducible refine aE 39 ?_);refine EvCall.mr (hD) oE [(0,1),(1,2),(2,3),(3,4),(4,5)] [] ?_)|(refine fun(hc:(_:Bool)=_)=>?_;try simp only [hcS]at hc))
  all_goals try exact om_
  refine⟨⟨c,[],[]⟩,hfb,?_⟩
  (first|refine aB ?_|refine aA ?_);simp only [go_sem,simprocAttr,Tryz.f17]
  all_goals repeat'(first|rfl|constructor)
end Go.Eng
end
