/- Functors one behind the other by the program; objects of comma categories, both; transformations by the program. -/
import Derived.Test.YtbflkfamigcncaaGreatR01q
import Derived.Test.YtbflkfamigcncaaGreatKsx
set_option linter.unusedSimpArgs false
set_option linter.unusedVariables false
set_option maxRecDepth 100000
set_option maxHeartbeats 16000000
namespace Go.Eng
open Go Go.Proofs Go.Cats
attribute [local go_sem] gS gT
abbrev fnO (n:Nat) (f:Fun):Sv:= .agg [iv f.src.ob, .sl n, .sl (n+1), .sl (n+2), .sl (n+3),iv f.tgt.ob, .sl (n+4), .sl (n+5), .sl (n+6), .sl (n+7), .sl (n+8), .sl (n+9)]
abbrev fnQ (n:Nat) (f:Fun):List (Nat×Rs):=[(n,⟨1, .arr (ints f.src.fr)⟩),(n+1,⟨1, .arr (ints f.src.to)⟩),(n+2,⟨1, .arr (ints f.src.id)⟩),(n+3,⟨1, .arr (aE f.src.co)⟩),(n+4,⟨1, .arr (ints f.tgt.fr)⟩),(n+5,⟨1, .arr (ints f.tgt.to)⟩),(n+6,⟨1, .arr (ints f.tgt.id)⟩),(n+7,⟨1, .arr (aE f.tgt.co)⟩),(n+8,⟨1, .arr (ints f.obs)⟩),(n+9,⟨1, .arr (ints f.ars)⟩)]
attribute [go_sem] fnQ
theorem aH4 {V:List Nat} {rs:Nat→Rs} (f:Fun):fC V rs (aID [] f) (cD f):=
 ⟨_,_,rfl, .inl rfl,_,_,rfl,⟨rfl,dU _,fun p hp=>by cases hp⟩,_,_,rfl,⟨rfl,dU _,fun p hp=>by cases hp⟩,_,_,rfl,⟨rfl,dU _,fun p hp=>by cases hp⟩,_,_,rfl,⟨rfl,dU _,fun p hp=>by cases hp⟩,_,_,rfl, .inl rfl,_,_,rfl,⟨rfl,dU _,fun p hp=>by cases hp⟩,_,_,rfl,⟨rfl,dU _,fun p hp=>by cases hp⟩,_,_,rfl,⟨rfl,dU _,fun p hp=>by cases hp⟩,_,_,rfl,⟨rfl,dU _,fun p hp=>by cases hp⟩,_,_,rfl,⟨rfl,dU _,fun p hp=>by cases hp⟩,_,_,rfl,⟨rfl,dU _,fun p hp=>by cases hp⟩,rfl⟩
theorem Imp.lendFn {X:Cx} {σ:Ss} (k i cv:Nat) (f:Fun) (hk:lk σ.tm k= .ptr i 0) (hi:rsL σ.rs i=⟨cv, .box (aID [] f)⟩) (hcv:1≤cv):Imp X σ ⟨(k, .bptr [(i,cv)] (cD f))::σ.tm,σ.rs,σ.nx⟩:=by
 have h:=Imp.lendPtr (X:=X) (σ:=σ) k i 0 (cD f) [i] hk ⟨List.mem_singleton.2 rfl, .inl ⟨_,by rw [hi],aH4 f⟩⟩ (fun j hj=>by rw [List.mem_singleton.1 hj,hi];exact hcv)
 rw [List.map_cons,List.map_nil,hi]at h
 exact h
theorem aOo {f g:Fun} (hf:IsFun f) (hg:IsFun g) (bf:FunB f) (bg:FunB g) (h:f.tgt=g.src):ThF f g:=by
 have g1:=hg.fits.obl
 have g2:=hg.fits.arl
 refine⟨bf.src,bg.tgt,bf.obs,bf.ars,bg.obs,bg.ars,fun i hi=>?_,fun i hi=>?_⟩
 ·have:=hf.fits.obw i hi
  rw [h]at this;omega
 ·have:=hf.fits.arw i hi
  rw [h]at this;omega
theorem mT:aF Tryz.prog 28:=⟨_,Tryz.func28,rfl,rfl⟩
theorem lH {f g:Fun} (hf:IsFun f) (hg:IsFun g) (bf:FunB f) (bg:FunB g) (h:f.tgt=g.src):Spec Tryz.prog 28 [cK f,cK g] [] (.tup [fnO 0 (thF f g),iv 0]) (fnQ 0 (thF f g)):=by
 refine aD (E:=TE) 0 Tryz.func28 rfl (by simp [Tryz.f28]) fun X hn hX=>?_
 have hT:=aOo hf hg bf bg h
 have h6:IsFun f∧IsFun g:=⟨hf,hg⟩
 have f1:=bf.tgt
 have e1:=bg.src
 have hA:=cQ bf bg
 rw [dQ h6]at hA
 have hS:=eB (c:=f.tgt) (d:=g.src) f1 e1
 rw [dQ h]at hS
 repeat'(first|(refine fD 1 (Imp.trans (Imp.lendFn 2 0 1 f rfl rfl (Nat.le_refl 1)) (Imp.lendFn 3 1 1 g rfl rfl (Nat.le_refl 1))) ?_;simp only [go_sem,simprocAttr])|(with_reducible first|refine St.f ?_|refine V_c ?_|refine And.intro ?_ ?_|refine aM ?_ ?_)|((refine aY ?_);intro K hK)|((with_reducible refine So.f ?_);intro K hK;simp(contextual:=true)only [go_sem,simprocAttr])|((with_reducible refine hK _ ?_);clear hK K)|((with_reducible refine aC 93 ?_);refine EvCall.mr (hA) dW [] [3,0,1] ?_)|((with_reducible refine aC 94 ?_);refine EvCall.mr (hS) dM [] [0,1] ?_)|((with_reducible refine aC 95 ?_);refine EvCall.rr (yK (f:=f) (g:=g) ?_) vP ?_)|(refine fun(hc:(_:Bool)=_)=>?_;try simp only [hcS]at hc))
 all_goals try exact om_
 (first|refine aB ?_|refine aA ?_);simp only [go_sem,simprocAttr,Tryz.f28]
theorem zU:aF Tryz.prog 40:=⟨_,Tryz.func40,rfl,rfl⟩
theorem aBr {c:Cat} (hb:CatB c):Spec Tryz.prog 40 [dN c] [] (bv (dec (IsCat c))) []:=by
 refine aD (E:=TE) 0 Tryz.func40 rfl (by simp [Tryz.f40]) fun X hn hX=>?_
 repeat'(first|refine wkQ ?_|refine Tw.f ?_ ?_|(refine kcQ gY ?_;refine krQ (iP ?_) ?_)|(refine fun(hc:(_:Bool)=_)=>?_;try simp only [hcS]at hc))
 all_goals try exact om_
 (first|refine aB ?_|refine aA ?_);simp only [go_sem,simprocAttr,Tryz.f40]
theorem rO:aF Tryz.prog 41:=⟨_,Tryz.func41,rfl,rfl⟩
theorem uY {f:Fun} (hb:FunB f):Spec Tryz.prog 41 [cK f] [] (bv (dec (IsFun f))) []:=by
 refine aD (E:=TE) 0 Tryz.func41 rfl (by simp [Tryz.f41]) fun X hn hX=>?_
 repeat'(first|refine wkQ ?_|refine Tw.f ?_ ?_|(refine kcQ iV ?_;refine krQ (jS ?_) ?_)|(refine fun(hc:(_:Bool)=_)=>?_;try simp only [hcS]at hc))
 all_goals try exact om_
 (first|refine aB ?_|refine aA ?_);simp only [go_sem,simprocAttr,Tryz.f41]
theorem vN:aF Tryz.prog 49:=⟨_,Tryz.func49,rfl,rfl⟩
theorem rM {f e:Fun} (hf:FunB f) (he:FunB e) (hy:CYes f e):Spec Tryz.prog 49 [cK f,cK e] [] (.tup [.sl 0,iv 0]) [(0,⟨1, .arr (aE (aK f e))⟩)]:=by
 refine aD (E:=TE) 0 Tryz.func49 rfl (by simp [Tryz.f49]) fun X hn hX=>?_
 repeat'(first|refine wkQ ?_|refine Tw.f ?_ ?_|(refine kcQ eH ?_;refine ksQ (a:=gE (f:=f) (e:=e) (by first|omega|assumption|rfl) (by first|omega|assumption|rfl) (by first|omega|assumption|rfl)) (c:=?_))|(refine fun(hc:(_:Bool)=_)=>?_;try simp only [hcS]at hc))
 all_goals try exact om_
 (first|refine aB ?_|refine aA ?_);simp only [go_sem,simprocAttr,Tryz.f49]
theorem oP:aF Tryz.prog 52:=⟨_,Tryz.func52,rfl,rfl⟩
theorem mN {f e:Fun} (hf:FunB f) (he:FunB e) (hy:CYes f e):Spec Tryz.prog 52 [cK f,cK e] [] (.tup [.sl 0,iv 0]) [(0,⟨1, .arr (aE (aK f e))⟩)]:=by
 refine aD (E:=TE) 0 Tryz.func52 rfl (by simp [Tryz.f52]) fun X hn hX=>?_
 repeat'(first|refine wkQ ?_|refine Tw.f ?_ ?_|(refine kcQ fV ?_;refine ksQ (a:=iS (f:=f) (e:=e) (by first|omega|assumption|rfl) (by first|omega|assumption|rfl) (by first|omega|assumption|rfl)) (c:=?_))|(refine fun(hc:(_:Bool)=_)=>?_;try simp only [hcS]at hc))
 all_goals try exact om_
 (first|refine aB ?_|refine aA ?_);simp only [go_sem,simprocAttr,Tryz.f52]
/-! ### Natural transformations -/
def trS (ts:List (Nat×Nat)) (f g:Fun) (l:List Int):List Sv:=[iv f.src.ob, .bor ts (ints f.src.fr), .bor ts (ints f.src.to), .bor ts (ints f.src.id), .bor ts (aE f.src.co),iv f.tgt.ob, .bor ts (ints f.tgt.fr), .bor ts (ints f.tgt.to), .bor ts (ints f.tgt.id), .bor ts (aE f.tgt.co), .bor ts (ints f.obs), .bor ts (ints f.ars),
 iv g.src.ob, .bor ts (ints g.src.fr), .bor ts (ints g.src.to), .bor ts (ints g.src.id), .bor ts (aE g.src.co),iv g.tgt.ob, .bor ts (ints g.tgt.fr), .bor ts (ints g.tgt.to), .bor ts (ints g.tgt.id), .bor ts (aE g.tgt.co), .bor ts (ints g.obs), .bor ts (ints g.ars), .bor ts (ints l)]
abbrev trV (f g:Fun) (l:List Int):Sv:= .agg (trS [] f g l)
def trD (f g:Fun) (l:List Int):List Dt:=cD f++cD g++[ints l]
section
variable (f g:Fun) (l:List Int) (ts:List (Nat×Nat))
@[go_sem] theorem aWH:(trD f g l).take 12=cD f:=rfl
@[go_sem] theorem aWI:((trD f g l).drop 12).take 12=cD g:=rfl
@[go_sem] theorem aWF:((trD f g l).drop 24).take 1=[ints l]:=rfl
@[go_sem] theorem aUu:(trD f g l).take 25=trD f g l:=rfl
@[go_sem] theorem aWG:(trD f g l).length=25:=rfl
@[go_sem] theorem aUv:(trD f g l).map (Sv.ofDt ts)=trS ts f g l:=rfl
attribute [go_sem] trS
end
theorem pH:aF Tryz.prog 180:=⟨_,Tryz.func180,rfl,rfl⟩
theorem nH {f g:Fun} (bf:FunB f) (bg:FunB g) (e1:g.src=f.src) (e2:g.tgt=f.tgt):Spec Tryz.prog 180 [.bptr [] (cD f), .bptr [] (cD g)] [] (bv true) []:=by
 refine aD (E:=TE) 0 Tryz.func180 rfl (by simp [Tryz.f180]) fun X hn hX=>?_
 have f1:=bf.src
 have f2:=bf.tgt
 have g1:=bg.src
 have g2:=bg.tgt
 have h1:=eB (c:=f.src) (d:=g.src) f1 g1
 have h2:=eB (c:=f.tgt) (d:=g.tgt) f2 g2
 rw [dQ e1.symm]at h1
 rw [dQ e2.symm]at h2
 repeat'(first|refine wkQ ?_|refine Tw.f ?_ ?_|(refine kcQ dM ?_;refine kwQ (h1) [] [] ?_;clear h1)|(refine kcQ dM ?_;refine kwQ (h2) [] [] ?_)|(refine fun(hc:(_:Bool)=_)=>?_;try simp only [hcS]at hc))
 all_goals try exact om_
 (first|refine aB ?_|refine aA ?_);simp only [go_sem,simprocAttr,Tryz.f180]
theorem kU:aF Tryz.prog 191:=⟨_,Tryz.func191,rfl,rfl⟩
theorem jT {f g:Fun} {l:List Int} (h:Par f g) (hf:IsFun f) (hg:IsFun g) (bf:FunB f) (bg:FunB g) (hl:(l.length:Int)=f.src.ob) (hk:NatK f g l):Spec Tryz.prog 191 [.bptr [] (trD f g l)] [] (bv true) []:=by
 refine aD (E:=TE) 0 Tryz.func191 rfl (by simp [Tryz.f191]) fun X hn hX=>?_
 have c8:=h.src.toShape.ob8
 have t40:=h.tgt.toShape.m40
 have ttl:=h.tgt.toShape.tol
 have o1:=h.fit.obl
 have o2:=h.fit2.obl
 rw [h.es]at o2
 have hE:∀x,x<l.length→0≤l.getD x 0∧l.getD x 0<f.tgt.fr.length∧f.tgt.F (l.getD x 0)=f.obs.getD x 0∧f.tgt.T (l.getD x 0)=g.obs.getD x 0:=fun x hx=>Cat.mem_hom.1 (hk.end_ x hx)
 have hA:=cQ bf bg
 rw [dQ (And.intro hf hg)]at hA
 have hP:=nH bf bg h.es h.et
 have hW:Within l f.tgt.fr.length:=fun i hi=>⟨(hE i hi).1,(hE i hi).2.1⟩
 have hWi:=kQ (l:=l) (n:=(f.tgt.fr.length:Int)) ⟨by omega,by omega⟩ (by omega)
 rw [dQ hW]at hWi
 repeat'(first|(with_reducible first|refine St.f ?_|refine V_c ?_|refine eDn ?_|refine And.intro ?_ ?_|refine aM ?_ ?_|refine aP ?_)|((refine aY ?_);intro K hK)|((with_reducible refine So.f ?_);intro K hK;simp(contextual:=true)only [go_sem,simprocAttr])|((with_reducible refine hK _ ?_);clear hK K)|((with_reducible refine aC 93 ?_);refine EvCall.mr (hA) dW [] [0] ?_)|((with_reducible refine aC 180 ?_);refine EvCall.mr (hP) pH [] [] ?_)|((with_reducible refine aC 84 ?_);refine EvCall.rr (bX) bM ?_)|((with_reducible refine aC 194 ?_);refine EvCall.mr (hWi) jB [] [] ?_)|(refine uB yX (by simp only [go_sem,simprocAttr];rfl) (by simp only [go_sem,simprocAttr];rfl) ?_;simp only [go_sem,simprocAttr])|(refine fun(hc:(_:Bool)=_)=>?_;try simp only [hcS]at hc))
 all_goals try exact om_
 refine aH (G:={x:Nat//x≤l.length∧(True)}) (fun⟨x,_⟩=>[(54,iv x),(15, .bsl 0 2)]) [3,4,52,53] (fun⟨x,_⟩=>[]) [] (fun zz=>l.length-zz.1) ⟨0,Nat.zero_le _,by first|trivial|simp⟩ ?_ ?_
 ·exact Imp.au hX
 rintro⟨x,hix,hwx⟩
 simp only [go_sem,simprocAttr]
 rcases Nat.lt_or_ge x l.length with hlx|hgx
 ·obtain⟨q1,q2,q3,q4⟩:=hE x hlx
  repeat'(first|(with_reducible first|refine St.f ?_|refine V_c ?_|refine eDn ?_|refine And.intro ?_ ?_|refine aM ?_ ?_|refine aP ?_)|((refine aY ?_);intro K hK)|((with_reducible refine So.f ?_);intro K hK;simp(contextual:=true)only [go_sem,simprocAttr])|((with_reducible refine hK _ ?_);clear hK K)|((with_reducible refine aC 206 ?_);refine EvCall.rr (fB (c:=f.tgt) ?_ ?_ ?_) eC ?_)|(refine uB yX (by simp only [go_sem,simprocAttr];rfl) (by simp only [go_sem,simprocAttr];rfl) ?_;simp only [go_sem,simprocAttr])|(refine fun(hc:(_:Bool)=_)=>?_;try simp only [hcS]at hc))
  all_goals try exact om_
  all_goals try(exfalso;omega)
  refine⟨⟨x+1,by omega,(by trivial)⟩,by simp only;omega,Imp.ao hX⟩
 ·obtain rfl:x=l.length:=by omega
  repeat'(first|(with_reducible first|refine St.f ?_|refine V_c ?_|refine eDn ?_|refine And.intro ?_ ?_|refine aM ?_ ?_|refine aP ?_)|((refine aY ?_);intro K hK)|((with_reducible refine So.f ?_);intro K hK;simp(contextual:=true)only [go_sem,simprocAttr])|((with_reducible refine hK _ ?_);clear hK K)|(refine fun(hc:(_:Bool)=_)=>?_;try simp only [hcS]at hc))
  all_goals try exact om_
  all_goals try(exfalso;omega)
  (first|refine aB ?_|refine aA ?_);simp only [go_sem,simprocAttr,Tryz.f191]
theorem vR:aF Tryz.prog 192:=⟨_,Tryz.func192,rfl,rfl⟩
theorem qB {f g:Fun} {l:List Int} (h:Par f g) (bf:FunB f) (bg:FunB g) (hl:(l.length:Int)=f.src.ob) (hk:NatK f g l):Spec Tryz.prog 192 [.bptr [] (trD f g l), .fn 193 []] [] (iv (-1)) []:=by
 refine aD (E:=TE) 0 Tryz.func192 rfl (by simp [Tryz.f192]) fun X hn hX=>?_
 have c0:=h.src.toShape.ob0
 have al:=h.fit.arl
 have tl:=h.src.toShape.tol
 have b1:=bf.ars
 repeat'(first|refine wkQ ?_|refine Tw.f ?_ ?_|(refine fun(hc:(_:Bool)=_)=>?_;try simp only [hcS]at hc))
 all_goals try exact om_
 refine aH (G:={a:Nat//a≤f.ars.length∧(True)}) (fun⟨a,_⟩=>[(12,iv a)]) [0,1,11] (fun⟨a,_⟩=>[]) [] (fun zz=>f.ars.length-zz.1) ⟨0,Nat.zero_le _,by first|trivial|simp⟩ ?_ ?_
 ·exact Imp.au hX
 rintro⟨a,hia,hwa⟩
 simp only [go_sem,simprocAttr]
 rcases Nat.lt_or_ge a f.ars.length with hla|hga
 ·have w1:=h.src.toShape.frw a (by omega)
  have w2:=h.src.toShape.tow a (by omega)
  have r1:=Cat.mem_hom.1 (hk.end_ (f.src.fr.getD a 0).toNat (by omega))
  have r2:=Cat.mem_hom.1 (hk.end_ (f.src.to.getD a 0).toNat (by omega))
  have hco:=aEn (A:=l) h (by omega:a<f.src.fr.length) (by omega) ⟨r1.1,r1.2.1⟩ ⟨r2.1,r2.2.1⟩
  rw [dQ (hk.sq a (by omega) (by omega) (by omega))]at hco
  repeat'(first|refine wkQ ?_|refine Tw.f ?_ ?_|(refine kcQ aCF ?_;refine kwQ (hco) [] [] ?_)|(refine fun(hc:(_:Bool)=_)=>?_;try simp only [hcS]at hc))
  all_goals try exact om_
  all_goals try(exfalso;omega)
  refine⟨⟨a+1,by omega,(by trivial)⟩,by simp only;omega,Imp.ao hX⟩
 ·obtain rfl:a=f.ars.length:=by omega
  repeat'(first|refine wkQ ?_|refine Tw.f ?_ ?_|(refine fun(hc:(_:Bool)=_)=>?_;try simp only [hcS]at hc))
  all_goals try exact om_
  all_goals try(exfalso;omega)
  (first|refine aB ?_|refine aA ?_);simp only [go_sem,simprocAttr,Tryz.f192]
theorem jW:aF Tryz.prog 115:=⟨_,Tryz.func115,rfl,rfl⟩
theorem iU {f g:Fun} {l:List Int} (h:Par f g) (hf:IsFun f) (hg:IsFun g) (bf:FunB f) (bg:FunB g) (hl:(l.length:Int)=f.src.ob) (hk:NatK f g l):Spec Tryz.prog 115 [.bptr [] (trD f g l)] [] (bv true) []:=by
 refine aD (E:=TE) 0 Tryz.func115 rfl (by simp [Tryz.f115]) fun X hn hX=>?_
 have h1:=jT h hf hg bf bg hl hk
 have h2:=qB h bf bg hl hk
 repeat'(first|refine wkQ ?_|refine Tw.f ?_ ?_|(refine kcQ kU ?_;refine kwQ (h1) [] [] ?_)|(refine kcQ vR ?_;refine kwQ (h2) [] [] ?_)|(refine fun(hc:(_:Bool)=_)=>?_;try simp only [hcS]at hc))
 all_goals try exact om_
 (first|refine aB ?_|refine aA ?_);simp only [go_sem,simprocAttr,Tryz.f115]
 simp only [decide_true]
theorem pC:aF Tryz.prog 54:=⟨_,Tryz.func54,rfl,rfl⟩
theorem nE {f g:Fun} {l:List Int} (h:Par f g) (hf:IsFun f) (hg:IsFun g) (bf:FunB f) (bg:FunB g) (hl:(l.length:Int)=f.src.ob) (hk:NatK f g l):Spec Tryz.prog 54 [trV f g l] [] (bv true) []:=by
 refine aD (E:=TE) 0 Tryz.func54 rfl (by simp [Tryz.f54]) fun X hn hX=>?_
 have h1:=iU h hf hg bf bg hl hk
 repeat'(first|refine wkQ ?_|refine Tw.f ?_ ?_|(refine kcQ jW ?_;refine kwQ (h1) [] [0] ?_)|(refine fun(hc:(_:Bool)=_)=>?_;try simp only [hcS]at hc))
 all_goals try exact om_
 (first|refine aB ?_|refine aA ?_);simp only [go_sem,simprocAttr,Tryz.f54]
end Go.Eng
