/- Several texts in one: L06, J01. -/
import Derived.Test.YthgijhnmcglppaaGreatKabx
set_option linter.unusedSimpArgs false
set_option linter.unusedVariables false
set_option maxRecDepth 100000
set_option maxHeartbeats 16000000
section
namespace Go.Eng
open Go Go.Proofs Go.Cats
attribute [local go_sem] gY gZ
abbrev fnO (n:Nat) (f:Fun):Sv:= .agg [iv f.src.ob, .sl n, .sl (n+1), .sl (n+2), .sl (n+3),iv f.tgt.ob, .sl (n+4), .sl (n+5), .sl (n+6), .sl (n+7), .sl (n+8), .sl (n+9)]
abbrev fnQ (n:Nat) (f:Fun):List (Nat×Rs):=[(n,⟨1, .arr (ints f.src.fr)⟩),(n+1,⟨1, .arr (ints f.src.to)⟩),(n+2,⟨1, .arr (ints f.src.id)⟩),(n+3,⟨1, .arr (aF f.src.co)⟩),(n+4,⟨1, .arr (ints f.tgt.fr)⟩),(n+5,⟨1, .arr (ints f.tgt.to)⟩),(n+6,⟨1, .arr (ints f.tgt.id)⟩),(n+7,⟨1, .arr (aF f.tgt.co)⟩),(n+8,⟨1, .arr (ints f.obs)⟩),(n+9,⟨1, .arr (ints f.ars)⟩)]
attribute [go_sem] fnQ
theorem aKG {V:List Nat} {rs:Nat→Rs} (f:Fun):eC V rs (aLz [] f) (dX f):=
 ⟨_,_,rfl, .inl rfl,_,_,rfl,⟨rfl,cJ _,fun p hp=>by cases hp⟩,_,_,rfl,⟨rfl,cJ _,fun p hp=>by cases hp⟩,_,_,rfl,⟨rfl,cJ _,fun p hp=>by cases hp⟩,_,_,rfl,⟨rfl,cJ _,fun p hp=>by cases hp⟩,_,_,rfl, .inl rfl,_,_,rfl,⟨rfl,cJ _,fun p hp=>by cases hp⟩,_,_,rfl,⟨rfl,cJ _,fun p hp=>by cases hp⟩,_,_,rfl,⟨rfl,cJ _,fun p hp=>by cases hp⟩,_,_,rfl,⟨rfl,cJ _,fun p hp=>by cases hp⟩,_,_,rfl,⟨rfl,cJ _,fun p hp=>by cases hp⟩,_,_,rfl,⟨rfl,cJ _,fun p hp=>by cases hp⟩,rfl⟩
theorem Imp.lendFn {X:Cx} {σ:Ss} (k i cv:Nat) (f:Fun) (hk:lk σ.tm k= .ptr i 0) (hi:rsL σ.rs i=⟨cv, .box (aLz [] f)⟩) (hcv:1≤cv):Imp X σ ⟨(k, .bptr [(i,cv)] (dX f))::σ.tm,σ.rs,σ.nx⟩:=by
 have h:=Imp.lendPtr (X:=X) (σ:=σ) k i 0 (dX f) [i] hk ⟨List.mem_singleton.2 rfl, .inl ⟨_,by rw [hi],aKG f⟩⟩ (fun j hj=>by rw [List.mem_singleton.1 hj,hi];exact hcv)
 rw [List.map_cons,List.map_nil,hi]at h
 exact h
theorem aRS {f g:Fun} (hf:IsFun f) (hg:IsFun g) (bf:FunB f) (bg:FunB g) (h:f.tgt=g.src):ThF f g:=by
 have g1:=hg.fits.obl
 have g2:=hg.fits.arl
 refine⟨bf.src,bg.tgt,bf.obs,bf.ars,bg.obs,bg.ars,fun i hi=>?_,fun i hi=>?_⟩
 ·have:=hf.fits.obw i hi
  rw [h]at this;omega
 ·have:=hf.fits.arw i hi
  rw [h]at this;omega
theorem xS:aE Tryz.prog 20:=⟨_,Tryz.func20,rfl,rfl⟩
theorem uV {f g:Fun} (hf:IsFun f) (hg:IsFun g) (bf:FunB f) (bg:FunB g) (h:f.tgt=g.src):Spec Tryz.prog 20 [qS f,qS g] [] (.tup [fnO 0 (thF f g),iv 0]) (fnQ 0 (thF f g)):=by
 refine aD (E:=TE) 0 Tryz.func20 rfl (by simp [Tryz.f20]) fun X hn hX=>?_
 have hT:=aRS hf hg bf bg h
 have h6:IsFun f∧IsFun g:=⟨hf,hg⟩
 have f1:=bf.tgt
 have e1:=bg.src
 have hA:=lN bf bg
 rw [bH h6]at hA
 have hS:=kF (c:=f.tgt) (d:=g.src) f1 e1
 rw [bH h]at hS
 repeat'(first|(refine bU 1 (Imp.trans (Imp.lendFn 2 0 1 f rfl rfl (Nat.le_refl 1)) (Imp.lendFn 3 1 1 g rfl rfl (Nat.le_refl 1))) ?_;simp only [go_sem,simprocAttr])|(with_reducible first|refine St.f ?_|refine V_c ?_|refine And.intro ?_ ?_|refine aH ?_ ?_)|((refine aN ?_);intro K hK)|((with_reducible refine So.f ?_);intro K hK;simp(contextual:=true)only [go_sem,simprocAttr])|((with_reducible refine hK _ ?_);clear hK K)|((with_reducible refine aC 92 ?_);refine EvCall.mr (hA) pQ [] [3,0,1] ?_)|((with_reducible refine aC 93 ?_);refine EvCall.mr (hS) jD [] [0,1] ?_)|((with_reducible refine aC 94 ?_);refine EvCall.rr (aAg (f:=f) (g:=g) ?_) xR ?_)|(refine fun(hc:(_:Bool)=_)=>?_;try simp only [hcS]at hc))
 all_goals try exact om_
 (first|refine aB ?_|refine aA ?_);simp only [go_sem,simprocAttr,Tryz.f20]
theorem aAQ:aE Tryz.prog 32:=⟨_,Tryz.func32,rfl,rfl⟩
theorem aCx {c:Cat} (hb:CatB c):Spec Tryz.prog 32 [bK c] [] (bv (dec (IsCat c))) []:=by
 refine aD (E:=TE) 0 Tryz.func32 rfl (by simp [Tryz.f32]) fun X hn hX=>?_
 repeat'(first|refine wkQ ?_|refine Tw.f ?_ ?_|(refine kcQ eQ ?_;refine krQ (fJ ?_) ?_)|(refine fun(hc:(_:Bool)=_)=>?_;try simp only [hcS]at hc))
 all_goals try exact om_
 (first|refine aB ?_|refine aA ?_);simp only [go_sem,simprocAttr,Tryz.f32]
theorem aCl:aE Tryz.prog 33:=⟨_,Tryz.func33,rfl,rfl⟩
theorem aEv {f:Fun} (hb:FunB f):Spec Tryz.prog 33 [qS f] [] (bv (dec (IsFun f))) []:=by
 refine aD (E:=TE) 0 Tryz.func33 rfl (by simp [Tryz.f33]) fun X hn hX=>?_
 repeat'(first|refine wkQ ?_|refine Tw.f ?_ ?_|(refine kcQ jB ?_;refine krQ (jU ?_) ?_)|(refine fun(hc:(_:Bool)=_)=>?_;try simp only [hcS]at hc))
 all_goals try exact om_
 (first|refine aB ?_|refine aA ?_);simp only [go_sem,simprocAttr,Tryz.f33]
/-! ### Natural transformations -/
def trS (ts:List (Nat×Nat)) (f g:Fun) (l:List Int):List Sv:=[iv f.src.ob, .bor ts (ints f.src.fr), .bor ts (ints f.src.to), .bor ts (ints f.src.id), .bor ts (aF f.src.co),iv f.tgt.ob, .bor ts (ints f.tgt.fr), .bor ts (ints f.tgt.to), .bor ts (ints f.tgt.id), .bor ts (aF f.tgt.co), .bor ts (ints f.obs), .bor ts (ints f.ars),
 iv g.src.ob, .bor ts (ints g.src.fr), .bor ts (ints g.src.to), .bor ts (ints g.src.id), .bor ts (aF g.src.co),iv g.tgt.ob, .bor ts (ints g.tgt.fr), .bor ts (ints g.tgt.to), .bor ts (ints g.tgt.id), .bor ts (aF g.tgt.co), .bor ts (ints g.obs), .bor ts (ints g.ars), .bor ts (ints l)]
section
variable (f g:Fun) (l:List Int) (ts:List (Nat×Nat))
attribute [go_sem] trS
end
theorem qL:aE Tryz.prog 203:=⟨_,Tryz.func203,rfl,rfl⟩
theorem nW {f g:Fun} (bf:FunB f) (bg:FunB g) (e1:g.src=f.src) (e2:g.tgt=f.tgt):Spec Tryz.prog 203 [.bptr [] (dX f), .bptr [] (dX g)] [] (bv true) []:=by
 refine aD (E:=TE) 0 Tryz.func203 rfl (by simp [Tryz.f203]) fun X hn hX=>?_
 have f1:=bf.src
 have f2:=bf.tgt
 have g1:=bg.src
 have g2:=bg.tgt
 have h1:=kF (c:=f.src) (d:=g.src) f1 g1
 have h2:=kF (c:=f.tgt) (d:=g.tgt) f2 g2
 rw [bH e1.symm]at h1
 rw [bH e2.symm]at h2
 repeat'(first|refine wkQ ?_|refine Tw.f ?_ ?_|(refine kcQ jD ?_;refine kwQ (h1) [] [] ?_;clear h1)|(refine kcQ jD ?_;refine kwQ (h2) [] [] ?_)|(refine fun(hc:(_:Bool)=_)=>?_;try simp only [hcS]at hc))
 all_goals try exact om_
 (first|refine aB ?_|refine aA ?_);simp only [go_sem,simprocAttr,Tryz.f203]
end Go.Eng
end
section
namespace Go.Eng
open Go Go.Proofs Go.Cats
theorem DiOut.b {c d:Cat} {g:Fun} {code:Int} (hd:CatB d) (h:DiOut c d g code):FunB g:=by
 rcases h with⟨_,rfl,_⟩|⟨_,sd,⟨_,rfl,_⟩|⟨hy,rfl,_⟩⟩
 ·exact oU
 ·exact oU
 ·exact aTq sd.toShape hd hy
theorem fV {c d:Cat} {g:Fun} {code:Int} (hc:CatB c) (hd:CatB d) (h:DiOut c d g code):Spec Tryz.prog 14 [bK c,bK d] [] (.tup [.agg [iv g.src.ob, .sl 0, .sl 1, .sl 2, .sl 3,iv g.tgt.ob, .sl 4, .sl 5, .sl 6, .sl 7, .sl 8, .sl 9],iv code]) [(0,⟨1, .arr (ints g.src.fr)⟩),(1,⟨1, .arr (ints g.src.to)⟩),(2,⟨1, .arr (ints g.src.id)⟩),(3,⟨1, .arr (aF g.src.co)⟩),(4,⟨1, .arr (ints g.tgt.fr)⟩),(5,⟨1, .arr (ints g.tgt.to)⟩),(6,⟨1, .arr (ints g.tgt.id)⟩),(7,⟨1, .arr (aF g.tgt.co)⟩),(8,⟨1, .arr (ints g.obs)⟩),(9,⟨1, .arr (ints g.ars)⟩)]:=by
 rcases h with⟨h,rfl,rfl⟩|⟨sc,sd,⟨h,rfl,rfl⟩|⟨hy,rfl,rfl⟩⟩
 ·exact mO (pC hc hd h)
 ·exact mO (qD hc hd sc sd h)
 ·exact pD hc hd sc sd hy
theorem dM {c d:Cat} {g:Fun} {code:Int} (hc:CatB c) (hd:CatB d) (h:DiOut c d g code):Spec Tryz.prog 15 [bK c,bK d] [] (.tup [.agg [iv g.src.ob, .sl 0, .sl 1, .sl 2, .sl 3,iv g.tgt.ob, .sl 4, .sl 5, .sl 6, .sl 7, .sl 8, .sl 9],iv code]) [(0,⟨1, .arr (ints g.src.fr)⟩),(1,⟨1, .arr (ints g.src.to)⟩),(2,⟨1, .arr (ints g.src.id)⟩),(3,⟨1, .arr (aF g.src.co)⟩),(4,⟨1, .arr (ints g.tgt.fr)⟩),(5,⟨1, .arr (ints g.tgt.to)⟩),(6,⟨1, .arr (ints g.tgt.id)⟩),(7,⟨1, .arr (aF g.tgt.co)⟩),(8,⟨1, .arr (ints g.obs)⟩),(9,⟨1, .arr (ints g.ars)⟩)]:=by
 rcases h with⟨h,rfl,rfl⟩|⟨sc,sd,⟨h,rfl,rfl⟩|⟨hy,rfl,rfl⟩⟩
 ·exact mO (kM hc hd h)
 ·exact mO (lP hc hd sc sd h)
 ·exact kN hc hd sc sd hy
theorem EvOut.b {c d:Cat} {x:Int} {g:Fun} {code:Int} (hc:CatB c) (hd:CatB d) (h:EvOut c d x g code):FunB g:=by
 rcases h with⟨_,rfl,_⟩|⟨_,_,⟨_,rfl,_⟩|⟨_,⟨_,rfl,_⟩|⟨hy,rfl,_⟩⟩⟩
 ·exact oU
 ·exact oU
 ·exact oU
 ·exact aTu hd hy
theorem fA {c d:Cat} {x:Int} {g:Fun} {code:Int} (hc:CatB c) (hd:CatB d) (h:EvOut c d x g code):Spec Tryz.prog 18 [bK c,bK d,iv x] [] (.tup [.agg [iv g.src.ob, .sl 0, .sl 1, .sl 2, .sl 3,iv g.tgt.ob, .sl 4, .sl 5, .sl 6, .sl 7, .sl 8, .sl 9],iv code]) [(0,⟨1, .arr (ints g.src.fr)⟩),(1,⟨1, .arr (ints g.src.to)⟩),(2,⟨1, .arr (ints g.src.id)⟩),(3,⟨1, .arr (aF g.src.co)⟩),(4,⟨1, .arr (ints g.tgt.fr)⟩),(5,⟨1, .arr (ints g.tgt.to)⟩),(6,⟨1, .arr (ints g.tgt.id)⟩),(7,⟨1, .arr (aF g.tgt.co)⟩),(8,⟨1, .arr (ints g.obs)⟩),(9,⟨1, .arr (ints g.ars)⟩)]:=by
 rcases h with⟨h,rfl,rfl⟩|⟨sc,sd,⟨h,rfl,rfl⟩|⟨hx,⟨h,rfl,rfl⟩|⟨hy,rfl,rfl⟩⟩⟩
 ·exact mO (mY hc hd h)
 ·exact mO (mZ hc hd sc sd h)
 ·exact mO (nU hc hd sc sd hx h)
 ·exact nA hc hd sc sd hx hy
theorem fP {c d:Cat} {x:Int} {g:Fun} {code:Int} (hc:CatB c) (hd:CatB d) (h:EvOut c d x g code):Spec Tryz.prog 29 [bK c,bK d,iv x] [] (.tup [.agg [iv g.src.ob, .sl 0, .sl 1, .sl 2, .sl 3,iv g.tgt.ob, .sl 4, .sl 5, .sl 6, .sl 7, .sl 8, .sl 9],iv code]) [(0,⟨1, .arr (ints g.src.fr)⟩),(1,⟨1, .arr (ints g.src.to)⟩),(2,⟨1, .arr (ints g.src.id)⟩),(3,⟨1, .arr (aF g.src.co)⟩),(4,⟨1, .arr (ints g.tgt.fr)⟩),(5,⟨1, .arr (ints g.tgt.to)⟩),(6,⟨1, .arr (ints g.tgt.id)⟩),(7,⟨1, .arr (aF g.tgt.co)⟩),(8,⟨1, .arr (ints g.obs)⟩),(9,⟨1, .arr (ints g.ars)⟩)]:=by
 rcases h with⟨h,rfl,rfl⟩|⟨sc,sd,⟨h,rfl,rfl⟩|⟨hx,⟨h,rfl,rfl⟩|⟨hy,rfl,rfl⟩⟩⟩
 ·exact mO (jX hc hd h)
 ·exact mO (jY hc hd sc sd h)
 ·exact mO (kG hc hd sc sd hx h)
 ·exact jZ hc hd sc sd hx hy
theorem tA:aE Tryz.prog 21:=⟨_,Tryz.func21,rfl,rfl⟩
theorem qE {c:Cat} (hb:CatB c) (h:IsCat c):Spec Tryz.prog 21 [bK c] [] (.tup [.agg [iv (cX c).src.ob, .sl 0, .sl 1, .sl 2, .sl 3,iv (cX c).tgt.ob, .sl 4, .sl 5, .sl 6, .sl 7, .sl 8, .sl 9],iv 0]) [(0,⟨1, .arr (ints (cX c).src.fr)⟩),(1,⟨1, .arr (ints (cX c).src.to)⟩),(2,⟨1, .arr (ints (cX c).src.id)⟩),(3,⟨1, .arr (aF (cX c).src.co)⟩),(4,⟨1, .arr (ints (cX c).tgt.fr)⟩),(5,⟨1, .arr (ints (cX c).tgt.to)⟩),(6,⟨1, .arr (ints (cX c).tgt.id)⟩),(7,⟨1, .arr (aF (cX c).tgt.co)⟩),(8,⟨1, .arr (ints (cX c).obs)⟩),(9,⟨1, .arr (ints (cX c).ars)⟩)]:=by
 refine aD (E:=TE) 0 Tryz.func21 rfl (by simp [Tryz.f21]) fun X hn hX=>?_
 have h0:=h.toShape.ob0
 have h8:=h.toShape.ob8
 repeat'(first|refine wkQ ?_|refine Tw.f ?_ ?_|(refine kcQ eQ ?_;refine krQ (fJ ?_) ?_)|(refine kcQ aDX ?_;refine krQ (aF9 (c:=c) ?_ ?_ ?_) ?_)|(refine fun(hc:(_:Bool)=_)=>?_;try simp only [hcS]at hc))
 all_goals try exact om_
 all_goals try exact absurd h (by assumption)
 (first|refine aB ?_|refine aA ?_);simp only [go_sem,simprocAttr,Tryz.f21]
end Go.Eng
end
