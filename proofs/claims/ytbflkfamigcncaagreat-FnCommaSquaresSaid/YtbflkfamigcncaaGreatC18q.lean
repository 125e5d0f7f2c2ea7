/- The projections of comma categories: functors, by the program and by the reference. -/
import Derived.Test.YtbflkfamigcncaaGreatKox
set_option linter.unusedSimpArgs false
set_option linter.unusedVariables false
set_option maxRecDepth 100000
set_option maxHeartbeats 16000000
namespace Go.Eng
open Go Go.Proofs Go.Cats
attribute [local go_sem] gS gT
theorem tK:aF Tryz.prog 160:=⟨_,Tryz.func160,rfl,rfl⟩
theorem wO {c:Cat} (hb:CatB c):Spec Tryz.prog 160 [.bptr [] (fP c)] [] (.agg [iv c.ob, .sl 0, .sl 1, .sl 2, .sl 3]) [(0,⟨1, .arr (ints c.fr)⟩),(1,⟨1, .arr (ints c.to)⟩),(2,⟨1, .arr (ints c.id)⟩),(3,⟨1, .arr (aE c.co)⟩)]:=by
 refine aD (E:=TE) 0 Tryz.func160 rfl (by simp [Tryz.f160]) fun X hn hX=>?_
 obtain⟨b1,b2,b3,b4,b5,b6,b7⟩:=hb
 repeat'(first|refine wkQ ?_|refine Tw.f ?_ ?_|(refine kcQ vQ ?_;refine krQ (aAH ?_) ?_)|(refine kcQ aET ?_;refine krQ (aHO ?_ ?_) ?_)|(refine fun(hc:(_:Bool)=_)=>?_;try simp only [hcS]at hc))
 all_goals try exact om_
 (first|refine aB ?_|refine aA ?_);simp only [go_sem,simprocAttr,Tryz.f160]
theorem pE:aF Tryz.prog 86:=⟨_,Tryz.func86,rfl,rfl⟩
theorem sY {c d:Cat} {p q:List Int} (hc:CatB c) (hd:CatB d) (hp:p.length≤1048576) (hq:q.length≤1048576):Spec Tryz.prog 86 [.bptr [] (fP c), .bptr [] (fP d), .bor [] (ints p), .bor [] (ints q)] [] (.agg [iv c.ob, .sl 0, .sl 1, .sl 2, .sl 3,iv d.ob, .sl 4, .sl 5, .sl 6, .sl 7, .sl 8, .sl 9]) [(0,⟨1, .arr (ints c.fr)⟩),(1,⟨1, .arr (ints c.to)⟩),(2,⟨1, .arr (ints c.id)⟩),(3,⟨1, .arr (aE c.co)⟩),(4,⟨1, .arr (ints d.fr)⟩),(5,⟨1, .arr (ints d.to)⟩),(6,⟨1, .arr (ints d.id)⟩),(7,⟨1, .arr (aE d.co)⟩),(8,⟨1, .arr (ints p)⟩),(9,⟨1, .arr (ints q)⟩)]:=by
 refine aD (E:=TE) 0 Tryz.func86 rfl (by simp [Tryz.f86]) fun X hn hX=>?_
 repeat'(first|refine wkQ ?_|refine Tw.f ?_ ?_|(refine kcQ tK ?_;refine krQ (wO ?_) ?_)|(refine kcQ vQ ?_;refine krQ (aAH ?_) ?_)|(refine fun(hc:(_:Bool)=_)=>?_;try simp only [hcS]at hc))
 all_goals try exact om_
 (first|refine aB ?_|refine aA ?_);simp only [go_sem,simprocAttr,Tryz.f86]
theorem iA:aF Tryz.prog 91:=⟨_,Tryz.func91,rfl,rfl⟩
theorem jJ {c d:Cat} {p q:List Int} (hc:CatB c) (hd:CatB d) (hp:p.length≤1048576) (hq:q.length≤1048576):Spec Tryz.prog 91 [dN c,dN d, .bor [] (ints p), .bor [] (ints q)] [] (.agg [iv c.ob, .sl 0, .sl 1, .sl 2, .sl 3,iv d.ob, .sl 4, .sl 5, .sl 6, .sl 7, .sl 8, .sl 9]) [(0,⟨1, .arr (ints c.fr)⟩),(1,⟨1, .arr (ints c.to)⟩),(2,⟨1, .arr (ints c.id)⟩),(3,⟨1, .arr (aE c.co)⟩),(4,⟨1, .arr (ints d.fr)⟩),(5,⟨1, .arr (ints d.to)⟩),(6,⟨1, .arr (ints d.id)⟩),(7,⟨1, .arr (aE d.co)⟩),(8,⟨1, .arr (ints p)⟩),(9,⟨1, .arr (ints q)⟩)]:=by
 refine aD (E:=TE) 0 Tryz.func91 rfl (by simp [Tryz.f91]) fun X hn hX=>?_
 repeat'(first|refine wkQ ?_|refine Tw.f ?_ ?_|(refine kcQ sD ?_;refine krQ (wW ?_) ?_)|(refine kcQ dB ?_;refine krQ (dZ ?_) ?_)|(refine fun(hc:(_:Bool)=_)=>?_;try simp only [hcS]at hc))
 all_goals try exact om_
 (first|refine aB ?_|refine aA ?_);simp only [go_sem,simprocAttr,Tryz.f91]
theorem aG0 {f e:Fun} (hy:CYes f e):CatB (cmC f e (cmA f e).length):=COut.b (.inl ⟨hy,rfl,rfl⟩)
theorem qQ {f e:Fun} {k:Nat} (hk:k<4):∀i,i<(cmA f e).length→k<((cmA f e).getD i []).length:=fun i hi=>by have:=(yV f e (aK f e) i hi).len;show k<((kF f e (aK f e)).getD i []).length;omega
noncomputable def cmF (f e:Fun):Fun:=⟨cmC f e (cmA f e).length,f.src,bP (aK f e) 0 (aK f e).length,bP (cmA f e) 2 (cmA f e).length⟩
noncomputable def cmG (f e:Fun):Fun:=⟨cmC f e (cmA f e).length,e.src,bP (aK f e) 1 (aK f e).length,bP (cmA f e) 3 (cmA f e).length⟩
theorem aL5 {f e:Fun} (hf:FunB f) (hy:CYes f e):FunB (cmF f e):=⟨aG0 hy,hf.src,by have:=hy.obs;simp only [cmF,aZ];omega,by have:=hy.ars;simp only [cmF,aZ];omega⟩
theorem aL6 {f e:Fun} (he:FunB e) (hy:CYes f e):FunB (cmG f e):=⟨aG0 hy,he.src,by have:=hy.obs;simp only [cmG,aZ];omega,by have:=hy.ars;simp only [cmG,aZ];omega⟩
def nilF:Fun:=⟨⟨0,[],[],[],[]⟩,⟨0,[],[],[],[]⟩,[],[]⟩
theorem aCT:FunB nilF:=by
 have h:CatB (⟨0,[],[],[],[]⟩:Cat):=⟨by simp,by simp,by simp,by simp,by simp,by simp,fun i hi=>by simp at hi⟩
 exact⟨h,h,by simp [nilF],by simp [nilF]⟩
theorem aCz {P:Program} {F:FuncId} {args:List Sv} {y:Value} (h:Spec P F args [] (.tup [.agg [iv 0, .v (.slice none 0 0), .v (.slice none 0 0), .v (.slice none 0 0), .v (.slice none 0 0),iv 0, .v (.slice none 0 0), .v (.slice none 0 0), .v (.slice none 0 0), .v (.slice none 0 0), .v (.slice none 0 0), .v (.slice none 0 0)], .v y]) []):Spec P F args [] (.tup [.agg [iv nilF.src.ob, .sl 0, .sl 1, .sl 2, .sl 3,iv nilF.tgt.ob, .sl 4, .sl 5, .sl 6, .sl 7, .sl 8, .sl 9], .v y]) [(0,⟨1, .arr (ints nilF.src.fr)⟩),(1,⟨1, .arr (ints nilF.src.to)⟩),(2,⟨1, .arr (ints nilF.src.id)⟩),(3,⟨1, .arr (aE nilF.src.co)⟩),(4,⟨1, .arr (ints nilF.tgt.fr)⟩),(5,⟨1, .arr (ints nilF.tgt.to)⟩),(6,⟨1, .arr (ints nilF.tgt.id)⟩),(7,⟨1, .arr (aE nilF.tgt.co)⟩),(8,⟨1, .arr (ints nilF.obs)⟩),(9,⟨1, .arr (ints nilF.ars)⟩)]:=by
 refine Spec.adopt h (bH (bH (bH (jL (bH (bH (bH (jL (bH (bH sJ)))))))))) fun w S v cn h=>?_
 simp only [Sv.ok,Sv.okL]at h⊢
 obtain⟨vs,rfl,x,r,rfl,⟨us,rfl,hu⟩,hr⟩:=h
 refine⟨_,rfl,_,_,rfl,⟨us,rfl,?_⟩,hr⟩
 obtain⟨x0,r0,rfl,e0,x1,r1,rfl,e1,x2,r2,rfl,e2,x3,r3,rfl,e3,x4,r4,rfl,e4,x5,r5,rfl,e5,x6,r6,rfl,e6,x7,r7,rfl,e7,x8,r8,rfl,e8,x9,r9,rfl,e9,x10,r10,rfl,e10,x11,r11,rfl,e11,e12⟩:=hu
 exact⟨_,_,rfl,e0,_,_,rfl,⟨Nat.le_refl 1,e1⟩,_,_,rfl,⟨Nat.le_refl 1,e2⟩,_,_,rfl,⟨Nat.le_refl 1,e3⟩,_,_,rfl,⟨Nat.le_refl 1,e4⟩,_,_,rfl,e5,_,_,rfl,⟨Nat.le_refl 1,e6⟩,_,_,rfl,⟨Nat.le_refl 1,e7⟩,_,_,rfl,⟨Nat.le_refl 1,e8⟩,_,_,rfl,⟨Nat.le_refl 1,e9⟩,_,_,rfl,⟨Nat.le_refl 1,e10⟩,_,_,rfl,⟨Nat.le_refl 1,e11⟩,e12⟩
theorem zV:aF Tryz.prog 70:=⟨_,Tryz.func70,rfl,rfl⟩
theorem aBt {f e:Fun} (hy:CYes f e) (hs:CatB f.src):Spec Tryz.prog 70 [.bptr [] (vT f e (aK f e) (cmA f e))] [] (.agg [iv (cmF f e).src.ob, .sl 0, .sl 1, .sl 2, .sl 3,iv (cmF f e).tgt.ob, .sl 4, .sl 5, .sl 6, .sl 7, .sl 8, .sl 9]) [(0,⟨1, .arr (ints (cmF f e).src.fr)⟩),(1,⟨1, .arr (ints (cmF f e).src.to)⟩),(2,⟨1, .arr (ints (cmF f e).src.id)⟩),(3,⟨1, .arr (aE (cmF f e).src.co)⟩),(4,⟨1, .arr (ints (cmF f e).tgt.fr)⟩),(5,⟨1, .arr (ints (cmF f e).tgt.to)⟩),(6,⟨1, .arr (ints (cmF f e).tgt.id)⟩),(7,⟨1, .arr (aE (cmF f e).tgt.co)⟩),(8,⟨1, .arr (ints (cmF f e).obs)⟩),(9,⟨1, .arr (ints (cmF f e).ars)⟩)]:=by
 refine aD (E:=TE) 0 Tryz.func70 rfl (by simp [Tryz.f70]) fun X hn hX=>?_
 have h1:=aG0 hy
 have h2:=hy.obs
 have h3:=hy.ars
 have h4:=kI (fG hy.src hy.tgt hy.one) (k:=0) (by omega)
 have h5:=qQ (f:=f) (e:=e) (k:=2) (by omega)
 have h6:=aZ (aK f e) 0 (aK f e).length
 have h7:=aZ (cmA f e) 2 (cmA f e).length
 repeat'(first|refine wkQ ?_|refine Tw.f ?_ ?_|(refine kcQ gO ?_;refine krQ (iQ (f:=f) (e:=e) ?_) ?_)|(refine kcQ nN ?_;refine krQ (rC (l:=aK f e) (k:=0) ?_ ?_) ?_)|(refine kcQ nN ?_;refine krQ (rC (l:=cmA f e) (k:=2) ?_ ?_) ?_)|(refine kcQ pE ?_;refine krQ (sY (c:=cmC f e (cmA f e).length) (d:=f.src) (p:=bP (aK f e) 0 (aK f e).length) (q:=bP (cmA f e) 2 (cmA f e).length) ?_ ?_ ?_ ?_) ?_)|(refine fun(hc:(_:Bool)=_)=>?_;try simp only [hcS]at hc))
 all_goals try exact om_
 (first|refine aB ?_|refine aA ?_);simp only [go_sem,simprocAttr,Tryz.f70]
 exact⟨⟨rfl,rfl,rfl,rfl,rfl,rfl,rfl,rfl,rfl,rfl⟩,rfl⟩
theorem aBk:aF Tryz.prog 47:=⟨_,Tryz.func47,rfl,rfl⟩
theorem wP {f e:Fun} (hf:FunB f) (he:FunB e) (hy:CYes f e):Spec Tryz.prog 47 [cK f,cK e] [] (.tup [.agg [iv (cmF f e).src.ob, .sl 0, .sl 1, .sl 2, .sl 3,iv (cmF f e).tgt.ob, .sl 4, .sl 5, .sl 6, .sl 7, .sl 8, .sl 9],iv 0]) [(0,⟨1, .arr (ints (cmF f e).src.fr)⟩),(1,⟨1, .arr (ints (cmF f e).src.to)⟩),(2,⟨1, .arr (ints (cmF f e).src.id)⟩),(3,⟨1, .arr (aE (cmF f e).src.co)⟩),(4,⟨1, .arr (ints (cmF f e).tgt.fr)⟩),(5,⟨1, .arr (ints (cmF f e).tgt.to)⟩),(6,⟨1, .arr (ints (cmF f e).tgt.id)⟩),(7,⟨1, .arr (aE (cmF f e).tgt.co)⟩),(8,⟨1, .arr (ints (cmF f e).obs)⟩),(9,⟨1, .arr (ints (cmF f e).ars)⟩)]:=by
 refine aD (E:=TE) 0 Tryz.func47 rfl (by simp [Tryz.f47]) fun X hn hX=>?_
 have h1:=hf.src
 repeat'(first|refine wkQ ?_|refine Tw.f ?_ ?_|(refine kcQ eH ?_;refine ksQ (a:=gE (by first|omega|assumption|rfl) (by first|omega|assumption|rfl) (by first|omega|assumption|rfl)) (c:=?_))|(refine kcQ zV ?_;refine krQ (aBt (f:=f) (e:=e) ?_ ?_) ?_)|(refine fun(hc:(_:Bool)=_)=>?_;try simp only [hcS]at hc))
 all_goals try exact om_
 (first|refine aB ?_|refine aA ?_);simp only [go_sem,simprocAttr,Tryz.f47]
theorem yI {f e:Fun} {c:Int} (hf:FunB f) (he:FunB e) (h:CNo f e c):Spec Tryz.prog 47 [cK f,cK e] [] (.tup [.agg [iv 0, .v (.slice none 0 0), .v (.slice none 0 0), .v (.slice none 0 0), .v (.slice none 0 0),iv 0, .v (.slice none 0 0), .v (.slice none 0 0), .v (.slice none 0 0), .v (.slice none 0 0), .v (.slice none 0 0), .v (.slice none 0 0)],iv c]) []:=by
 refine aD (E:=TE) 0 Tryz.func47 rfl (by simp [Tryz.f47]) fun X hn hX=>?_
 have hc0:c≠0:=by rcases h with⟨_,rfl⟩|⟨_,_,rfl⟩|⟨_,_,_,rfl⟩<;>decide
 repeat'(first|refine wkQ ?_|refine Tw.f ?_ ?_|(refine kcQ eH ?_;refine ksQ (a:=jZ (by first|omega|assumption|rfl) (by first|omega|assumption|rfl) (by first|omega|assumption|rfl)) (c:=?_))|(refine fun(hc:(_:Bool)=_)=>?_;try simp only [hcS]at hc))
 all_goals try exact om_
 ·(first|refine aB ?_|refine aA ?_);simp only [go_sem,simprocAttr,Tryz.f47]
theorem sE:aF Tryz.prog 50:=⟨_,Tryz.func50,rfl,rfl⟩
theorem oT {f e:Fun} (hf:FunB f) (he:FunB e) (hy:CYes f e):Spec Tryz.prog 50 [cK f,cK e] [] (.tup [.agg [iv (cmF f e).src.ob, .sl 0, .sl 1, .sl 2, .sl 3,iv (cmF f e).tgt.ob, .sl 4, .sl 5, .sl 6, .sl 7, .sl 8, .sl 9],iv 0]) [(0,⟨1, .arr (ints (cmF f e).src.fr)⟩),(1,⟨1, .arr (ints (cmF f e).src.to)⟩),(2,⟨1, .arr (ints (cmF f e).src.id)⟩),(3,⟨1, .arr (aE (cmF f e).src.co)⟩),(4,⟨1, .arr (ints (cmF f e).tgt.fr)⟩),(5,⟨1, .arr (ints (cmF f e).tgt.to)⟩),(6,⟨1, .arr (ints (cmF f e).tgt.id)⟩),(7,⟨1, .arr (aE (cmF f e).tgt.co)⟩),(8,⟨1, .arr (ints (cmF f e).obs)⟩),(9,⟨1, .arr (ints (cmF f e).ars)⟩)]:=by
 refine aD (E:=TE) 0 Tryz.func50 rfl (by simp [Tryz.f50]) fun X hn hX=>?_
 have h0:=hf.src
 have h1:=aG0 hy
 have h2:=hy.obs
 have h3:=hy.ars
 have h4:=kI (fG hy.src hy.tgt hy.one) (k:=0) (by omega)
 have h5:=qQ (f:=f) (e:=e) (k:=2) (by omega)
 have h6:=aZ (aK f e) 0 (aK f e).length
 have h7:=aZ (cmA f e) 2 (cmA f e).length
 repeat'(first|refine wkQ ?_|refine Tw.f ?_ ?_|(refine kcQ fV ?_;refine ksQ (a:=iS (by first|omega|assumption|rfl) (by first|omega|assumption|rfl) (by first|omega|assumption|rfl)) (c:=?_))|(refine kcQ fK ?_;refine krQ (gF (l:=aK f e) (k:=0) ?_ ?_) ?_)|(refine kcQ fK ?_;refine krQ (gF (l:=cmA f e) (k:=2) ?_ ?_) ?_)|(refine kcQ iA ?_;refine krQ (jJ (c:=cmC f e (cmA f e).length) (d:=f.src) (p:=bP (aK f e) 0 (aK f e).length) (q:=bP (cmA f e) 2 (cmA f e).length) ?_ ?_ ?_ ?_) ?_)|(refine fun(hc:(_:Bool)=_)=>?_;try simp only [hcS]at hc))
 all_goals try exact om_
 (first|refine aB ?_|refine aA ?_);simp only [go_sem,simprocAttr,Tryz.f50]
 exact⟨⟨rfl,rfl,rfl,rfl,rfl,rfl,rfl,rfl,rfl,rfl⟩,rfl⟩
theorem qK {f e:Fun} {c:Int} (hf:FunB f) (he:FunB e) (h:CNo f e c):Spec Tryz.prog 50 [cK f,cK e] [] (.tup [.agg [iv 0, .v (.slice none 0 0), .v (.slice none 0 0), .v (.slice none 0 0), .v (.slice none 0 0),iv 0, .v (.slice none 0 0), .v (.slice none 0 0), .v (.slice none 0 0), .v (.slice none 0 0), .v (.slice none 0 0), .v (.slice none 0 0)],iv c]) []:=by
 refine aD (E:=TE) 0 Tryz.func50 rfl (by simp [Tryz.f50]) fun X hn hX=>?_
 have hc0:c≠0:=by rcases h with⟨_,rfl⟩|⟨_,_,rfl⟩|⟨_,_,_,rfl⟩<;>decide
 repeat'(first|refine wkQ ?_|refine Tw.f ?_ ?_|(refine kcQ fV ?_;refine ksQ (a:=mK (by first|omega|assumption|rfl) (by first|omega|assumption|rfl) (by first|omega|assumption|rfl)) (c:=?_))|(refine fun(hc:(_:Bool)=_)=>?_;try simp only [hcS]at hc))
 all_goals try exact om_
 ·(first|refine aB ?_|refine aA ?_);simp only [go_sem,simprocAttr,Tryz.f50]
def CommaLeftOut (f e g:Fun) (code:Int):Prop:=(CYes f e∧g=cmF f e∧code=0)∨(CNo f e code∧g=nilF)
theorem CommaLeftOut.ex (f e:Fun):∃g code,CommaLeftOut f e g code:=by
 obtain⟨c,code,⟨h,_,rfl⟩|⟨h,_⟩⟩:=aM1 f e
 ·exact⟨_,_, .inl ⟨h,rfl,rfl⟩⟩
 ·exact⟨_,_, .inr ⟨h,rfl⟩⟩
theorem CommaLeftOut.b {f e g:Fun} {code:Int} (hf:FunB f) (he:FunB e) (h:CommaLeftOut f e g code):FunB g:=by
 rcases h with⟨hy,rfl,rfl⟩|⟨hn,rfl⟩
 ·exact aL5 hf hy
 ·exact aCT
theorem qJ {f e g:Fun} {code:Int} (hf:FunB f) (he:FunB e) (h:CommaLeftOut f e g code):Spec Tryz.prog 50 [cK f,cK e] [] (.tup [.agg [iv g.src.ob, .sl 0, .sl 1, .sl 2, .sl 3,iv g.tgt.ob, .sl 4, .sl 5, .sl 6, .sl 7, .sl 8, .sl 9],iv code]) [(0,⟨1, .arr (ints g.src.fr)⟩),(1,⟨1, .arr (ints g.src.to)⟩),(2,⟨1, .arr (ints g.src.id)⟩),(3,⟨1, .arr (aE g.src.co)⟩),(4,⟨1, .arr (ints g.tgt.fr)⟩),(5,⟨1, .arr (ints g.tgt.to)⟩),(6,⟨1, .arr (ints g.tgt.id)⟩),(7,⟨1, .arr (aE g.tgt.co)⟩),(8,⟨1, .arr (ints g.obs)⟩),(9,⟨1, .arr (ints g.ars)⟩)]:=by
 rcases h with⟨hy,rfl,rfl⟩|⟨hn,rfl⟩
 ·exact oT hf he hy
 ·exact aCz (qK hf he hn)
theorem yH {f e g:Fun} {code:Int} (hf:FunB f) (he:FunB e) (h:CommaLeftOut f e g code):Spec Tryz.prog 47 [cK f,cK e] [] (.tup [.agg [iv g.src.ob, .sl 0, .sl 1, .sl 2, .sl 3,iv g.tgt.ob, .sl 4, .sl 5, .sl 6, .sl 7, .sl 8, .sl 9],iv code]) [(0,⟨1, .arr (ints g.src.fr)⟩),(1,⟨1, .arr (ints g.src.to)⟩),(2,⟨1, .arr (ints g.src.id)⟩),(3,⟨1, .arr (aE g.src.co)⟩),(4,⟨1, .arr (ints g.tgt.fr)⟩),(5,⟨1, .arr (ints g.tgt.to)⟩),(6,⟨1, .arr (ints g.tgt.id)⟩),(7,⟨1, .arr (aE g.tgt.co)⟩),(8,⟨1, .arr (ints g.obs)⟩),(9,⟨1, .arr (ints g.ars)⟩)]:=by
 rcases h with⟨hy,rfl,rfl⟩|⟨hn,rfl⟩
 ·exact wP hf he hy
 ·exact aCz (yI hf he hn)
theorem yB:aF Tryz.prog 113:=⟨_,Tryz.func113,rfl,rfl⟩
theorem aAJ {f e:Fun} (hy:CYes f e) (hs:CatB e.src):Spec Tryz.prog 113 [.bptr [] (vT f e (aK f e) (cmA f e))] [] (.agg [iv (cmG f e).src.ob, .sl 0, .sl 1, .sl 2, .sl 3,iv (cmG f e).tgt.ob, .sl 4, .sl 5, .sl 6, .sl 7, .sl 8, .sl 9]) [(0,⟨1, .arr (ints (cmG f e).src.fr)⟩),(1,⟨1, .arr (ints (cmG f e).src.to)⟩),(2,⟨1, .arr (ints (cmG f e).src.id)⟩),(3,⟨1, .arr (aE (cmG f e).src.co)⟩),(4,⟨1, .arr (ints (cmG f e).tgt.fr)⟩),(5,⟨1, .arr (ints (cmG f e).tgt.to)⟩),(6,⟨1, .arr (ints (cmG f e).tgt.id)⟩),(7,⟨1, .arr (aE (cmG f e).tgt.co)⟩),(8,⟨1, .arr (ints (cmG f e).obs)⟩),(9,⟨1, .arr (ints (cmG f e).ars)⟩)]:=by
 refine aD (E:=TE) 0 Tryz.func113 rfl (by simp [Tryz.f113]) fun X hn hX=>?_
 have h1:=aG0 hy
 have h2:=hy.obs
 have h3:=hy.ars
 have h4:=kI (fG hy.src hy.tgt hy.one) (k:=1) (by omega)
 have h5:=qQ (f:=f) (e:=e) (k:=3) (by omega)
 have h6:=aZ (aK f e) 1 (aK f e).length
 have h7:=aZ (cmA f e) 3 (cmA f e).length
 repeat'(first|refine wkQ ?_|refine Tw.f ?_ ?_|(refine kcQ gO ?_;refine krQ (iQ (f:=f) (e:=e) ?_) ?_)|(refine kcQ nN ?_;refine krQ (rC (l:=aK f e) (k:=1) ?_ ?_) ?_)|(refine kcQ nN ?_;refine krQ (rC (l:=cmA f e) (k:=3) ?_ ?_) ?_)|(refine kcQ pE ?_;refine krQ (sY (c:=cmC f e (cmA f e).length) (d:=e.src) (p:=bP (aK f e) 1 (aK f e).length) (q:=bP (cmA f e) 3 (cmA f e).length) ?_ ?_ ?_ ?_) ?_)|(refine fun(hc:(_:Bool)=_)=>?_;try simp only [hcS]at hc))
 all_goals try exact om_
 (first|refine aB ?_|refine aA ?_);simp only [go_sem,simprocAttr,Tryz.f113]
 exact⟨⟨rfl,rfl,rfl,rfl,rfl,rfl,rfl,rfl,rfl,rfl⟩,rfl⟩
theorem zT:aF Tryz.prog 48:=⟨_,Tryz.func48,rfl,rfl⟩
theorem uW {f e:Fun} (hf:FunB f) (he:FunB e) (hy:CYes f e):Spec Tryz.prog 48 [cK f,cK e] [] (.tup [.agg [iv (cmG f e).src.ob, .sl 0, .sl 1, .sl 2, .sl 3,iv (cmG f e).tgt.ob, .sl 4, .sl 5, .sl 6, .sl 7, .sl 8, .sl 9],iv 0]) [(0,⟨1, .arr (ints (cmG f e).src.fr)⟩),(1,⟨1, .arr (ints (cmG f e).src.to)⟩),(2,⟨1, .arr (ints (cmG f e).src.id)⟩),(3,⟨1, .arr (aE (cmG f e).src.co)⟩),(4,⟨1, .arr (ints (cmG f e).tgt.fr)⟩),(5,⟨1, .arr (ints (cmG f e).tgt.to)⟩),(6,⟨1, .arr (ints (cmG f e).tgt.id)⟩),(7,⟨1, .arr (aE (cmG f e).tgt.co)⟩),(8,⟨1, .arr (ints (cmG f e).obs)⟩),(9,⟨1, .arr (ints (cmG f e).ars)⟩)]:=by
 refine aD (E:=TE) 0 Tryz.func48 rfl (by simp [Tryz.f48]) fun X hn hX=>?_
 have h1:=he.src
 repeat'(first|refine wkQ ?_|refine Tw.f ?_ ?_|(refine kcQ eH ?_;refine ksQ (a:=gE (by first|omega|assumption|rfl) (by first|omega|assumption|rfl) (by first|omega|assumption|rfl)) (c:=?_))|(refine kcQ yB ?_;refine krQ (aAJ (f:=f) (e:=e) ?_ ?_) ?_)|(refine fun(hc:(_:Bool)=_)=>?_;try simp only [hcS]at hc))
 all_goals try exact om_
 (first|refine aB ?_|refine aA ?_);simp only [go_sem,simprocAttr,Tryz.f48]
theorem wR {f e:Fun} {c:Int} (hf:FunB f) (he:FunB e) (h:CNo f e c):Spec Tryz.prog 48 [cK f,cK e] [] (.tup [.agg [iv 0, .v (.slice none 0 0), .v (.slice none 0 0), .v (.slice none 0 0), .v (.slice none 0 0),iv 0, .v (.slice none 0 0), .v (.slice none 0 0), .v (.slice none 0 0), .v (.slice none 0 0), .v (.slice none 0 0), .v (.slice none 0 0)],iv c]) []:=by
 refine aD (E:=TE) 0 Tryz.func48 rfl (by simp [Tryz.f48]) fun X hn hX=>?_
 have hc0:c≠0:=by rcases h with⟨_,rfl⟩|⟨_,_,rfl⟩|⟨_,_,_,rfl⟩<;>decide
 repeat'(first|refine wkQ ?_|refine Tw.f ?_ ?_|(refine kcQ eH ?_;refine ksQ (a:=jZ (by first|omega|assumption|rfl) (by first|omega|assumption|rfl) (by first|omega|assumption|rfl)) (c:=?_))|(refine fun(hc:(_:Bool)=_)=>?_;try simp only [hcS]at hc))
 all_goals try exact om_
 ·(first|refine aB ?_|refine aA ?_);simp only [go_sem,simprocAttr,Tryz.f48]
theorem rF:aF Tryz.prog 51:=⟨_,Tryz.func51,rfl,rfl⟩
theorem oD {f e:Fun} (hf:FunB f) (he:FunB e) (hy:CYes f e):Spec Tryz.prog 51 [cK f,cK e] [] (.tup [.agg [iv (cmG f e).src.ob, .sl 0, .sl 1, .sl 2, .sl 3,iv (cmG f e).tgt.ob, .sl 4, .sl 5, .sl 6, .sl 7, .sl 8, .sl 9],iv 0]) [(0,⟨1, .arr (ints (cmG f e).src.fr)⟩),(1,⟨1, .arr (ints (cmG f e).src.to)⟩),(2,⟨1, .arr (ints (cmG f e).src.id)⟩),(3,⟨1, .arr (aE (cmG f e).src.co)⟩),(4,⟨1, .arr (ints (cmG f e).tgt.fr)⟩),(5,⟨1, .arr (ints (cmG f e).tgt.to)⟩),(6,⟨1, .arr (ints (cmG f e).tgt.id)⟩),(7,⟨1, .arr (aE (cmG f e).tgt.co)⟩),(8,⟨1, .arr (ints (cmG f e).obs)⟩),(9,⟨1, .arr (ints (cmG f e).ars)⟩)]:=by
 refine aD (E:=TE) 0 Tryz.func51 rfl (by simp [Tryz.f51]) fun X hn hX=>?_
 have h0:=he.src
 have h1:=aG0 hy
 have h2:=hy.obs
 have h3:=hy.ars
 have h4:=kI (fG hy.src hy.tgt hy.one) (k:=1) (by omega)
 have h5:=qQ (f:=f) (e:=e) (k:=3) (by omega)
 have h6:=aZ (aK f e) 1 (aK f e).length
 have h7:=aZ (cmA f e) 3 (cmA f e).length
 repeat'(first|refine wkQ ?_|refine Tw.f ?_ ?_|(refine kcQ fV ?_;refine ksQ (a:=iS (by first|omega|assumption|rfl) (by first|omega|assumption|rfl) (by first|omega|assumption|rfl)) (c:=?_))|(refine kcQ fK ?_;refine krQ (gF (l:=aK f e) (k:=1) ?_ ?_) ?_)|(refine kcQ fK ?_;refine krQ (gF (l:=cmA f e) (k:=3) ?_ ?_) ?_)|(refine kcQ iA ?_;refine krQ (jJ (c:=cmC f e (cmA f e).length) (d:=e.src) (p:=bP (aK f e) 1 (aK f e).length) (q:=bP (cmA f e) 3 (cmA f e).length) ?_ ?_ ?_ ?_) ?_)|(refine fun(hc:(_:Bool)=_)=>?_;try simp only [hcS]at hc))
 all_goals try exact om_
 (first|refine aB ?_|refine aA ?_);simp only [go_sem,simprocAttr,Tryz.f51]
 exact⟨⟨rfl,rfl,rfl,rfl,rfl,rfl,rfl,rfl,rfl,rfl⟩,rfl⟩
theorem oV {f e:Fun} {c:Int} (hf:FunB f) (he:FunB e) (h:CNo f e c):Spec Tryz.prog 51 [cK f,cK e] [] (.tup [.agg [iv 0, .v (.slice none 0 0), .v (.slice none 0 0), .v (.slice none 0 0), .v (.slice none 0 0),iv 0, .v (.slice none 0 0), .v (.slice none 0 0), .v (.slice none 0 0), .v (.slice none 0 0), .v (.slice none 0 0), .v (.slice none 0 0)],iv c]) []:=by
 refine aD (E:=TE) 0 Tryz.func51 rfl (by simp [Tryz.f51]) fun X hn hX=>?_
 have hc0:c≠0:=by rcases h with⟨_,rfl⟩|⟨_,_,rfl⟩|⟨_,_,_,rfl⟩<;>decide
 repeat'(first|refine wkQ ?_|refine Tw.f ?_ ?_|(refine kcQ fV ?_;refine ksQ (a:=mK (by first|omega|assumption|rfl) (by first|omega|assumption|rfl) (by first|omega|assumption|rfl)) (c:=?_))|(refine fun(hc:(_:Bool)=_)=>?_;try simp only [hcS]at hc))
 all_goals try exact om_
 ·(first|refine aB ?_|refine aA ?_);simp only [go_sem,simprocAttr,Tryz.f51]
def CommaRightOut (f e g:Fun) (code:Int):Prop:=(CYes f e∧g=cmG f e∧code=0)∨(CNo f e code∧g=nilF)
theorem CommaRightOut.ex (f e:Fun):∃g code,CommaRightOut f e g code:=by
 obtain⟨c,code,⟨h,_,rfl⟩|⟨h,_⟩⟩:=aM1 f e
 ·exact⟨_,_, .inl ⟨h,rfl,rfl⟩⟩
 ·exact⟨_,_, .inr ⟨h,rfl⟩⟩
theorem CommaRightOut.b {f e g:Fun} {code:Int} (hf:FunB f) (he:FunB e) (h:CommaRightOut f e g code):FunB g:=by
 rcases h with⟨hy,rfl,rfl⟩|⟨hn,rfl⟩
 ·exact aL6 he hy
 ·exact aCT
theorem oU {f e g:Fun} {code:Int} (hf:FunB f) (he:FunB e) (h:CommaRightOut f e g code):Spec Tryz.prog 51 [cK f,cK e] [] (.tup [.agg [iv g.src.ob, .sl 0, .sl 1, .sl 2, .sl 3,iv g.tgt.ob, .sl 4, .sl 5, .sl 6, .sl 7, .sl 8, .sl 9],iv code]) [(0,⟨1, .arr (ints g.src.fr)⟩),(1,⟨1, .arr (ints g.src.to)⟩),(2,⟨1, .arr (ints g.src.id)⟩),(3,⟨1, .arr (aE g.src.co)⟩),(4,⟨1, .arr (ints g.tgt.fr)⟩),(5,⟨1, .arr (ints g.tgt.to)⟩),(6,⟨1, .arr (ints g.tgt.id)⟩),(7,⟨1, .arr (aE g.tgt.co)⟩),(8,⟨1, .arr (ints g.obs)⟩),(9,⟨1, .arr (ints g.ars)⟩)]:=by
 rcases h with⟨hy,rfl,rfl⟩|⟨hn,rfl⟩
 ·exact oD hf he hy
 ·exact aCz (oV hf he hn)
theorem wQ {f e g:Fun} {code:Int} (hf:FunB f) (he:FunB e) (h:CommaRightOut f e g code):Spec Tryz.prog 48 [cK f,cK e] [] (.tup [.agg [iv g.src.ob, .sl 0, .sl 1, .sl 2, .sl 3,iv g.tgt.ob, .sl 4, .sl 5, .sl 6, .sl 7, .sl 8, .sl 9],iv code]) [(0,⟨1, .arr (ints g.src.fr)⟩),(1,⟨1, .arr (ints g.src.to)⟩),(2,⟨1, .arr (ints g.src.id)⟩),(3,⟨1, .arr (aE g.src.co)⟩),(4,⟨1, .arr (ints g.tgt.fr)⟩),(5,⟨1, .arr (ints g.tgt.to)⟩),(6,⟨1, .arr (ints g.tgt.id)⟩),(7,⟨1, .arr (aE g.tgt.co)⟩),(8,⟨1, .arr (ints g.obs)⟩),(9,⟨1, .arr (ints g.ars)⟩)]:=by
 rcases h with⟨hy,rfl,rfl⟩|⟨hn,rfl⟩
 ·exact uW hf he hy
 ·exact aCz (wR hf he hn)
end Go.Eng
