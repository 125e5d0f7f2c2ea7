/- Several texts in one: T02, Q28, Q29, I03. -/
import Derived.Test.YthgijhnmcglppaaGreatKvy
set_option linter.unusedSimpArgs false
set_option linter.unusedVariables false
set_option maxRecDepth 100000
set_option maxHeartbeats 16000000
section
namespace Go.Eng
open Go Go.Proofs Go.Cats
theorem aIJ {f:Fun} (hf:Fits f) {a:Int} (h0:0≤a) (h1:a<f.src.fr.length):0≤f.A a∧f.A a<f.tgt.fr.length∧f.tgt.F (f.A a)=f.O (f.src.F a)∧f.tgt.T (f.A a)=f.O (f.src.T a):=by
 have l:=hf.arl
 have w:=hf.arw a.toNat (by omega)
 have e:=hf.endf a.toNat (by omega)
 rw [Int.toNat_of_nonneg h0]at e
 exact⟨w.1,w.2,e.1,e.2⟩
theorem aN2 {f g:Fun} (hf:Fits f) {x:Int} (h0:0≤x) (h1:x<f.src.ob):(thF f g).O x=g.O (f.O x):=by
 have l:=hf.obl
 exact thn_at (by omega)
theorem aJB {f g:Fun} (hf:Fits f) {a:Int} (h0:0≤a) (h1:a<f.src.fr.length):(thF f g).A a=g.A (f.A a):=by
 have l:=hf.arl
 exact thn_at (by omega)
theorem aFN {c:Cat} (s:Shape c) {a b:Int} (a0:0≤a) (a1:a<c.fr.length) (b0:0≤b) (b1:b<c.fr.length) (e:c.T a=c.F b):0≤c.C a b∧c.C a b<c.fr.length:=by
 have:=(s.coe a.toNat (by omega)).2 b.toNat (by omega)
 unfold Cat.Entry at this
 rw [Int.toNat_of_nonneg a0,Int.toNat_of_nonneg b0]at this
 rcases this with⟨_,h,_⟩|⟨h,_⟩
 ·exact h
 ·exact absurd e h
theorem aP2 {f:Fun} (sc:Shape f.src) (hf:Fits f) {a b:Int} (a0:0≤a) (a1:a<f.src.fr.length) (b0:0≤b) (b1:b<f.src.fr.length) (e:f.src.T a=f.src.F b):f.A (f.src.C a b)=f.tgt.C (f.A a) (f.A b):=by
 have h:=aFN sc a0 a1 b0 b1 e
 have:=hf.comp a.toNat b.toNat (by omega) (by omega)
 rw [Int.toNat_of_nonneg a0,Int.toNat_of_nonneg b0]at this
 exact this h.1
theorem aNZ {f g:Fun} (sc:Shape f.src) (st:Shape f.tgt) (hf:Fits f) (hg:Fits g) (e:g.src=f.tgt):Fits (thF f g):=by
 have sg:Shape g.src:=by rw [e];exact st
 have fo:=hf.obl
 have fa:=hf.arl
 have ga:=hg.arl
 have go:=hg.obl
 rw [e]at ga go
 have c0:=sc.ob0
 refine⟨?_,?_,?_,?_,fun a ha=>?_,fun x hx=>?_,fun a b ha hb h0=>?_⟩
 ·show((thn f.obs g.obs).length:Int)=f.src.ob;rw [thn_len];exact fo
 ·show(thn f.ars g.ars).length=f.src.fr.length;rw [thn_len];exact fa
 ·exact thn_in (by rw [go];exact hf.obw) hg.obw
 ·exact thn_in (by rw [ga];exact hf.arw) hg.arw
 ·have ha:a<f.src.fr.length:=by have:a<(thn f.ars g.ars).length:=ha;rw [thn_len]at this;omega
  have f1:=sc.frw a ha
  have f2:=sc.tow a (by rw [sc.tol];exact ha)
  have h1:=aIJ hf (a:=(a:Int)) (by omega) (by omega)
  have h2:=aIJ hg (a:=f.A (a:Int)) h1.1 (by rw [e];exact h1.2.1)
  have e1:(thF f g).ars.getD a 0=g.A (f.A (a:Int)):=thn_at (by omega)
  rw [e1]
  have e2:(thF f g).O ((thF f g).src.F (a:Int))=g.O (f.O (f.src.F (a:Int))):=aN2 hf (x:=f.src.F (a:Int)) (by simpa [Cat.F]using f1.1) (by simpa [Cat.F]using f1.2)
  have e3:(thF f g).O ((thF f g).src.T (a:Int))=g.O (f.O (f.src.T (a:Int))):=aN2 hf (x:=f.src.T (a:Int)) (by simpa [Cat.T]using f2.1) (by simpa [Cat.T]using f2.2)
  rw [e2,e3]
  have e4:=h2.2.2.1
  have e5:=h2.2.2.2
  rw [e,h1.2.2.1]at e4
  rw [e,h1.2.2.2]at e5
  exact⟨e4,e5⟩
 ·have hx:x<f.src.id.length:=hx
  have il:=sc.idl
  have iw:=sc.idw x hx
  have u1:=hf.unit x hx
  have ow:=hf.obw x (by omega)
  have tl:=st.idl
  have u2:=hg.unit (f.O (x:Int)).toNat (by
   rw [e];have:f.O (x:Int)=f.obs.getD x 0:=by simp [Fun.O]
   omega)
  have ox:0≤f.O (x:Int):=by
   have:f.O (x:Int)=f.obs.getD x 0:=by simp [Fun.O]
   omega
  rw [e,Int.toNat_of_nonneg ox]at u2
  show(thF f g).A (f.src.id.getD x 0)=g.tgt.I ((thF f g).O (x:Int))
  rw [aJB hf iw.1 iw.2,u1,aN2 hf (by omega) (by omega)]
  exact u2
 ·have ha:a<f.src.fr.length:=ha
  have hb:b<f.src.fr.length:=hb
  have h0:0≤f.src.C a b:=h0
  have hT:f.src.T a=f.src.F b:=by
   have:=sc.neg ha hb
   exact Classical.byContradiction fun q=>by have:=this.2 q;omega
  have hc:=aFN sc (a:=a) (b:=b) (by omega) (by omega) (by omega) (by omega) hT
  have h1:=aIJ hf (a:=(a:Int)) (by omega) (by omega)
  have h2:=aIJ hf (a:=(b:Int)) (by omega) (by omega)
  show(thF f g).A (f.src.C a b)=g.tgt.C ((thF f g).A a) ((thF f g).A b)
  rw [aJB hf hc.1 hc.2,aJB hf (by omega) (by omega),aJB hf (by omega) (by omega),aP2 sc hf (by omega) (by omega) (by omega) (by omega) hT]
  have:=aP2 sg hg (a:=f.A (a:Int)) (b:=f.A (b:Int)) h1.1 (by rw [e];exact h1.2.1) h2.1 (by rw [e];exact h2.2.1) (by rw [e,h1.2.2.2,h2.2.2.1,hT])
  rw [e]at this
  exact this
end Go.Eng
end
section
namespace Go.Eng
open Go Go.Proofs Go.Cats
attribute [local go_sem] List.set_cons_zero List.set_cons_succ
@[go_sem] theorem aT2 (n:Nat) (ps:List (List Int)):jnK n ps 0=nums n:=rfl
theorem aIZ {f:Fun} {x:Nat}:∀{k:Nat},x<k→(aAA f k).getD x []=[(x:Int),f.obs.getD x 0]
 |0,h=>by omega
 |k+1,h=>by
  have hl:=wZ f k
  rw [aAA,List.getD_eq_getElem?_getD]
  by_cases e:x<k
  ·rw [List.getElem?_append_left (by omega),←List.getD_eq_getElem?_getD,aIZ e]
  ·have:x=k:=by omega
   subst this
   rw [List.getElem?_append_right (by omega),hl,Nat.sub_self];rfl
theorem aGp {F:List Fun} {i:Nat}:∀{j:Nat},i≤j→∃R,lP F j=lP F i++R
 |0,h=>⟨[],by rw [show i=0 by omega,List.append_nil]⟩
 |j+1,h=>by
  by_cases e:i=j+1
  ·exact⟨[],by rw [e,List.append_nil]⟩
  ·obtain⟨R,hR⟩:=aGp (F:=F) (show i≤j by omega)
   exact⟨R++aAA (F.getD j default) (F.getD j default).obs.length,by rw [lP,hR,List.append_assoc]⟩
theorem aO3 {F:List Fun} {n i x:Nat} (h:∀f∈F,f.obs.length=n) (hi:i<F.length) (hx:x<n):(lP F F.length).getD (i*n+x) []=[(x:Int),(F.getD i default).obs.getD x 0]:=by
 obtain⟨R,hR⟩:=aGp (F:=F) (i:=i+1) (j:=F.length) (by omega)
 have hl:=aB3 F h i (by omega)
 have ho:=h _ (aX (d:=default) hi)
 have hl2:=wZ (F.getD i default) n
 rw [hR,lP,ho,List.getD_eq_getElem?_getD,List.getElem?_append_left (by rw [List.length_append];omega),List.getElem?_append_right (by omega),hl,Nat.add_sub_cancel_left,←List.getD_eq_getElem?_getD,aIZ hx]
theorem yG:aD Tryz.prog 26:=⟨_,Tryz.func26,rfl,rfl⟩
theorem vC {c:Cat} {F:List Fun} {n:Nat} (hc:CatB c) (h:AOut c c F 0) (hn0:c.ob=n) (hn1:n≤1048576) (hF:F.length≤200) (hn2:n≤40) (h1:∀f∈F,f.obs.length=n) (h2:∀f∈F,∀x,x<n→0≤f.obs.getD x 0∧f.obs.getD x 0<n):Spec Tryz.prog 26 [cK c] [] (.tup [.sl 0,iv 0]) [(0,⟨1, .arr (ints (clsI (joK n (lP F F.length) (lP F F.length).length) n).1)⟩)]:=by
 have hiso:=kQ hc hc h
 have hpl:=aB3 F h1
 have hps:=aI0 h1 h2
 have hpa:=fun(i x:Nat) (hi:i<F.length) (hx:x<n)=>aO3 h1 hi hx
 have hce:=aQJ hps
 have hJ:=aHG hps
 have hjof:=aGQ (n:=n) hn1
 rw [←hn0]at hjof
 have hpL:=hpl F.length (Nat.le_refl _)
 obtain⟨ps,hpe⟩:∃ps,lP F F.length=ps:=⟨_,rfl⟩
 rw [hpe]at hps hpa hce hJ hpL⊢
 refine aC (E:=TE) 0 Tryz.func26 rfl (by simp [Tryz.f26]) fun X hn hX=>?_
 repeat'(first|refine wkQ ?_|refine Tw.f ?_ ?_|(refine kcQ nK ?_;refine kwQ (hiso) [(0,1)] [0] ?_)|(refine kcQ aEx ?_;refine kwQ (hjof) [(0,2)] [] ?_)|(refine fun(hc:(_:Bool)=_)=>?_;try simp only [hcS]at hc))
 all_goals try exact om_
 refine aG (G:={i:Nat//i≤F.length∧(True)}) (fun⟨i,_⟩=>[(23,iv i),(6, .sl 2),(1, .ptr 0 0)]) [2,3,21,22] (fun⟨i,_⟩=>[(2,⟨1, .arr (ints (jnK n ps (i*n)))⟩)]) [2] (fun zz=>F.length-zz.1) ⟨0,Nat.zero_le _,by first|trivial|simp⟩ ?_ ?_
 ·exact Imp.au hX
 rintro⟨i,hii,hwi⟩
 simp only [go_sem,simprocAttr]
 rcases Nat.lt_or_ge i F.length with hlt|hge
 ·have hp:=aDL F i hlt
  have ho:=h1 _ (aX (d:=default) hlt)
  have hob:=h2 _ (aX (d:=default) hlt)
  have hpi:=fun(x:Nat) (hx:x<n)=>hpa i x hlt hx
  have hle:(i+1)*n≤F.length*n:=Nat.mul_le_mul_right n hlt
  rw [Nat.add_mul,Nat.one_mul]at hle
  generalize F.getD i default=f at *
  repeat'(first|(rw [hp];simp only [aJ2])|(with_reducible first|refine St.f ?_|refine V_c ?_|refine And.intro ?_ ?_|refine aJ ?_ ?_|refine aO ?_)|((refine aV ?_);intro K hK)|((with_reducible refine So.f ?_);intro K hK;simp(contextual:=true)only [go_sem,simprocAttr])|((with_reducible refine hK _ ?_);clear hK K)|(refine fun(hc:(_:Bool)=_)=>?_;try simp only [hcS]at hc))
  all_goals try exact om_
  refine aG (G:={x:Nat//x≤f.obs.length∧(True)}) (fun⟨x,_⟩=>[(30,iv x),(6, .sl 2),(1, .ptr 0 0),(8, .ptr 3 0)]) [2,3,21,22,23,28,29] (fun⟨x,_⟩=>[(2,⟨1, .arr (ints (jnK n ps (i*n+x)))⟩)]) [2] (fun zz=>f.obs.length-zz.1) ⟨0,Nat.zero_le _,by first|trivial|simp⟩ ?_ ?_
  ·exact Imp.au hX
  rintro⟨x,hix,hwx⟩
  simp only [go_sem,simprocAttr]
  rcases Nat.lt_or_ge x f.obs.length with hlt2|hge2
  ·obtain⟨u1,u2,_⟩:=hJ (i*n+x) (by omega)
   have hox:=hob x (by omega)
   have hjn:=aCs (J:=jnK n ps (i*n+x)) (x:=x) (y:=(f.obs.getD x 0).toNat) u1 (by omega) (by omega) (by omega)
   rw [Int.toNat_of_nonneg hox.1]at hjn
   have e1:jnK n ps (i*n+(x+1))=jn (jnK n ps (i*n+x)) x (f.obs.getD x 0).toNat:=by
    show jnK n ps (i*n+x+1)=_
    rw [jnK,hpi x (by omega)];rfl
   repeat'(first|refine wkQ ?_|refine Tw.f ?_ ?_|(refine kcQ aAx ?_;refine kwQ (hjn) [(0,2)] [] ?_)|(refine fun(hc:(_:Bool)=_)=>?_;try simp only [hcS]at hc))
   all_goals try exact om_
   ·refine⟨⟨x+1,by omega,(by trivial)⟩,by simp only;omega,Imp.auto hX (by simp only [go_sem,simprocAttr,e1])⟩
  ·have ex:x=n:=by omega
   have e2:(i+1)*n=i*n+n:=by rw [Nat.add_mul,Nat.one_mul]
   rw [ex]
   repeat'(first|refine wkQ ?_|refine Tw.f ?_ ?_|(refine fun(hc:(_:Bool)=_)=>?_;try simp only [hcS]at hc))
   all_goals try exact om_
   ·refine⟨⟨i+1,by omega,(by(trivial))⟩,by simp only;omega,Imp.auto hX (by simp only [go_sem,simprocAttr,e2])⟩
 ·have ei:i=F.length:=by omega
  rw [ei,←hpL]
  obtain⟨u1,u2,_⟩:=hJ ps.length (Nat.le_refl _)
  have hpt:=tK (J:=jnK n ps ps.length) u1 (by omega)
  rw [u2]at hpt
  have hce2:(clsI (rtL (jnK n ps ps.length) n) n).1=(clsI (joK n ps ps.length) n).1:=hce
  rw [hce2]at hpt
  repeat'(first|refine wkQ ?_|refine Tw.f ?_ ?_|(refine kcQ qW ?_;refine kwQ (hpt) [(0,2),(1,3)] [] ?_)|(refine fun(hc:(_:Bool)=_)=>?_;try simp only [hcS]at hc))
  all_goals try exact om_
  ·(first|refine aB ?_|refine aA ?_);simp only [go_sem,simprocAttr,Tryz.f26]
end Go.Eng
end
section
namespace Go.Eng
open Go Go.Proofs Go.Cats
attribute [local go_sem] List.set_cons_zero List.set_cons_succ
theorem adoptI {P:Program} {F:FuncId} {args:List Sv} {code:Int} (h:Spec P F args [] (.tup [.v (.slice none 0 0),iv code]) []):Spec P F args [] (.tup [.sl 0,iv code]) [(0,⟨1, .arr (ints [])⟩)]:=by
 refine Spec.adopt h (dD aBN) fun w S v cn h=>?_
 simp only [Sv.ok,Sv.okL]at h⊢
 obtain⟨vs,rfl,x,r,rfl,e,hr⟩:=h
 exact⟨_,rfl,_,_,rfl,⟨Nat.le_refl 1,e⟩,hr⟩
theorem tG {c:Cat} {F:List Fun} {code:Int} (hc:CatB c) (h:AOut c c F code) (h0:code≠0):Spec Tryz.prog 26 [cK c] [] (.tup [.v (.slice none 0 0),iv code]) []:=by
 have hiso:=kQ hc hc h
 refine aC (E:=TE) 0 Tryz.func26 rfl (by simp [Tryz.f26]) fun X hn hX=>?_
 repeat'(first|refine wkQ ?_|refine Tw.f ?_ ?_|(refine kcQ nK ?_;refine kwQ (hiso) [(0,1)] [0] ?_)|(refine fun(hc:(_:Bool)=_)=>?_;try simp only [hcS]at hc))
 all_goals try exact om_
 all_goals first|(exact absurd (by assumption) h0)|skip
 (first|refine aB ?_|refine aA ?_);simp only [go_sem,simprocAttr,Tryz.f26]
def OrbOut (c:Cat) (L:List Int) (code:Int):Prop:=∃F,AOut c c F code∧((code≠0∧L=[])∨(code=0∧L=(clsI (joK c.ob.toNat (lP F F.length) (lP F F.length).length) c.ob.toNat).1))
theorem OrbOut.ex (c:Cat):∃L code,OrbOut c L code:=by
 obtain⟨F,code,h⟩:=AOut.ex c c
 by_cases h0:code=0
 ·exact⟨_,code,F,h, .inr ⟨h0,rfl⟩⟩
 ·exact⟨_,code,F,h, .inl ⟨h0,rfl⟩⟩
theorem yB {c:Cat} {F:List Fun} (h:AOut c c F 0):0≤c.ob∧c.ob≤40∧F.length≤200∧(∀f∈F,f.obs.length=c.ob.toNat)∧∀f∈F,∀x,x<c.ob.toNat→0≤f.obs.getD x 0∧f.obs.getD x 0<c.ob.toNat:=by
 rcases h with⟨_,_,q⟩|⟨_,_,_,_,q⟩|⟨h1,_,_,⟨q,_⟩|⟨_,_,_,_,q⟩|⟨e1,e2,h,rfl,_⟩⟩
 ·exact absurd q (by decide)
 ·exact absurd q (by decide)
 ·exact absurd ⟨rfl,rfl⟩ q
 ·exact absurd q (by decide)
 ·have o0:=h1.toShape.ob0
  have o8:=h1.toShape.ob8
  refine⟨o0,by omega,h,fun f hf=>?_,fun f hf x hx=>?_⟩
  ·have:=(yT h1 h1 e1 e2 (rF hf).2.2.2).fit.obl
   have:(f.obs.length:Int)=c.ob:=this
   omega
  ·have hi:=yT h1 h1 e1 e2 (rF hf).2.2.2
   have hl:(f.obs.length:Int)=c.ob:=hi.fit.obl
   have:=hi.fit.obw x (by show x<f.obs.length;omega)
   have:0≤f.obs.getD x 0∧f.obs.getD x 0<c.ob:=this
   omega
theorem vB {c:Cat} {L:List Int} {code:Int} (hc:CatB c) (h:OrbOut c L code):Spec Tryz.prog 26 [cK c] [] (.tup [.sl 0,iv code]) [(0,⟨1, .arr (ints L)⟩)]:=by
 obtain⟨F,hF,⟨h0,rfl⟩|⟨rfl,rfl⟩⟩:=h
 ·exact adoptI (tG hc hF h0)
 ·obtain⟨a1,a2,a3,a4,a5⟩:=yB hF
  exact vC hc hF (by omega) (by omega) a3 (by omega) a4 a5
theorem OrbOut.len {c:Cat} {L:List Int} {code:Int} (h:OrbOut c L code):L.length≤40:=by
 obtain⟨F,hF,⟨h0,rfl⟩|⟨rfl,rfl⟩⟩:=h
 ·exact Nat.zero_le _
 ·obtain⟨a1,a2,_⟩:=yB hF
  rw [(mI _ _).1];omega
end Go.Eng
end
section
namespace Go.Eng
open Go Go.Proofs Go.Cats
theorem aGl {f:Fun} {x:Nat}:∀{k:Nat},x<k→[(x:Int),f.obs.getD x 0]∈aAA f k
 |0,h=>by omega
 |k+1,h=>by
  rw [aAA]
  by_cases e:x=k
  ·subst e;exact List.mem_append_right _ (List.mem_singleton.2 rfl)
  ·exact List.mem_append_left _ (aGl (by omega))
theorem aGn {F:List Fun} {j x:Nat} (hx:x<(F.getD j default).obs.length):∀{i:Nat},j<i→[(x:Int),(F.getD j default).obs.getD x 0]∈lP F i
 |0,h=>by omega
 |i+1,h=>by
  rw [lP]
  by_cases e:j=i
  ·subst e;exact List.mem_append_right _ (aGl hx)
  ·exact List.mem_append_left _ (aGn hx (by omega))
theorem aMN {F:List Fun} {n j x:Nat} (h:∀f∈F,f.obs.length=n) (h2:∀f∈F,∀x,x<n→0≤f.obs.getD x 0∧f.obs.getD x 0<n) (hj:j<F.length) (hx:x<n):
  (clsI (joK n (lP F F.length) (lP F F.length).length) n).1.getD x 0=(clsI (joK n (lP F F.length) (lP F F.length).length) n).1.getD ((F.getD j default).obs.getD x 0).toNat 0:=by
 have hm:F.getD j default∈F:=aX hj
 have h3:=h2 _ hm x hx
 have hp:=aGn (F:=F) (j:=j) (x:=x) (by rw [h _ hm];exact hx) hj
 obtain⟨k,hk,e⟩:=fX (d:=[]) hp
 have:=aF9 (aI0 h h2) _ (Nat.le_refl _) k hk
 rw [e]at this
 refine aOq hx (by omega) ?_
 simpa using this
theorem _root_.Go.Cats.Bij.thn {n:Nat} {l m:List Int} (h:Bij n l) (k:Bij n m):Bij n (thn l m):=by
 have h1:=h.len
 have k1:=k.len
 refine⟨by rw [thn_len];exact h1,thn_in (by rw [k1];exact h.win) k.win,fun i j hij hj h0 e=>?_⟩
 rw [thn_len]at hj
 rw [thn_at (by omega),thn_at hj]at e
 have a:=h.at (i:=i) (by omega)
 have b:=h.at (i:=j) (by omega)
 have:=k.eq (by omega) (by omega) e
 have:=h.eq (i:=i) (j:=j) (by omega) (by omega) (by omega)
 omega
structure AutF (c:Cat) (F:List Fun) (L:List Int):Prop where
 cat:IsCat c
 few:F.length≤200
 some:1≤F.length
 iso:∀f∈F,f.src=c∧f.tgt=c∧IsoQ c c f.obs f.ars
 thn:∀f∈F,∀g∈F,thF f g∈F
 back:∀f∈F,bwF f∈F
 len:(L.length:Int)=c.ob
 orb:∀j,j<F.length→∀x,x<L.length→L.getD x 0=L.getD ((F.getD j default).obs.getD x 0).toNat 0
theorem aOl {c:Cat} {F:List Fun} {L:List Int} (h:AOut c c F 0) (hL:OrbOut c L 0):AutF c F L:=by
 obtain⟨F',hF',hL⟩:=hL
 have hz:=yB h
 obtain⟨hc,hF,h2⟩:IsCat c∧F=cZ c c true c.ob.toNat []∧F.length≤200:=by
  rcases h with⟨_,_,q⟩|⟨_,_,_,_,q⟩|⟨h1,_,_,⟨q,_⟩|⟨_,_,_,_,q⟩|⟨e1,e2,h,h3,_⟩⟩
  ·exact absurd q (by decide)
  ·exact absurd q (by decide)
  ·exact absurd ⟨rfl,rfl⟩ q
  ·exact absurd q (by decide)
  ·exact⟨h1,h3,by rw [h3];exact h⟩
 have hF2:F'=F:=by
  rcases hF' with⟨_,_,q⟩|⟨_,_,_,_,q⟩|⟨h1,_,_,⟨q,_⟩|⟨_,_,_,_,q⟩|⟨e1,e2,h,h3,_⟩⟩
  ·exact absurd q (by decide)
  ·exact absurd q (by decide)
  ·exact absurd ⟨rfl,rfl⟩ q
  ·exact absurd q (by decide)
  ·rw [h3,hF]
 subst hF2
 obtain⟨h0,_⟩|⟨_,hL⟩:=hL
 ·exact absurd rfl h0
 obtain⟨a1,a2,a3,a4,a5⟩:=hz
 have hl:L.length=c.ob.toNat:=by rw [hL];exact(mI _ _).1
 have hi:∀f∈F',f.src=c∧f.tgt=c∧IsoQ c c f.obs f.ars:=fun f hf=>(vM hc).1 (by rw [←hF];exact hf)
 refine⟨hc,h2,?_,hi,fun f hf g hg=>?_,fun f hf=>?_,by omega,fun j hj x hx=>?_⟩
 ·have:=aLx hc
  rw [←hF]at this
  exact List.length_pos_of_mem this
 ·obtain⟨f1,f2,f3⟩:=hi f hf
  obtain⟨g1,g2,g3⟩:=hi g hg
  rw [hF]
  obtain⟨s,t,O,Q⟩:=f
  obtain⟨u,v,P,R⟩:=g
  simp only at f1 f2 f3 g1 g2 g3
  subst f1;subst f2;subst g1;subst g2
  have hth:=aNZ (f:=⟨v,v,O,Q⟩) (g:=⟨v,v,P,R⟩) hc.toShape hc.toShape f3.fit g3.fit rfl
  exact(vM hc).2 ⟨rfl,rfl,⟨hc,hc,hth,(f3.bo.thn g3.bo).inj,(f3.bq.thn g3.bq).inj,rfl,rfl⟩⟩
 ·rw [hF]at hf⊢
  exact aLw hc hf
 ·rw [hL]
  exact aMN a4 a5 hj (by omega)
end Go.Eng
end
