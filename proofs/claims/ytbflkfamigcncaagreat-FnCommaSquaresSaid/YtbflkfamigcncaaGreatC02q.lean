/- Lists of categories and functors; functors, by the law's own functions. -/
import Derived.Test.YtbflkfamigcncaaGreatC01q
import Derived.Test.YtbflkfamigcncaaGreatKanx
set_option linter.unusedSimpArgs false
set_option linter.unusedVariables false
set_option maxRecDepth 100000
set_option maxHeartbeats 8000000
namespace Go.Eng
open Go Go.Proofs Go.Cats
def tU (f0:Cat) (l:List Cat):Dt:= .sl 1 (.pt (fP f0)) (l.map fun f=> .pt (fP f))
@[go_sem] theorem aM3 (f0 l):(tU f0 l).isSl=true:=rfl
@[go_sem] theorem aPS (f0 l):(tU f0 l).sz=1:=rfl
@[go_sem] theorem aPR (f0) (l:List Cat):(tU f0 l).nc=l.length:=by simp [tU,Dt.nc,Dt.cells]
@[go_sem] theorem aOD (f0) (l:List Cat):(tU f0 l).len=l.length:=by simp [tU,Dt.len,Dt.sz,Dt.nc,Dt.cells]
@[go_sem] theorem aPQ (f0) (l:List Cat) (k:Nat):(tU f0 l).at k= .pt (fP (l.getD k f0)):=by
 simp only [tU,Dt.at,Dt.cells,Dt.df,List.getD_eq_getElem?_getD,List.getElem?_map]
 cases l[k]? <;>simp
def tY (f0:Fun) (l:List Fun):Dt:= .sl 1 (.pt (cD f0)) (l.map fun f=> .pt (cD f))
@[go_sem] theorem aNm (f0 l):(tY f0 l).isSl=true:=rfl
@[go_sem] theorem aP4 (f0 l):(tY f0 l).sz=1:=rfl
@[go_sem] theorem aP3 (f0) (l:List Fun):(tY f0 l).nc=l.length:=by simp [tY,Dt.nc,Dt.cells]
@[go_sem] theorem aOH (f0) (l:List Fun):(tY f0 l).len=l.length:=by simp [tY,Dt.len,Dt.sz,Dt.nc,Dt.cells]
@[go_sem] theorem aP2 (f0) (l:List Fun) (k:Nat):(tY f0 l).at k= .pt (cD (l.getD k f0)):=by
 simp only [tY,Dt.at,Dt.cells,Dt.df,List.getD_eq_getElem?_getD,List.getElem?_map]
 cases l[k]? <;>simp
theorem two_all {A:Type} {a0 a b:A} {P:A→Prop}:(∀i,i<[a,b].length→P ([a,b].getD i a0))↔P a∧P b:=by
 constructor
 ·intro h;exact⟨h 0 (by simp),h 1 (by simp)⟩
 ·intro h i hi
  have:i=0∨i=1:=by simp at hi;omega
  rcases this with rfl|rfl
  ·exact h.1
  ·exact h.2
theorem tL:aF Tryz.prog 80:=⟨_,Tryz.func80,rfl,rfl⟩
theorem wU {f0:Cat} {l:List Cat} (hl:l.length≤1048576) (hb:∀i,i<l.length→CatB (l.getD i f0)):Spec Tryz.prog 80 [.bor [] (tU f0 l)] [] (bv (dec (∀i,i<l.length→IsCat (l.getD i f0)))) []:=by
 refine aD (E:=TE) 0 Tryz.func80 rfl (by simp [Tryz.f80]) fun X hn hX=>?_
 repeat'(first|refine wkQ ?_|refine Tw.f ?_ ?_|(refine fun(hc:(_:Bool)=_)=>?_;try simp only [hcS]at hc))
 all_goals try exact om_
 refine aH (G:={i:Nat//i≤l.length∧(∀j,j<i→IsCat (l.getD j f0))}) (fun⟨i,_⟩=>[(7,iv i)]) [5,6] (fun⟨i,_⟩=>[]) [] (fun zz=>l.length-zz.1) ⟨0,Nat.zero_le _,by omega⟩ ?_ ?_
 ·exact Imp.au hX
 rintro⟨i,hii,hwi⟩
 simp only [go_sem,simprocAttr]
 have h1:=hb i
 repeat'(first|refine wkQ ?_|refine Tw.f ?_ ?_|(refine kcQ gY ?_;refine krQ (iP ?_) ?_)|(refine fun(hc:(_:Bool)=_)=>?_;try simp only [hcS]at hc))
 all_goals try exact h1 (by omega)
 all_goals try exact om_
 ·(first|refine aB ?_|refine aA ?_);simp only [go_sem,simprocAttr,Tryz.f80]
  exact eD (fun s=>hc (s i (by omega)))
 ·refine⟨⟨i+1,by omega,(by exact bU hwi hc)⟩,by simp only;omega,Imp.ao hX⟩
 ·(first|refine aB ?_|refine aA ?_);simp only [go_sem,simprocAttr,Tryz.f80]
  exact xZ (fun j hj=>hwi j (by omega))
theorem pZ {f g:Cat} (hf:CatB f) (hg:CatB g):Spec Tryz.prog 80 [.bor [] (.sl 1 (.pt (fP f)) [.pt (fP f), .pt (fP g)])] [] (bv (dec (IsCat f∧IsCat g))) []:=by
 have:=wU (f0:=f) (l:=[f,g]) (by simp) (two_all.2 ⟨hf,hg⟩)
 rw [fL two_all]at this
 exact this
theorem iV:aF Tryz.prog 101:=⟨_,Tryz.func101,rfl,rfl⟩
theorem jS {f:Fun} (hb:FunB f):Spec Tryz.prog 101 [.bptr [] (cD f)] [] (bv (dec (IsFun f))) []:=by
 refine aD (E:=TE) 0 Tryz.func101 rfl (by simp [Tryz.f101]) fun X hn hX=>?_
 have hb1:=hb.src
 have hb2:=hb.tgt
 repeat'(first|refine wkQ ?_|refine Tw.f ?_ ?_|(refine kcQ tL ?_;refine ksQ (a:=pZ (by first|omega|assumption|rfl) (by first|omega|assumption|rfl)) (c:=?_))|(refine kcQ vO ?_;refine krQ (yJ ?_ ?_ ?_) ?_)|(refine fun(hc:(_:Bool)=_)=>?_;try simp only [hcS]at hc))
 all_goals try exact om_
 all_goals try exact hc.1
 all_goals try exact hc.2
 ·(first|refine aB ?_|refine aA ?_);simp only [go_sem,simprocAttr,Tryz.f101]
  exact congrArg bv (fL ⟨fun h=>⟨hc.1,hc.2,h⟩,fun h=>h.fits⟩)
 ·(first|refine aB ?_|refine aA ?_);simp only [go_sem,simprocAttr,Tryz.f101]
  exact eD fun h=>hc (And.intro h.src h.tgt)
theorem dW:aF Tryz.prog 93:=⟨_,Tryz.func93,rfl,rfl⟩
theorem aAG {f0:Fun} {l:List Fun} (hl:l.length≤1048576) (hb:∀i,i<l.length→FunB (l.getD i f0)):Spec Tryz.prog 93 [.bor [] (tY f0 l)] [] (bv (dec (∀i,i<l.length→IsFun (l.getD i f0)))) []:=by
 refine aD (E:=TE) 0 Tryz.func93 rfl (by simp [Tryz.f93]) fun X hn hX=>?_
 repeat'(first|refine wkQ ?_|refine Tw.f ?_ ?_|(refine fun(hc:(_:Bool)=_)=>?_;try simp only [hcS]at hc))
 all_goals try exact om_
 refine aH (G:={i:Nat//i≤l.length∧(∀j,j<i→IsFun (l.getD j f0))}) (fun⟨i,_⟩=>[(7,iv i)]) [5,6] (fun⟨i,_⟩=>[]) [] (fun zz=>l.length-zz.1) ⟨0,Nat.zero_le _,by omega⟩ ?_ ?_
 ·exact Imp.au hX
 rintro⟨i,hii,hwi⟩
 simp only [go_sem,simprocAttr]
 have h1:=hb i
 repeat'(first|refine wkQ ?_|refine Tw.f ?_ ?_|(refine kcQ iV ?_;refine krQ (jS ?_) ?_)|(refine fun(hc:(_:Bool)=_)=>?_;try simp only [hcS]at hc))
 all_goals try exact h1 (by omega)
 all_goals try exact om_
 ·(first|refine aB ?_|refine aA ?_);simp only [go_sem,simprocAttr,Tryz.f93]
  exact eD (fun s=>hc (s i (by omega)))
 ·refine⟨⟨i+1,by omega,(by exact bU hwi hc)⟩,by simp only;omega,Imp.ao hX⟩
 ·(first|refine aB ?_|refine aA ?_);simp only [go_sem,simprocAttr,Tryz.f93]
  exact xZ (fun j hj=>hwi j (by omega))
theorem cQ {f g:Fun} (hf:FunB f) (hg:FunB g):Spec Tryz.prog 93 [.bor [] (.sl 1 (.pt (cD f)) [.pt (cD f), .pt (cD g)])] [] (bv (dec (IsFun f∧IsFun g))) []:=by
 have:=aAG (f0:=f) (l:=[f,g]) (by simp) (two_all.2 ⟨hf,hg⟩)
 rw [fL two_all]at this
 exact this
theorem aFI {P Q:Prop} {k:Int} (h:k=if dec (P∧Q)=true then 0 else 1):Sv.v (.int .i64 k)=iv (if dec (P∧Q)then 0 else 1):=by rw [h]
theorem aQ0 {P Q:Prop} (hp:P) (hq:Q):(0:Int)=if dec (P∧Q)=true then 0 else 1:=by rw [dQ ⟨hp,hq⟩];rfl
theorem aMz {P Q:Prop} (h:¬(P∧Q)):(1:Int)=if dec (P∧Q)=true then 0 else 1:=by rw [kY h];rfl
theorem nQ:aF Tryz.prog 186:=⟨_,Tryz.func186,rfl,rfl⟩
theorem rD {f g:Fun} (hf:FunB f) (hg:FunB g):Spec Tryz.prog 186 [cK f,cK g] [] (iv (if dec (IsFun f∧IsFun g)then 0 else 1)) []:=by
 refine aD (E:=TE) 0 Tryz.func186 rfl (by simp [Tryz.f186]) fun X hn hX=>?_
 repeat'(first|refine wkQ ?_|refine Tw.f ?_ ?_|(refine kcQ aBK ?_;refine krQ (aEr (f:=f) ?_) ?_)|(refine kcQ aBK ?_;refine krQ (aEr (f:=g) ?_) ?_)|(refine fun(hc:(_:Bool)=_)=>?_;try simp only [hcS]at hc))
 all_goals try exact om_
 ·(first|refine aB ?_|refine aA ?_);simp only [go_sem,simprocAttr,Tryz.f186]
  exact aFI (aMz fun h=>hc h.2)
 ·(first|refine aB ?_|refine aA ?_);simp only [go_sem,simprocAttr,Tryz.f186]
  exact aFI (aQ0 (by assumption) hc)
 ·(first|refine aB ?_|refine aA ?_);simp only [go_sem,simprocAttr,Tryz.f186]
  exact aFI (aMz fun h=>hc h.1)
theorem _root_.Go.Cats.Fun.eq {f g:Fun} (h1:f.src=g.src) (h2:f.tgt=g.tgt) (h3:f.obs=g.obs) (h4:f.ars=g.ars):f=g:=by cases f;cases g;simp_all
def aMl (f:Fun):Nat:=aFZ f.src+aFZ f.tgt+f.obs.length+f.ars.length
structure FunL (f:Fun):Prop where
 src:CatL f.src
 tgt:CatL f.tgt
 obs:(f.obs.length:Int)≤9223372036854775807
 ars:(f.ars.length:Int)≤9223372036854775807
end Go.Eng
