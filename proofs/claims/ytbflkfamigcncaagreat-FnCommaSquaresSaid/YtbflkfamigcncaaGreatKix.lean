/- Several texts in one: C10, C04, C09, C08, C12, C13, C11, C05, C06. -/
import Derived.Test.YtbflkfamigcncaaGreatKex
import Derived.Test.YtbflkfamigcncaaGreatC01q
import Derived.Test.YtbflkfamigcncaaGreatG11q
set_option linter.unusedSimpArgs false
set_option linter.unusedVariables false
set_option maxRecDepth 100000
set_option maxHeartbeats 16000000
section
namespace Go.Eng
open Go Go.Proofs Go.Cats
@[go_sem] theorem aPK (l):(bys l).isSl=true:=rfl
@[go_sem] theorem aUB (l):(bys l).sz=1:=rfl
@[go_sem] theorem aUA (l:List Int):(bys l).nc=l.length:=by simp [bys,Dt.nc,Dt.cells]
@[go_sem] theorem aSu (l:List Int):(bys l).len=l.length:=by simp [bys,Dt.len,Dt.sz,Dt.nc,Dt.cells]
@[go_sem] theorem aPL (l:List Int):(bys l).ones=true:=by simp [bys,Dt.ones,Dt.cells,Dt.one,Value.oneCell']
@[go_sem] theorem aPJ (l:List Int):(bys l).flat=true:=by simp [bys,Dt.flat,Dt.cells,Dt.isV]
@[go_sem] theorem aSt (l m:List Int):Dt.app 1 (.v (.int .u8 0)) (bys l) (bys m)=bys (l++m):=by simp [bys,Dt.app,Dt.cells]
@[go_sem] theorem aSv:Dt.sl 1 (.v (.int .u8 0)) []=bys []:=rfl
@[go_sem] theorem aSw (n:Int):Dt.sl 1 (.v (.int .u8 0)) [.v (.int .u8 n)]=bys [n]:=rfl
def wB (ls:List (List Int)):List Int:=ls.flatMap fun l=>l++[255]
@[go_sem] theorem aQm:wB []=[]:=rfl
def aE9 (ls:List (List Int)):ByteArray:=strOfNums (wB ls)
theorem aB2 (ls:List (List Int)) (i:Nat) (h:i<ls.length):wB (ls.take (i+1))=wB (ls.take i)++ls.getD i []++[255]:=by
 unfold wB
 rw [List.take_succ_eq_append_getElem h,iI h,List.flatMap_append,List.flatMap_cons,List.flatMap_nil,List.append_nil,List.append_assoc]
theorem aLa (ls:List (List Int)) (i j:Nat) (h:j<(ls.getD i []).length):wB (ls.take i)++(ls.getD i []).take j++[(ls.getD i []).getD j 0]=wB (ls.take i)++(ls.getD i []).take (j+1):=by
 rw [List.take_succ_eq_append_getElem h,iI h,List.append_assoc]
theorem aIX (ls:List (List Int)) (i:Nat) (hb:∀i,i<ls.length→(ls.getD i []).length≤64):(wB (ls.take i)).length≤65*i:=by
 induction i with
 |zero=>simp [wB]
 |succ i ih=>
  by_cases h:i<ls.length
  ·rw [aB2 ls i h];have:=hb i h;simp only [List.length_append,List.length_cons,List.length_nil];omega
  ·rw [List.take_of_length_le (by omega)];rw [List.take_of_length_le (by omega)]at ih;omega
theorem ty_u8:(Tryz.prog.underlying 2).isSome=true∧Tryz.prog.underlying 5=some (.int .u8):=⟨by rw [Tryz.underlying2];rfl,Tryz.underlying5⟩
theorem aCG:aF Tryz.prog 136:=⟨_,Tryz.func136,rfl,rfl⟩
theorem aOg {ls:List (List Int)} (hl:ls.length≤64) (hb:∀i,i<ls.length→(ls.getD i []).length≤64) (hr:∀i j,i<ls.length→j<(ls.getD i []).length→0≤(ls.getD i []).getD j 0∧(ls.getD i []).getD j 0<256):Spec Tryz.prog 136 [.bor [] (aE ls)] [] (.v (.string (aE9 ls))) []:=by
 refine aD (E:=TE) 0 Tryz.func136 rfl (by simp [Tryz.f136]) fun X hn hX=>?_
 repeat'(first|(with_reducible first|refine St.f ?_|refine V_c ?_|refine And.intro ?_ ?_|refine aM ?_ ?_|refine aP ?_)|((refine aY ?_);intro K hK)|((with_reducible refine So.f ?_);intro K hK;simp(contextual:=true)only [go_sem,simprocAttr])|((with_reducible refine hK _ ?_);clear hK K)|(refine fun(hc:(_:Bool)=_)=>?_;try simp only [hcS]at hc))
 all_goals try exact om_
 refine aH (G:={i:Nat//i≤ls.length∧(True)}) (fun⟨i,_⟩=>[(11,iv i),(3, .sl 0)]) [2,9,10] (fun⟨i,_⟩=>[(0,⟨1, .arr (bys (wB (ls.take i)))⟩)]) [0] (fun zz=>ls.length-zz.1) ⟨0,Nat.zero_le _,by first|trivial|simp⟩ ?_ ?_
 ·exact Imp.au hX
 rintro⟨i,hii,hwi⟩
 simp only [go_sem,simprocAttr]
 have hli:=fun h:i<ls.length=>hb i h
 have hlk:=aIX ls i hb
 repeat'(first|(with_reducible first|refine St.f ?_|refine V_c ?_|refine And.intro ?_ ?_|refine aM ?_ ?_|refine aP ?_)|((refine aY ?_);intro K hK)|((with_reducible refine So.f ?_);intro K hK;simp(contextual:=true)only [go_sem,simprocAttr])|((with_reducible refine hK _ ?_);clear hK K)|(refine fun(hc:(_:Bool)=_)=>?_;try simp only [hcS]at hc))
 all_goals try exact om_
 ·refine aH (G:={j:Nat//j≤(ls.getD i []).length∧(True)}) (fun⟨j,_⟩=>[(17,iv j),(3, .sl 0)]) [2,9,10,11,15,16] (fun⟨j,_⟩=>[(0,⟨1, .arr (bys (wB (ls.take i)++(ls.getD i []).take j))⟩)]) [0] (fun zz=>(ls.getD i []).length-zz.1) ⟨0,Nat.zero_le _,by simp⟩ ?_ ?_
  ·exact Imp.au hX
  rintro⟨j,hij,hwj⟩
  simp only [go_sem,simprocAttr]
  have hrj:=fun h:j<(ls.getD i []).length=>hr i j (by omega) h
  repeat'(first|(refine aK6 ty_u8.1 ty_u8.2 (by simp only [go_sem,simprocAttr];rfl) ?_ ?_ ?_;all_goals try simp only [go_sem,simprocAttr])|(with_reducible first|refine St.f ?_|refine V_c ?_|refine And.intro ?_ ?_|refine aM ?_ ?_|refine aP ?_)|((refine aY ?_);intro K hK)|((with_reducible refine So.f ?_);intro K hK;simp(contextual:=true)only [go_sem,simprocAttr])|((with_reducible refine hK _ ?_);clear hK K)|(refine fun(hc:(_:Bool)=_)=>?_;try simp only [hcS]at hc))
  all_goals try exact om_
  ·have e1:=aLa ls i j (by omega)
   refine⟨⟨j+1,by omega,(by trivial)⟩,by simp only;omega,Imp.auto hX (by simp only [go_sem,simprocAttr,e1])⟩
  ·have e1:=aB2 ls i (by omega)
   have e:j=(ls.getD i []).length:=by omega
   subst e
   refine⟨⟨i+1,by omega,(by trivial)⟩,by simp only;omega,Imp.auto hX (by simp only [go_sem,simprocAttr,e1,List.take_length])⟩
 ·have e:i=ls.length:=by omega
  subst e
  repeat'(first|(refine aIK Tryz.underlying22 Tryz.underlying5 Tryz.underlying9 (by simp only [go_sem,simprocAttr];rfl) (by simp only [go_sem,simprocAttr];rfl) ?_;all_goals try simp only [go_sem,simprocAttr])|(with_reducible first|refine St.f ?_|refine V_c ?_|refine And.intro ?_ ?_|refine aM ?_ ?_|refine aP ?_)|((refine aY ?_);intro K hK)|((with_reducible refine So.f ?_);intro K hK;simp(contextual:=true)only [go_sem,simprocAttr])|((with_reducible refine hK _ ?_);clear hK K)|(refine fun(hc:(_:Bool)=_)=>?_;try simp only [hcS]at hc))
  (first|refine aB ?_|refine aA ?_);simp only [go_sem,simprocAttr,Tryz.f136]
  rw [List.take_length];rfl
end Go.Eng
end
section
namespace Go.Eng
open Go Go.Proofs Go.Cats
attribute [go_sem] aFY mV aZ
theorem iZ:aF Tryz.prog 149:=⟨_,Tryz.func149,rfl,rfl⟩
theorem kC {f e:Fun} (hf:IsFun f) (he:IsFun e):Spec Tryz.prog 149 [.bptr [] (cD f), .bptr [] (cD e)] [] (.sl 0) [(0,⟨1, .arr (aE (aK f e))⟩)]:=by
 refine aD (E:=TE) 0 Tryz.func149 rfl (by simp [Tryz.f149]) fun X hn hX=>?_
 have f1:=hf.fits.obl
 have g1:=he.fits.obl
 have f2:=hf.src.ob8
 have g2:=he.src.ob8
 have f3:=hf.tgt.m40
 have f4:=hf.tgt.tol
 have hl:=fun a b k=>aIm f e a b k 40 f3
 have hx:∀a b:Nat,a≤8→b≤8→a*(e.obs.length*40)+b*40+40≤3000:=fun a b ha hb=>by
  have:=Nat.mul_le_mul ha (Nat.mul_le_mul_right 40 (show e.obs.length≤8 by omega));omega
 repeat'(first|refine wkQ ?_|refine Tw.f ?_ ?_|(refine fun(hc:(_:Bool)=_)=>?_;try simp only [hcS]at hc))
 all_goals try exact om_
 refine aH (G:={a:Nat//a≤f.obs.length∧(True)}) (fun⟨a,_⟩=>[(18,iv a),(5, .sl 0)]) [0,1,4,16,17] (fun⟨a,_⟩=>[(0,⟨1, .arr (aE (cO f e a 0 0))⟩)]) [0] (fun zz=>f.obs.length-zz.1) ⟨0,Nat.zero_le _,by first|trivial|simp⟩ ?_ ?_
 ·exact Imp.au hX
 rintro⟨a,hia,hwa⟩
 simp only [go_sem,simprocAttr]
 repeat'(first|refine wkQ ?_|refine Tw.f ?_ ?_|(refine fun(hc:(_:Bool)=_)=>?_;try simp only [hcS]at hc))
 all_goals try exact om_
 ·refine aH (G:={b:Nat//b≤e.obs.length∧(True)}) (fun⟨b,_⟩=>[(28,iv b),(5, .sl 0)]) [0,1,4,6,7,16,17,18,26,27] (fun⟨b,_⟩=>[(0,⟨1, .arr (aE (cO f e a b 0))⟩)]) [0] (fun zz=>e.obs.length-zz.1) ⟨0,Nat.zero_le _,by first|trivial|simp⟩ ?_ ?_
  ·exact Imp.au hX
  rintro⟨b,hib,hwb⟩
  simp only [go_sem,simprocAttr]
  have hh:=aCD f e a b
  have hu:(f.tgt.hom (f.obs.getD a 0) (e.obs.getD b 0)).length=(cH f e a b).length:=rfl
  repeat'(first|refine wkQ ?_|refine Tw.f ?_ ?_|(refine kcQ cP ?_;refine krQ (dE ?_ ?_) ?_)|(refine fun(hc:(_:Bool)=_)=>?_;try simp only [hcS]at hc))
  all_goals try exact om_
  ·refine aH (G:={k:Nat//k≤(cH f e a b).length∧(True)}) (fun⟨k,_⟩=>[(40,iv k),(5, .sl 0)]) [0,1,4,6,7,8,16,17,18,26,27,28,38,39] (fun⟨k,_⟩=>[(0,⟨1, .arr (aE (cO f e a b k))⟩)]) [0] (fun zz=>(cH f e a b).length-zz.1) ⟨0,Nat.zero_le _,by first|trivial|simp⟩ ?_ ?_
   ·exact Imp.au hX
   rintro⟨k,hik,hwk⟩
   simp only [go_sem,simprocAttr]
   have h1:=hl a b k
   have h2:=hx a b (by omega) (by omega)
   repeat'(first|refine wkQ ?_|refine Tw.f ?_ ?_|(refine fun(hc:(_:Bool)=_)=>?_;try simp only [hcS]at hc))
   all_goals try exact om_
   ·refine⟨⟨k+1,by omega,(by trivial)⟩,by simp only;omega,Imp.auto hX (by simp only [go_sem,simprocAttr,aPO (show k<(cH f e a b).length by omega),cH])⟩
   ·refine⟨⟨b+1,by omega,(by trivial)⟩,by simp only;omega,Imp.auto hX (by simp only [go_sem,simprocAttr,aPN (show(cH f e a b).length≤k by omega)])⟩
  ·refine⟨⟨a+1,by omega,(by trivial)⟩,by simp only;omega,Imp.auto hX (by simp only [go_sem,simprocAttr,aPM,show b=e.obs.length by omega])⟩
 ·(first|refine aB ?_|refine aA ?_);simp only [go_sem,simprocAttr,Tryz.f149]
  rw [aK,show f.obs.length=a by omega]
end Go.Eng
end
section
namespace Go.Eng
open Go Go.Proofs Go.Cats
abbrev cmK (f e:Fun) (h:Value) (d:Dt):Rk:= .bx [.bptr [] (cD f), .bptr [] (cD e), .v h, .dead] 3 d
abbrev cmL (f e:Fun) (h:Value) (s t:Nat) (p q:List Int) (A:List (List Int)):List (Nat×Rs):=
 [(3,⟨1,cmK f e h (aE A)⟩),(8,⟨1, .box [.ptr 3 0]⟩),(9,⟨1, .box [.bor [] (ints p)]⟩),(10,⟨1, .box [.bor [] (ints q)]⟩),(7,⟨1, .box [iv t]⟩),(4,⟨1, .box [.ptr 3 0]⟩),(0,⟨1, .box [.v (.pointer none)]⟩),(1,⟨1, .box [.v (.bool false)]⟩),(6,⟨1, .box [iv s]⟩)]
abbrev cmI:List Nat:=[3,8,9,10,7,4,0,1,6]
noncomputable def TEp (ids:List Nat) (B:Nat→Nat×Value):Env:={P:=Tryz.prog,ti:=aJ,ok:=tok,hk:=aNK ids B}
@[go_sem] theorem aUy (ids:List Nat) (B:Nat→Nat×Value) (t:TypeId):(TEp ids B).ti t=aJ t:=rfl
@[go_sem] theorem aWt (ids:List Nat) (B:Nat→Nat×Value):(TEp ids B).P=Tryz.prog:=rfl
attribute [local go_sem] cmK cmL
theorem nD {f e:Fun} {O:List (List Int)} {s t:Nat} {h:Value} {l:Nat} {rec:Loop} {B:Nat→Nat×Value} (hf:IsFun f) (he:IsFun e) (hT:f.tgt=e.tgt) (hO:tG f e O) (hs:s<O.length) (ht:t<O.length)
  (hR:∀i j,i<(cU f 0 O s t).length→j<(cU e 1 O s t).length→cC f e O s t ((cU f 0 O s t).getD i 0) ((cU e 1 O s t).getD j 0)→
   tI Tryz.prog l [iv ((cU f 0 O s t).getD i 0),iv ((cU e 1 O s t).getD j 0)] ((11,⟨1, .ab (aU l rec)⟩)::cmL f e h s t (O.getD s []) (O.getD t []) (cA f e O s t i j)) (.v (.bool true))
    ((11,⟨1, .ab (aU l rec)⟩)::cmL f e h s t (O.getD s []) (O.getD t []) (cA f e O s t i j++[[(s:Int),(t:Int),(cU f 0 O s t).getD i 0,(cU e 1 O s t).getD j 0]])) (yE cmI B)):
  SpecH Tryz.prog 210 [.v (.func (.yield l) #[] #[]), .ptr 8 0, .ptr 9 0, .ptr 10 0] ((11,⟨1, .ab (aU l rec)⟩)::cmL f e h s t (O.getD s []) (O.getD t []) (cA f e O s t 0 0)) (.tup [])
   ((11,⟨1, .ab (aU l rec)⟩)::cmL f e h s t (O.getD s []) (O.getD t []) (cA f e O s (t+1) 0 0)) (yE cmI B):=by
 refine SpecH.pin (tD (E:=TEp cmI B) 12 Tryz.func210 rfl (by simp [Tryz.f210]) fun X hn hX=>?_) (by simp [go_sem])
 have o1:=hO s hs
 have o2:=hO t ht
 have f2:=hf.src.m40
 have g2:=he.src.m40
 have f3:=hf.src.tol
 have g3:=he.src.tol
 have l1:=o1.len
 have l2:=o2.len
 repeat'(first|(with_reducible first|refine St.f ?_|refine V_c ?_|refine eDn ?_|refine And.intro ?_ ?_|refine aM ?_ ?_|refine aP ?_)|((refine aY ?_);intro K hK)|((with_reducible refine So.f ?_);intro K hK;simp(contextual:=true)only [go_sem,simprocAttr])|((with_reducible refine hK _ ?_);clear hK K)|((with_reducible refine aC 131 ?_);refine EvCall.rr (dE (c:=f.src) ?_ ?_) cP ?_)|((with_reducible refine aC 131 ?_);refine EvCall.rr (dE (c:=e.src) ?_ ?_) cP ?_)|(refine fun(hc:(_:Bool)=_)=>?_;try simp only [hcS]at hc))
 all_goals try exact om_
 have u1:=pA f 0 O s t
 have v1:=pA e 1 O s t
 have u2:(f.src.hom ((O.getD s []).getD 0 0) ((O.getD t []).getD 0 0)).length=(cU f 0 O s t).length:=rfl
 have v2:(e.src.hom ((O.getD s []).getD 1 0) ((O.getD t []).getD 1 0)).length=(cU e 1 O s t).length:=rfl
 refine aH (G:={i:Nat//i≤(cU f 0 O s t).length∧(True)}) (fun⟨i,_⟩=>[(30,iv i)]) [0,1,2,3,5,28,29] (fun⟨i,_⟩=>[(11,⟨1, .ab (aU l rec)⟩),(3,⟨1,cmK f e h (aE (cA f e O s t i 0))⟩),(8,⟨1, .box [.ptr 3 0]⟩),(9,⟨1, .box [.bor [] (ints (O.getD s []))]⟩),(10,⟨1, .box [.bor [] (ints (O.getD t []))]⟩),(7,⟨1, .box [iv t]⟩),(4,⟨1, .box [.ptr 3 0]⟩),(0,⟨1, .box [.v (.pointer none)]⟩),(1,⟨1, .box [.v (.bool false)]⟩),(6,⟨1, .box [iv s]⟩)]) [0,1,3,4,6,7,8,9,10,11] (fun zz=>(cU f 0 O s t).length-zz.1) ⟨0,Nat.zero_le _,by first|trivial|simp⟩ ?_ ?_
 ·exact Imp.au hX
 rintro⟨i,hii,hwi⟩
 simp only [go_sem,simprocAttr]
 repeat'(first|(with_reducible first|refine St.f ?_|refine V_c ?_|refine eDn ?_|refine And.intro ?_ ?_|refine aM ?_ ?_|refine aP ?_)|((refine aY ?_);intro K hK)|((with_reducible refine So.f ?_);intro K hK;simp(contextual:=true)only [go_sem,simprocAttr])|((with_reducible refine hK _ ?_);clear hK K)|((with_reducible refine aC 131 ?_);refine EvCall.rr (dE (c:=e.src) ?_ ?_) cP ?_)|(refine fun(hc:(_:Bool)=_)=>?_;try simp only [hcS]at hc))
 all_goals try exact om_
 ·refine aH (G:={j:Nat//j≤(cU e 1 O s t).length∧(True)}) (fun⟨j,_⟩=>[(48,iv j)]) [0,1,2,3,5,7,28,29,30,46,47] (fun⟨j,_⟩=>[(11,⟨1, .ab (aU l rec)⟩),(3,⟨1,cmK f e h (aE (cA f e O s t i j))⟩),(8,⟨1, .box [.ptr 3 0]⟩),(9,⟨1, .box [.bor [] (ints (O.getD s []))]⟩),(10,⟨1, .box [.bor [] (ints (O.getD t []))]⟩),(7,⟨1, .box [iv t]⟩),(4,⟨1, .box [.ptr 3 0]⟩),(0,⟨1, .box [.v (.pointer none)]⟩),(1,⟨1, .box [.v (.bool false)]⟩),(6,⟨1, .box [iv s]⟩)]) [0,1,3,4,6,7,8,9,10,11] (fun zz=>(cU e 1 O s t).length-zz.1) ⟨0,Nat.zero_le _,by first|trivial|simp⟩ ?_ ?_
  ·exact Imp.au hX
  rintro⟨j,hij,hwj⟩
  simp only [go_sem,simprocAttr]
  have q3:=o1.ao
  have q4:=o1.ah
  have q5:=o2.ao
  have q6:=o2.ah
  have w1:0≤(f.src.hom ((O.getD s []).getD 0 0) ((O.getD t []).getD 0 0)).getD i 0∧(f.src.hom ((O.getD s []).getD 0 0) ((O.getD t []).getD 0 0)).getD i 0<f.src.fr.length:=by
   have:=aBJ (f:=f) (k:=0) (O:=O) (s:=s) (t:=t) (i:=i) (by omega)
   exact⟨this.1,this.2.1⟩
  have w2:j<(e.src.hom ((O.getD s []).getD 1 0) ((O.getD t []).getD 1 0)).length→0≤(e.src.hom ((O.getD s []).getD 1 0) ((O.getD t []).getD 1 0)).getD j 0∧(e.src.hom ((O.getD s []).getD 1 0) ((O.getD t []).getD 1 0)).getD j 0<e.src.fr.length:=fun h=>by
   have:=aBJ (f:=e) (k:=1) (O:=O) (s:=s) (t:=t) (i:=j) h
   exact⟨this.1,this.2.1⟩
  have f4:=hf.fits.arl
  have g4:=he.fits.arl
  have f5:=hf.fits.arw
  have g5:=he.fits.arw
  rw [←hT]at g5
  have f6:=hf.tgt.toShape.col
  have f7:=fun x h1 h2=>hf.tgt.toShape.comp_row (f:=x) h1 h2
  have w3:=f5 ((f.src.hom ((O.getD s []).getD 0 0) ((O.getD t []).getD 0 0)).getD i 0).toNat (by omega)
  have w4:=fun h=>g5 ((e.src.hom ((O.getD s []).getD 1 0) ((O.getD t []).getD 1 0)).getD j 0).toNat (by have:=w2 h;omega)
  have w5:=f7 _ w3.1 w3.2
  have w6:=f7 _ q3 q4
  repeat'(first|(with_reducible first|refine St.f ?_|refine V_c ?_|refine eDn ?_|refine And.intro ?_ ?_|refine aM ?_ ?_|refine aP ?_)|((refine aY ?_);intro K hK)|((with_reducible refine So.f ?_);intro K hK;simp(contextual:=true)only [go_sem,simprocAttr])|((with_reducible refine hK _ ?_);clear hK K)|((with_reducible refine aC 139 ?_);refine EvCall.rr (bJ (c:=f.tgt) ?_ ?_ ?_ ?_) bG ?_)|(refine EvYield.mk (hR i j (by omega) (by omega) hc) [(11,11),(3,3),(8,8),(9,9),(10,10),(7,7),(4,4),(0,0),(1,1),(6,6)] [] (by simp [go_sem,simprocAttr]) (by simp [go_sem,simprocAttr,cU]) (wE (by simp [go_sem,simprocAttr]) (by simp [go_sem,simprocAttr])) ?_;simp only [go_sem,simprocAttr])|(refine fun(hc:(_:Bool)=_)=>?_;try simp only [hcS]at hc))
  all_goals try exact om_
  ·refine⟨⟨j+1,by omega,(by trivial)⟩,by simp only;omega,Imp.auto hX (by simp only [go_sem,simprocAttr,aGV (f:=f) (e:=e) (O:=O) (s:=s) (t:=t) (i:=i) (j:=j) hc])⟩
  ·refine⟨⟨j+1,by omega,(by trivial)⟩,by simp only;omega,Imp.auto hX (by simp only [go_sem,simprocAttr,aGU (f:=f) (e:=e) (O:=O) (s:=s) (t:=t) (i:=i) (j:=j) hc])⟩
  ·refine⟨⟨i+1,by omega,(by trivial)⟩,by simp only;omega,Imp.auto hX (by simp only [go_sem,simprocAttr,aES (f:=f) (e:=e) (O:=O) (s:=s) (t:=t) (i:=i) (show j=(cU e 1 O s t).length by omega)])⟩
 ·rw [aFW (f:=f) (e:=e) (O:=O) (s:=s) (t:=t) (show i=(cU f 0 O s t).length by omega)]
  (first|refine aB ?_|refine aA ?_);simp only [go_sem,simprocAttr,Tryz.f210]
end Go.Eng
end
section
namespace Go.Eng
open Go Go.Proofs Go.Cats
theorem oI:aF Tryz.prog 150:=⟨_,Tryz.func150,rfl,rfl⟩
theorem qA {f e:Fun} {p q:List Int} {h:Value} {d:Dt}:Spec Tryz.prog 150 [.ptr 0 0, .bor [] (ints p), .bor [] (ints q)] [(0,⟨1,cmK f e h d⟩)] (.fn 210 [.ptr 1 0, .ptr 2 0, .ptr 3 0]) [(0,⟨1,cmK f e h d⟩),(1,⟨1, .box [.ptr 0 0]⟩),(2,⟨1, .box [.bor [] (ints p)]⟩),(3,⟨1, .box [.bor [] (ints q)]⟩)]:=by
 refine aD (E:=TE) 1 Tryz.func150 rfl (by simp [Tryz.f150]) fun X hn hX=>?_
 repeat'(first|refine wkQ ?_|refine Tw.f ?_ ?_|(refine fun(hc:(_:Bool)=_)=>?_;try simp only [hcS]at hc))
 all_goals try exact om_
 (first|refine aB ?_|refine aA ?_);simp only [go_sem,simprocAttr,Tryz.f150]
attribute [local go_sem] yU cmK
@[go_sem] theorem gS:(Value.slice none 0 0).oneCell'=true:=rfl
@[go_sem] theorem gT:(Value.pointer none).oneCell'=true:=rfl
theorem vS {rs:Nat→Rs} {L0:List (Nat×Rs)} {ML:List (Nat×Nat)} {V:List Nat} (h:sK rs V L0 ML V):CallOk rs L0 ML V:=by
 obtain⟨a1,a2,a3,a4,a5⟩:=h
 exact⟨a1,a2,fun i hi=>(kG a4 i hi).1,fun i hi=>(kG a4 i hi).2.1,fun k=>(nT a3 k).1,fun k=>(nT a3 k).2,yW a5⟩
attribute [local go_sem] cmL rI cmI
theorem iF:aF Tryz.prog 210:=⟨_,Tryz.func210,rfl,rfl⟩
theorem xE:aF Tryz.prog 77:=⟨_,Tryz.func77,rfl,rfl⟩
theorem aBs {f e:Fun} (hf:IsFun f) (he:IsFun e) (hT:f.tgt=e.tgt) (hO:(aK f e).length≤8) (hA:(kF f e (aK f e)).length≤40):Spec Tryz.prog 77 [.bptr [] (cD f), .bptr [] (cD e)] [] (.tup [.ptr 0 0, .v (.bool true)]) [(0,⟨1, .box [.bptr [(1,1)] (cD f), .bptr [(1,1)] (cD e), .sl 1, .sl 2]⟩),(1,⟨1, .arr (aE (aK f e))⟩),(2,⟨1, .arr (aE (kF f e (aK f e)))⟩)]:=by
 refine aA0 (E:=TE) 0 Tryz.func77 rfl (by simp [Tryz.f77]) fun X hn hX hrd=>?_
 repeat'(first|refine wkQ ?_|refine Tw.f ?_ ?_|(refine kcQ iZ ?_;refine krQ (kC ?_ ?_) ?_)|(refine fun(hc:(_:Bool)=_)=>?_;try simp only [hcS]at hc))
 all_goals try exact om_
 refine aL3 2 (fun _ _=>trivial) (by simp [go_sem]) fun Y hYn hYr hY=>?_
 refine gJ (Imp.adoptB 3 3 1 (ints []) _ (by decide) rfl rfl rfl (by rw [hY,hX];rfl)) ?_
 refine gJ (Imp.closeB 3 5 3 _ _ rfl rfl rfl (by decide)) ?_
 have hX':Y.rs0=rsL [(2,⟨1, .gone⟩)]:=by rw [hY,hX];rfl
 have hX0:=hX
 clear hX
 have hn':Y.n=_:=hYn.trans hn
 have hn0:=hn
 have hYd:=hYr
 clear hn hYn hYr hY
 have hX:=hX'
 refine gJ (Imp.cellXT 3 0 3 2 _ _ _ rfl (by simp [go_sem]) rfl (by rw [hX];exact Nat.le_refl 1)) ?_
 refine gJ (Imp.cellXT 3 1 3 2 _ _ _ rfl (by simp [go_sem]) rfl (by rw [hX];exact Nat.le_refl 1)) ?_
 simp only [List.set_cons_succ,List.set_cons_zero]
 have hn:=hn'
 clear hX' hn'
 refine aH (G:={s:Nat//s≤(aK f e).length∧(True)}) (fun⟨s,_⟩=>[(31,iv s)]) [4,5,6,29,30] (fun⟨s,_⟩=>[(3,⟨1, .bx [.bptr [(2,1)] (cD f), .bptr [(2,1)] (cD e), .sl 2, .dead] 3 (aE (cA f e (aK f e) s 0 0 0))⟩),(2,⟨1, .arr (aE (aK f e))⟩),(4,⟨1, .box [.ptr 3 0]⟩),(0,⟨1, .box [.v (.pointer none)]⟩),(1,⟨1, .box [.v (.bool false)]⟩)]) [0,1,2,3,4] (fun zz=>(aK f e).length-zz.1) ⟨0,Nat.zero_le _,by first|trivial|simp⟩ ?_ ?_
 ·exact Imp.au hX
 rintro⟨s,his,hws⟩
 simp only [go_sem,simprocAttr]
 have ok:=fG hf he hT
 repeat'(first|refine wkQ ?_|refine Tw.f ?_ ?_|(refine fun(hc:(_:Bool)=_)=>?_;try simp only [hcS]at hc))
 all_goals try exact om_
 ·refine aH (G:={t:Nat//t≤(aK f e).length∧(True)}) (fun⟨t,_⟩=>[(41,iv t),(8, .bor [(2,1)] (ints ((aK f e).getD s [])))]) [4,5,6,7,29,30,31,39,40] (fun⟨t,_⟩=>[(3,⟨1, .bx [.bptr [(2,1)] (cD f), .bptr [(2,1)] (cD e), .sl 2, .dead] 3 (aE (cA f e (aK f e) s t 0 0))⟩),(2,⟨1, .arr (aE (aK f e))⟩),(4,⟨1, .box [.ptr 3 0]⟩),(0,⟨1, .box [.v (.pointer none)]⟩),(1,⟨1, .box [.v (.bool false)]⟩),(6,⟨1, .box [iv s]⟩)]) [0,1,2,3,4,6] (fun zz=>(aK f e).length-zz.1) ⟨0,Nat.zero_le _,by first|trivial|simp⟩ ?_ ?_
  ·exact Imp.au hX
  rintro⟨t,hit,hwt⟩
  simp only [go_sem,simprocAttr]
  repeat'(first|(refine fD 10 (Imp.cellXV 3 2 3 2 _ _ rfl (Nat.le_refl 1) rfl (by rw [hX];exact Nat.le_refl 1)) ?_;simp only [List.set_cons_succ,List.set_cons_zero])|(with_reducible first|refine St.f ?_|refine V_c ?_|refine eDn ?_|refine And.intro ?_ ?_|refine aM ?_ ?_|refine aP ?_)|((refine aY ?_);intro K hK)|((with_reducible refine So.f ?_);intro K hK;simp(contextual:=true)only [go_sem,simprocAttr])|((with_reducible refine hK _ ?_);clear hK K)|((with_reducible refine aC 150 ?_);refine EvCall.mr (qA (f:=f) (e:=e) (p:=(aK f e).getD s []) (q:=(aK f e).getD t []) (h:=(Y.c0 2).hdr) (d:=aE (cA f e (aK f e) s t 0 0))) oI [(0,3),(1,8),(2,9),(3,10)] [2] ?_)|(refine fun(hc:(_:Bool)=_)=>?_;try simp only [hcS]at hc))
  all_goals try exact om_
  ·refine oW (f:=210) (es:=[.ptr 8 0, .ptr 9 0, .ptr 10 0]) (r:= .tup []) (L0:=cmL f e (Y.c0 2).hdr s t ((aK f e).getD s []) ((aK f e).getD t []) (cA f e (aK f e) s t 0 0)) (L1:=cmL f e (Y.c0 2).hdr s t ((aK f e).getD s []) ((aK f e).getD t []) (cA f e (aK f e) s (t+1) 0 0)) false cmI [2] [(9, .ptr 7 0),(7, .ptr 6 0),(6, .ptr 4 0),(5, .ptr 1 0),(4, .ptr 0 0)] (hYd.trans hrd) rfl iF rfl (by simp [qM,lk]) (show(11:Nat)∉cmI by decide) (by rw [hX];rfl) ?_ ?_ (by simp [go_sem]) ?_ ?_
   ·intro l rec B h1 h2 h3 h4 h5 h6 h7
    have er:bI rec false=rec:=by cases rec;simp_all [bI]
    rw [er]
    refine nD hf he hT ok (by omega) (by omega) fun i j hi hj hcc=>?_
    have hlen:(cA f e (aK f e) s t i j).length<40:=by
     have k1:=aFV (f:=f) (e:=e) (O:=aK f e) (s:=s) (t:=t) (i:=i) (j:=j+1) hi (by omega)
     have k2:=aMW (f:=f) (e:=e) (O:=aK f e) (s:=s) (t:=t) (by omega) (by omega)
     rw [aGV hcc,List.length_append]at k1
     simp only [List.length_cons,List.length_nil]at k1
     omega
    have hcv:∀i∈cmI,1≤(rsL ((11,⟨1, .ab (aU l rec)⟩)::cmL f e (Y.c0 2).hdr s t ((aK f e).getD s []) ((aK f e).getD t []) (cA f e (aK f e) s t i j)) i).cv:=by simp [go_sem,simprocAttr]
    refine mB (E:=TE) (n:=Tryz.f77.ntmps) (m:=11) (cv:=1) (tm0:=[(9, .ptr 7 0),(7, .ptr 6 0),(6, .ptr 4 0),(5, .ptr 1 0),(4, .ptr 0 0)]) false 12 h3 h4 h5 h1 rfl (Nat.le_refl 1) (h6.trans hn) rfl (by simp [Tryz.f77]) (fun w S c0 hH=>h7 w S c0 _ hH (by simp [go_sem,simprocAttr])) (fun _ _=>trivial) fun Z bz hbz hZn hZ hZr=>?_
    have hn:=hZn
    have hX:=hZ
    simp only [go_sem,simprocAttr,uK]
    repeat'(first|refine wkQ ?_|refine Tw.f ?_ ?_|(refine fun(hc:(_:Bool)=_)=>?_;try simp only [hcS]at hc))
    refine⟨1,rfl,Nat.le_refl 1,aFR ?_⟩
    repeat'(first|(refine fD 13 (Imp.openB 3 3 _ _ rfl (Nat.le_refl 1) rfl rfl) ?_;simp only [List.set_cons_succ,List.set_cons_zero])|(with_reducible first|refine St.f ?_|refine V_c ?_|refine eDn ?_|refine And.intro ?_ ?_|refine aM ?_ ?_|refine aP ?_)|((refine aY ?_);intro K hK)|((with_reducible refine So.f ?_);intro K hK;simp(contextual:=true)only [go_sem,simprocAttr])|((with_reducible refine hK _ ?_);clear hK K)|(refine fun(hc:(_:Bool)=_)=>?_;try simp only [hcS]at hc))
    all_goals try exact om_
    refine⟨_,Imp.closeB 3 15 3 _ _ rfl rfl rfl (by decide),?_⟩
    refine aJP 2 (by rw [←hbz];rfl) (by decide) ?_
    rw [er]
    simp [go_sem,simprocAttr]
   ·exact fun l rec=>vS (by simp [go_sem,simprocAttr])
   ·exact fun l rec=>by simp [go_sem,simprocAttr]
   ·intro l rec
    simp only [go_sem,simprocAttr,Bool.false_eq_true]
    repeat'(first|(refine fD 16 (Imp.cellXS 3 2 3 2 _ _ rfl (by simp [go_sem,simprocAttr]) rfl (by rw [hX];exact Nat.le_refl 1)) ?_;simp only [List.set_cons_succ,List.set_cons_zero])|(with_reducible first|refine St.f ?_|refine V_c ?_|refine eDn ?_|refine And.intro ?_ ?_|refine aM ?_ ?_|refine aP ?_)|((refine aY ?_);intro K hK)|((with_reducible refine So.f ?_);intro K hK;simp(contextual:=true)only [go_sem,simprocAttr])|((with_reducible refine hK _ ?_);clear hK K)|(refine fun(hc:(_:Bool)=_)=>?_;try simp only [hcS]at hc))
    all_goals try exact om_
    refine⟨⟨t+1,by omega,(by trivial)⟩,by simp only;omega,Imp.ao hX⟩
  ·refine⟨⟨s+1,by omega,(by trivial)⟩,by simp only;omega,Imp.auto hX (by simp only [go_sem,simprocAttr,aIk (f:=f) (e:=e) (O:=aK f e) (s:=s) (show t=(aK f e).length by omega)])⟩
 ·have es:s=(aK f e).length:=by omega
  subst es
  clear hX hn
  have hX:=hX0
  have hn:=hn0
  refine fD 18 (Imp.openB 3 3 _ _ rfl (Nat.le_refl 1) rfl rfl) ?_
  simp only [List.set_cons_succ,List.set_cons_zero]
  repeat'(first|refine wkQ ?_|refine Tw.f ?_ ?_|(refine fun(hc:(_:Bool)=_)=>?_;try simp only [hcS]at hc))
  all_goals try exact om_
  (first|refine aB ?_|refine aA ?_);simp only [go_sem,simprocAttr,Tryz.f77]
  rw [kF]
end Go.Eng
end
section
namespace Go.Eng
open Go Go.Proofs Go.Cats
theorem _root_.Go.Cats.coll_split {α:Type} {n i:Nat} {f:Nat→List α} (h:i<n):∃r,gK n f=gK i f++f i++r:=by
 induction n with
 |zero=>omega
 |succ n ih=>
  rw [dX]
  by_cases e:i=n
  ·subst e;exact⟨[],by simp⟩
  ·obtain⟨r,hr⟩:=ih (by omega)
   exact⟨r++f n,by rw [hr];simp⟩
theorem _root_.Go.Cats.cA_take {f e:Fun} {O:List (List Int)} {s t i j:Nat} (hi:i<(cU f 0 O s t).length) (hj:j<(cU e 1 O s t).length) (h:(cA f e O s t i j).length=40):(cA f e O s (t+1) 0 0).take 40=cA f e O s t i j:=by
 obtain⟨r,hr⟩:=coll_split (f:=fun i=>yA f e O s t i) hi
 obtain⟨r2,hr2⟩:=coll_split (f:=fun j=>cE f e O s t i j) hj
 have:cA f e O s (t+1) 0 0=cA f e O s t i j++(cE f e O s t i j++r2++r):=by
  have e1:yA f e O s t i=gK j (fun j=>cE f e O s t i j)++cE f e O s t i j++r2:=hr2
  unfold cA
  rw [dX,mS,hr,e1]
  simp [bV]
 rw [this,←h,List.take_left']
 rfl
attribute [local go_sem] cmK cmL
theorem oR {f e:Fun} {O:List (List Int)} {s t:Nat} {h:Value} {l:Nat} {rec:Loop} {B:Nat→Nat×Value} (hf:IsFun f) (he:IsFun e) (hT:f.tgt=e.tgt) (hO:tG f e O) (hs:s<O.length) (ht:t<O.length)
  (hA0:(cA f e O s t 0 0).length≤40) (hA1:40<(cA f e O s (t+1) 0 0).length)
  (hS:∀i j,i<(cU f 0 O s t).length→j<(cU e 1 O s t).length→(cA f e O s t i j).length=40→
   tI Tryz.prog l [iv ((cU f 0 O s t).getD i 0),iv ((cU e 1 O s t).getD j 0)] ((11,⟨1, .ab (aU l rec)⟩)::cmL f e h s t (O.getD s []) (O.getD t []) (cA f e O s t i j)) (.v (.bool false))
    ((11,⟨1, .ab (aU l (bI rec true))⟩)::cmL f e h s t (O.getD s []) (O.getD t []) (cA f e O s t i j)) (yE cmI B))
  (hR:∀i j,(cA f e O s t i j).length<40→i<(cU f 0 O s t).length→j<(cU e 1 O s t).length→cC f e O s t ((cU f 0 O s t).getD i 0) ((cU e 1 O s t).getD j 0)→
   tI Tryz.prog l [iv ((cU f 0 O s t).getD i 0),iv ((cU e 1 O s t).getD j 0)] ((11,⟨1, .ab (aU l rec)⟩)::cmL f e h s t (O.getD s []) (O.getD t []) (cA f e O s t i j)) (.v (.bool true))
    ((11,⟨1, .ab (aU l rec)⟩)::cmL f e h s t (O.getD s []) (O.getD t []) (cA f e O s t i j++[[(s:Int),(t:Int),(cU f 0 O s t).getD i 0,(cU e 1 O s t).getD j 0]])) (yE cmI B)):
  SpecH Tryz.prog 210 [.v (.func (.yield l) #[] #[]), .ptr 8 0, .ptr 9 0, .ptr 10 0] ((11,⟨1, .ab (aU l rec)⟩)::cmL f e h s t (O.getD s []) (O.getD t []) (cA f e O s t 0 0)) (.tup [])
   ((11,⟨1, .ab (aU l (bI rec true))⟩)::cmL f e h s t (O.getD s []) (O.getD t []) ((cA f e O s (t+1) 0 0).take 40)) (yE cmI B):=by
 refine SpecH.pin (tD (E:=TEp cmI B) 12 Tryz.func210 rfl (by simp [Tryz.f210]) fun X hn hX=>?_) (by simp [go_sem])
 have o1:=hO s hs
 have o2:=hO t ht
 have f2:=hf.src.m40
 have g2:=he.src.m40
 have f3:=hf.src.tol
 have g3:=he.src.tol
 have l1:=o1.len
 have l2:=o2.len
 repeat'(first|(with_reducible first|refine St.f ?_|refine V_c ?_|refine eDn ?_|refine And.intro ?_ ?_|refine aM ?_ ?_|refine aP ?_)|((refine aY ?_);intro K hK)|((with_reducible refine So.f ?_);intro K hK;simp(contextual:=true)only [go_sem,simprocAttr])|((with_reducible refine hK _ ?_);clear hK K)|((with_reducible refine aC 131 ?_);refine EvCall.rr (dE (c:=f.src) ?_ ?_) cP ?_)|((with_reducible refine aC 131 ?_);refine EvCall.rr (dE (c:=e.src) ?_ ?_) cP ?_)|(refine fun(hc:(_:Bool)=_)=>?_;try simp only [hcS]at hc))
 all_goals try exact om_
 have u1:=pA f 0 O s t
 have v1:=pA e 1 O s t
 have u2:(f.src.hom ((O.getD s []).getD 0 0) ((O.getD t []).getD 0 0)).length=(cU f 0 O s t).length:=rfl
 have v2:(e.src.hom ((O.getD s []).getD 1 0) ((O.getD t []).getD 1 0)).length=(cU e 1 O s t).length:=rfl
 refine aH (G:={i:Nat//i≤(cU f 0 O s t).length∧((cA f e O s t i 0).length≤40)}) (fun⟨i,_⟩=>[(30,iv i)]) [0,1,2,3,5,28,29] (fun⟨i,_⟩=>[(11,⟨1, .ab (aU l rec)⟩),(3,⟨1,cmK f e h (aE (cA f e O s t i 0))⟩),(8,⟨1, .box [.ptr 3 0]⟩),(9,⟨1, .box [.bor [] (ints (O.getD s []))]⟩),(10,⟨1, .box [.bor [] (ints (O.getD t []))]⟩),(7,⟨1, .box [iv t]⟩),(4,⟨1, .box [.ptr 3 0]⟩),(0,⟨1, .box [.v (.pointer none)]⟩),(1,⟨1, .box [.v (.bool false)]⟩),(6,⟨1, .box [iv s]⟩)]) [0,1,3,4,6,7,8,9,10,11] (fun zz=>(cU f 0 O s t).length-zz.1) ⟨0,Nat.zero_le _,by exact hA0⟩ ?_ ?_
 ·exact Imp.au hX
 rintro⟨i,hii,hwi⟩
 simp only [go_sem,simprocAttr]
 repeat'(first|(with_reducible first|refine St.f ?_|refine V_c ?_|refine eDn ?_|refine And.intro ?_ ?_|refine aM ?_ ?_|refine aP ?_)|((refine aY ?_);intro K hK)|((with_reducible refine So.f ?_);intro K hK;simp(contextual:=true)only [go_sem,simprocAttr])|((with_reducible refine hK _ ?_);clear hK K)|((with_reducible refine aC 131 ?_);refine EvCall.rr (dE (c:=e.src) ?_ ?_) cP ?_)|(refine fun(hc:(_:Bool)=_)=>?_;try simp only [hcS]at hc))
 all_goals try exact om_
 ·refine aH (G:={j:Nat//j≤(cU e 1 O s t).length∧((cA f e O s t i j).length≤40)}) (fun⟨j,_⟩=>[(48,iv j)]) [0,1,2,3,5,7,28,29,30,46,47] (fun⟨j,_⟩=>[(11,⟨1, .ab (aU l rec)⟩),(3,⟨1,cmK f e h (aE (cA f e O s t i j))⟩),(8,⟨1, .box [.ptr 3 0]⟩),(9,⟨1, .box [.bor [] (ints (O.getD s []))]⟩),(10,⟨1, .box [.bor [] (ints (O.getD t []))]⟩),(7,⟨1, .box [iv t]⟩),(4,⟨1, .box [.ptr 3 0]⟩),(0,⟨1, .box [.v (.pointer none)]⟩),(1,⟨1, .box [.v (.bool false)]⟩),(6,⟨1, .box [iv s]⟩)]) [0,1,3,4,6,7,8,9,10,11] (fun zz=>(cU e 1 O s t).length-zz.1) ⟨0,Nat.zero_le _,by exact hwi⟩ ?_ ?_
  ·exact Imp.au hX
  rintro⟨j,hij,hwj⟩
  simp only [go_sem,simprocAttr]
  have q3:=o1.ao
  have q4:=o1.ah
  have q5:=o2.ao
  have q6:=o2.ah
  have w1:0≤(f.src.hom ((O.getD s []).getD 0 0) ((O.getD t []).getD 0 0)).getD i 0∧(f.src.hom ((O.getD s []).getD 0 0) ((O.getD t []).getD 0 0)).getD i 0<f.src.fr.length:=by
   have:=aBJ (f:=f) (k:=0) (O:=O) (s:=s) (t:=t) (i:=i) (by omega)
   exact⟨this.1,this.2.1⟩
  have w2:j<(e.src.hom ((O.getD s []).getD 1 0) ((O.getD t []).getD 1 0)).length→0≤(e.src.hom ((O.getD s []).getD 1 0) ((O.getD t []).getD 1 0)).getD j 0∧(e.src.hom ((O.getD s []).getD 1 0) ((O.getD t []).getD 1 0)).getD j 0<e.src.fr.length:=fun h=>by
   have:=aBJ (f:=e) (k:=1) (O:=O) (s:=s) (t:=t) (i:=j) h
   exact⟨this.1,this.2.1⟩
  have f4:=hf.fits.arl
  have g4:=he.fits.arl
  have f5:=hf.fits.arw
  have g5:=he.fits.arw
  rw [←hT]at g5
  have f6:=hf.tgt.toShape.col
  have f7:=fun x h1 h2=>hf.tgt.toShape.comp_row (f:=x) h1 h2
  have w3:=f5 ((f.src.hom ((O.getD s []).getD 0 0) ((O.getD t []).getD 0 0)).getD i 0).toNat (by omega)
  have w4:=fun h=>g5 ((e.src.hom ((O.getD s []).getD 1 0) ((O.getD t []).getD 1 0)).getD j 0).toNat (by have:=w2 h;omega)
  have w5:=f7 _ w3.1 w3.2
  have w6:=f7 _ q3 q4
  rcases Nat.lt_or_ge (cA f e O s t i j).length 40 with h40|h40
  ·repeat'(first|(with_reducible first|refine St.f ?_|refine V_c ?_|refine eDn ?_|refine And.intro ?_ ?_|refine aM ?_ ?_|refine aP ?_)|((refine aY ?_);intro K hK)|((with_reducible refine So.f ?_);intro K hK;simp(contextual:=true)only [go_sem,simprocAttr])|((with_reducible refine hK _ ?_);clear hK K)|((with_reducible refine aC 139 ?_);refine EvCall.rr (bJ (c:=f.tgt) ?_ ?_ ?_ ?_) bG ?_)|(refine EvYield.mk (hR i j h40 (by omega) (by omega) hc) [(11,11),(3,3),(8,8),(9,9),(10,10),(7,7),(4,4),(0,0),(1,1),(6,6)] [] (by simp [go_sem,simprocAttr]) (by simp [go_sem,simprocAttr,cU]) (wE (by simp [go_sem,simprocAttr]) (by simp [go_sem,simprocAttr])) ?_;simp only [go_sem,simprocAttr])|(refine fun(hc:(_:Bool)=_)=>?_;try simp only [hcS]at hc))
   all_goals try exact om_
   ·refine⟨⟨j+1,by omega,(by(rw [aGV (f:=f) (e:=e) (O:=O) (s:=s) (t:=t) (i:=i) (j:=j) hc];simp only [List.length_append,List.length_cons,List.length_nil];omega))⟩,by simp only;omega,Imp.auto hX (by simp only [go_sem,simprocAttr,aGV (f:=f) (e:=e) (O:=O) (s:=s) (t:=t) (i:=i) (j:=j) hc])⟩
   ·refine⟨⟨j+1,by omega,(by(rw [aGU (f:=f) (e:=e) (O:=O) (s:=s) (t:=t) (i:=i) (j:=j) hc];exact hwj))⟩,by simp only;omega,Imp.auto hX (by simp only [go_sem,simprocAttr,aGU (f:=f) (e:=e) (O:=O) (s:=s) (t:=t) (i:=i) (j:=j) hc])⟩
   ·refine⟨⟨i+1,by omega,(by(rw [aES (f:=f) (e:=e) (O:=O) (s:=s) (t:=t) (i:=i) (show j=(cU e 1 O s t).length by omega)];exact hwj))⟩,by simp only;omega,Imp.auto hX (by simp only [go_sem,simprocAttr,aES (f:=f) (e:=e) (O:=O) (s:=s) (t:=t) (i:=i) (show j=(cU e 1 O s t).length by omega)])⟩
  ·have h41:(cA f e O s t i j).length=40:=by omega
   repeat'(first|(with_reducible first|refine St.f ?_|refine V_c ?_|refine eDn ?_|refine And.intro ?_ ?_|refine aM ?_ ?_|refine aP ?_)|((refine aY ?_);intro K hK)|((with_reducible refine So.f ?_);intro K hK;simp(contextual:=true)only [go_sem,simprocAttr])|((with_reducible refine hK _ ?_);clear hK K)|((with_reducible refine aC 139 ?_);refine EvCall.rr (bJ (c:=f.tgt) ?_ ?_ ?_ ?_) bG ?_)|(refine EvYield.mk (hS i j (by omega) (by omega) h41) [(11,11),(3,3),(8,8),(9,9),(10,10),(7,7),(4,4),(0,0),(1,1),(6,6)] [] (by simp [go_sem,simprocAttr]) (by simp [go_sem,simprocAttr,cU]) (wE (by simp [go_sem,simprocAttr]) (by simp [go_sem,simprocAttr])) ?_;simp only [go_sem,simprocAttr])|(refine fun(hc:(_:Bool)=_)=>?_;try simp only [hcS]at hc))
   all_goals try exact om_
   ·have e40:=cA_take (f:=f) (e:=e) (O:=O) (s:=s) (t:=t) (i:=i) (j:=j) (by omega) (by omega) h41
    (first|refine aB ?_|refine aA ?_);simp only [go_sem,simprocAttr,Tryz.f210]
    rw [e40]
   ·refine⟨⟨j+1,by omega,(by(rw [aGU (f:=f) (e:=e) (O:=O) (s:=s) (t:=t) (i:=i) (j:=j) hc];exact hwj))⟩,by simp only;omega,Imp.auto hX (by simp only [go_sem,simprocAttr,aGU (f:=f) (e:=e) (O:=O) (s:=s) (t:=t) (i:=i) (j:=j) hc])⟩
   ·refine⟨⟨i+1,by omega,(by(rw [aES (f:=f) (e:=e) (O:=O) (s:=s) (t:=t) (i:=i) (show j=(cU e 1 O s t).length by omega)];exact hwj))⟩,by simp only;omega,Imp.auto hX (by simp only [go_sem,simprocAttr,aES (f:=f) (e:=e) (O:=O) (s:=s) (t:=t) (i:=i) (show j=(cU e 1 O s t).length by omega)])⟩
 ·exfalso
  rw [aFW (f:=f) (e:=e) (O:=O) (s:=s) (t:=t) (show i=(cU f 0 O s t).length by omega)]at hA1
  omega
end Go.Eng
end
section
namespace Go.Eng
open Go Go.Proofs Go.Cats
attribute [local go_sem] yU cmK cmL rI cmI
theorem yL {f e:Fun} (hf:IsFun f) (he:IsFun e) (hT:f.tgt=e.tgt) (hO:(aK f e).length≤8) (hA:40<(kF f e (aK f e)).length):Spec Tryz.prog 77 [.bptr [] (cD f), .bptr [] (cD e)] [] (.tup [.v (.pointer none), .v (.bool false)]) []:=by
 refine aA0 (E:=TE) 0 Tryz.func77 rfl (by simp [Tryz.f77]) fun X hn hX hrd=>?_
 repeat'(first|refine wkQ ?_|refine Tw.f ?_ ?_|(refine kcQ iZ ?_;refine krQ (kC ?_ ?_) ?_)|(refine fun(hc:(_:Bool)=_)=>?_;try simp only [hcS]at hc))
 all_goals try exact om_
 refine aL3 2 (fun _ _=>trivial) (by simp [go_sem]) fun Y hYn hYr hY=>?_
 refine gJ (Imp.adoptB 3 3 1 (ints []) _ (by decide) rfl rfl rfl (by rw [hY,hX];rfl)) ?_
 refine gJ (Imp.closeB 3 5 3 _ _ rfl rfl rfl (by decide)) ?_
 have hX':Y.rs0=rsL [(2,⟨1, .gone⟩)]:=by rw [hY,hX];rfl
 have hX0:=hX
 clear hX
 have hn':Y.n=_:=hYn.trans hn
 have hn0:=hn
 have hYd:=hYr
 clear hn hYn hYr hY
 have hX:=hX'
 refine gJ (Imp.cellXT 3 0 3 2 _ _ _ rfl (by simp [go_sem]) rfl (by rw [hX];exact Nat.le_refl 1)) ?_
 refine gJ (Imp.cellXT 3 1 3 2 _ _ _ rfl (by simp [go_sem]) rfl (by rw [hX];exact Nat.le_refl 1)) ?_
 simp only [List.set_cons_succ,List.set_cons_zero]
 have hn:=hn'
 clear hX' hn'
 refine aH (G:={s:Nat//s≤(aK f e).length∧((cA f e (aK f e) s 0 0 0).length≤40)}) (fun⟨s,_⟩=>[(31,iv s)]) [4,5,6,29,30] (fun⟨s,_⟩=>[(3,⟨1, .bx [.bptr [(2,1)] (cD f), .bptr [(2,1)] (cD e), .sl 2, .dead] 3 (aE (cA f e (aK f e) s 0 0 0))⟩),(2,⟨1, .arr (aE (aK f e))⟩),(4,⟨1, .box [.ptr 3 0]⟩),(0,⟨1, .box [.v (.pointer none)]⟩),(1,⟨1, .box [.v (.bool false)]⟩)]) [0,1,2,3,4] (fun zz=>(aK f e).length-zz.1) ⟨0,Nat.zero_le _,(by rw [yU];exact Nat.zero_le _)⟩ ?_ ?_
 ·exact Imp.au hX
 rintro⟨s,his,hws⟩
 simp only [go_sem,simprocAttr]
 have ok:=fG hf he hT
 repeat'(first|refine wkQ ?_|refine Tw.f ?_ ?_|(refine fun(hc:(_:Bool)=_)=>?_;try simp only [hcS]at hc))
 all_goals try exact om_
 ·refine aH (G:={t:Nat//t≤(aK f e).length∧((cA f e (aK f e) s t 0 0).length≤40)}) (fun⟨t,_⟩=>[(41,iv t),(8, .bor [(2,1)] (ints ((aK f e).getD s [])))]) [4,5,6,7,29,30,31,39,40] (fun⟨t,_⟩=>[(3,⟨1, .bx [.bptr [(2,1)] (cD f), .bptr [(2,1)] (cD e), .sl 2, .dead] 3 (aE (cA f e (aK f e) s t 0 0))⟩),(2,⟨1, .arr (aE (aK f e))⟩),(4,⟨1, .box [.ptr 3 0]⟩),(0,⟨1, .box [.v (.pointer none)]⟩),(1,⟨1, .box [.v (.bool false)]⟩),(6,⟨1, .box [iv s]⟩)]) [0,1,2,3,4,6] (fun zz=>(aK f e).length-zz.1) ⟨0,Nat.zero_le _,by exact hws⟩ ?_ ?_
  ·exact Imp.au hX
  rintro⟨t,hit,hwt⟩
  simp only [go_sem,simprocAttr]
  repeat'(first|(refine fD 10 (Imp.cellXV 3 2 3 2 _ _ rfl (Nat.le_refl 1) rfl (by rw [hX];exact Nat.le_refl 1)) ?_;simp only [List.set_cons_succ,List.set_cons_zero])|(with_reducible first|refine St.f ?_|refine V_c ?_|refine eDn ?_|refine And.intro ?_ ?_|refine aM ?_ ?_|refine aP ?_)|((refine aY ?_);intro K hK)|((with_reducible refine So.f ?_);intro K hK;simp(contextual:=true)only [go_sem,simprocAttr])|((with_reducible refine hK _ ?_);clear hK K)|((with_reducible refine aC 150 ?_);refine EvCall.mr (qA (f:=f) (e:=e) (p:=(aK f e).getD s []) (q:=(aK f e).getD t []) (h:=(Y.c0 2).hdr) (d:=aE (cA f e (aK f e) s t 0 0))) oI [(0,3),(1,8),(2,9),(3,10)] [2] ?_)|(refine fun(hc:(_:Bool)=_)=>?_;try simp only [hcS]at hc))
  all_goals try exact om_
  ·by_cases h41:40<(cA f e (aK f e) s (t+1) 0 0).length
   ·refine oW (f:=210) (es:=[.ptr 8 0, .ptr 9 0, .ptr 10 0]) (r:= .tup []) (L0:=cmL f e (Y.c0 2).hdr s t ((aK f e).getD s []) ((aK f e).getD t []) (cA f e (aK f e) s t 0 0)) (L1:=cmL f e (Y.c0 2).hdr s t ((aK f e).getD s []) ((aK f e).getD t []) ((cA f e (aK f e) s (t+1) 0 0).take 40)) true cmI [2] [(9, .ptr 7 0),(7, .ptr 6 0),(6, .ptr 4 0),(5, .ptr 1 0),(4, .ptr 0 0)] (hYd.trans hrd) rfl iF rfl (by simp [qM,lk]) (show(11:Nat)∉cmI by decide) (by rw [hX];rfl) ?_ ?_ (by simp [go_sem]) ?_ ?_
    ·intro l rec B h1 h2 h3 h4 h5 h6 h7
     have er:bI rec false=rec:=by cases rec;simp_all [bI]
     refine oR hf he hT ok (by omega) (by omega) hwt h41 ?_ ?_
     ·intro i j hi hj h40
      show tI _ _ _ _ (.v (.bool !true)) _ _
      have hcv:∀i∈cmI,1≤(rsL ((11,⟨1, .ab (aU l rec)⟩)::cmL f e (Y.c0 2).hdr s t ((aK f e).getD s []) ((aK f e).getD t []) (cA f e (aK f e) s t i j)) i).cv:=by simp [go_sem,simprocAttr]
      refine mB (E:=TE) (n:=Tryz.f77.ntmps) (m:=11) (cv:=1) (tm0:=[(9, .ptr 7 0),(7, .ptr 6 0),(6, .ptr 4 0),(5, .ptr 1 0),(4, .ptr 0 0)]) true 12 h3 h4 h5 h1 rfl (Nat.le_refl 1) (h6.trans hn) rfl (by simp [Tryz.f77]) (fun w S c0 hH=>h7 w S c0 _ hH (by simp [go_sem,simprocAttr])) (fun _ _=>trivial) fun Z bz hbz hZn hZ hZr=>?_
      have hn:=hZn
      have hX:=hZ
      simp only [go_sem,simprocAttr,uK]
      repeat'(first|refine wkQ ?_|refine Tw.f ?_ ?_|(refine fun(hc:(_:Bool)=_)=>?_;try simp only [hcS]at hc))
      refine⟨1,rfl,Nat.le_refl 1,aFR ?_⟩
      repeat'(first|(refine fD 13 (Imp.openB 3 3 _ _ rfl (Nat.le_refl 1) rfl rfl) ?_;simp only [List.set_cons_succ,List.set_cons_zero])|(with_reducible first|refine St.f ?_|refine V_c ?_|refine eDn ?_|refine And.intro ?_ ?_|refine aM ?_ ?_|refine aP ?_)|((refine aY ?_);intro K hK)|((with_reducible refine So.f ?_);intro K hK;simp(contextual:=true)only [go_sem,simprocAttr])|((with_reducible refine hK _ ?_);clear hK K)|(refine fun(hc:(_:Bool)=_)=>?_;try simp only [hcS]at hc))
      all_goals try exact om_
      refine⟨_,Imp.closeB 3 12 3 _ _ rfl rfl rfl (by decide),?_⟩
      refine aQS 2 (by rw [←hbz];rfl) (by decide) ?_
      simp [go_sem,simprocAttr]
     ·intro i j hlen hi hj hcc
      have hcv:∀i∈cmI,1≤(rsL ((11,⟨1, .ab (aU l rec)⟩)::cmL f e (Y.c0 2).hdr s t ((aK f e).getD s []) ((aK f e).getD t []) (cA f e (aK f e) s t i j)) i).cv:=by simp [go_sem,simprocAttr]
      refine mB (E:=TE) (n:=Tryz.f77.ntmps) (m:=11) (cv:=1) (tm0:=[(9, .ptr 7 0),(7, .ptr 6 0),(6, .ptr 4 0),(5, .ptr 1 0),(4, .ptr 0 0)]) false 12 h3 h4 h5 h1 rfl (Nat.le_refl 1) (h6.trans hn) rfl (by simp [Tryz.f77]) (fun w S c0 hH=>h7 w S c0 _ hH (by simp [go_sem,simprocAttr])) (fun _ _=>trivial) fun Z bz hbz hZn hZ hZr=>?_
      have hn:=hZn
      have hX:=hZ
      simp only [go_sem,simprocAttr,uK]
      repeat'(first|refine wkQ ?_|refine Tw.f ?_ ?_|(refine fun(hc:(_:Bool)=_)=>?_;try simp only [hcS]at hc))
      refine⟨1,rfl,Nat.le_refl 1,aFR ?_⟩
      repeat'(first|(refine fD 13 (Imp.openB 3 3 _ _ rfl (Nat.le_refl 1) rfl rfl) ?_;simp only [List.set_cons_succ,List.set_cons_zero])|(with_reducible first|refine St.f ?_|refine V_c ?_|refine eDn ?_|refine And.intro ?_ ?_|refine aM ?_ ?_|refine aP ?_)|((refine aY ?_);intro K hK)|((with_reducible refine So.f ?_);intro K hK;simp(contextual:=true)only [go_sem,simprocAttr])|((with_reducible refine hK _ ?_);clear hK K)|(refine fun(hc:(_:Bool)=_)=>?_;try simp only [hcS]at hc))
      all_goals try exact om_
      refine⟨_,Imp.closeB 3 15 3 _ _ rfl rfl rfl (by decide),?_⟩
      refine aJP 2 (by rw [←hbz];rfl) (by decide) ?_
      rw [er]
      simp [go_sem,simprocAttr]
    ·exact fun l rec=>vS (by simp [go_sem,simprocAttr])
    ·exact fun l rec=>by simp [go_sem,simprocAttr]
    ·intro l rec
     rw [if_pos rfl]
     repeat'(first|refine wkQ ?_|refine Tw.f ?_ ?_|(refine fun(hc:(_:Bool)=_)=>?_;try simp only [hcS]at hc))
     (first|refine aB ?_|refine aA ?_);simp only [go_sem,simprocAttr,Tryz.f77]
   ·refine oW (f:=210) (es:=[.ptr 8 0, .ptr 9 0, .ptr 10 0]) (r:= .tup []) (L0:=cmL f e (Y.c0 2).hdr s t ((aK f e).getD s []) ((aK f e).getD t []) (cA f e (aK f e) s t 0 0)) (L1:=cmL f e (Y.c0 2).hdr s t ((aK f e).getD s []) ((aK f e).getD t []) (cA f e (aK f e) s (t+1) 0 0)) false cmI [2] [(9, .ptr 7 0),(7, .ptr 6 0),(6, .ptr 4 0),(5, .ptr 1 0),(4, .ptr 0 0)] (hYd.trans hrd) rfl iF rfl (by simp [qM,lk]) (show(11:Nat)∉cmI by decide) (by rw [hX];rfl) ?_ ?_ (by simp [go_sem]) ?_ ?_
    ·intro l rec B h1 h2 h3 h4 h5 h6 h7
     have er:bI rec false=rec:=by cases rec;simp_all [bI]
     rw [er]
     refine nD hf he hT ok (by omega) (by omega) fun i j hi hj hcc=>?_
     have hlen:(cA f e (aK f e) s t i j).length<40:=by
      have k1:=aFV (f:=f) (e:=e) (O:=aK f e) (s:=s) (t:=t) (i:=i) (j:=j+1) hi (by omega)
      rw [aGV hcc,List.length_append]at k1
      simp only [List.length_cons,List.length_nil]at k1
      omega
     have hcv:∀i∈cmI,1≤(rsL ((11,⟨1, .ab (aU l rec)⟩)::cmL f e (Y.c0 2).hdr s t ((aK f e).getD s []) ((aK f e).getD t []) (cA f e (aK f e) s t i j)) i).cv:=by simp [go_sem,simprocAttr]
     refine mB (E:=TE) (n:=Tryz.f77.ntmps) (m:=11) (cv:=1) (tm0:=[(9, .ptr 7 0),(7, .ptr 6 0),(6, .ptr 4 0),(5, .ptr 1 0),(4, .ptr 0 0)]) false 12 h3 h4 h5 h1 rfl (Nat.le_refl 1) (h6.trans hn) rfl (by simp [Tryz.f77]) (fun w S c0 hH=>h7 w S c0 _ hH (by simp [go_sem,simprocAttr])) (fun _ _=>trivial) fun Z bz hbz hZn hZ hZr=>?_
     have hn:=hZn
     have hX:=hZ
     simp only [go_sem,simprocAttr,uK]
     repeat'(first|refine wkQ ?_|refine Tw.f ?_ ?_|(refine fun(hc:(_:Bool)=_)=>?_;try simp only [hcS]at hc))
     refine⟨1,rfl,Nat.le_refl 1,aFR ?_⟩
     repeat'(first|(refine fD 13 (Imp.openB 3 3 _ _ rfl (Nat.le_refl 1) rfl rfl) ?_;simp only [List.set_cons_succ,List.set_cons_zero])|(with_reducible first|refine St.f ?_|refine V_c ?_|refine eDn ?_|refine And.intro ?_ ?_|refine aM ?_ ?_|refine aP ?_)|((refine aY ?_);intro K hK)|((with_reducible refine So.f ?_);intro K hK;simp(contextual:=true)only [go_sem,simprocAttr])|((with_reducible refine hK _ ?_);clear hK K)|(refine fun(hc:(_:Bool)=_)=>?_;try simp only [hcS]at hc))
     all_goals try exact om_
     refine⟨_,Imp.closeB 3 15 3 _ _ rfl rfl rfl (by decide),?_⟩
     refine aJP 2 (by rw [←hbz];rfl) (by decide) ?_
     rw [er]
     simp [go_sem,simprocAttr]
    ·exact fun l rec=>vS (by simp [go_sem,simprocAttr])
    ·exact fun l rec=>by simp [go_sem,simprocAttr]
    ·intro l rec
     simp only [go_sem,simprocAttr,Bool.false_eq_true]
     repeat'(first|(refine fD 16 (Imp.cellXS 3 2 3 2 _ _ rfl (by simp [go_sem,simprocAttr]) rfl (by rw [hX];exact Nat.le_refl 1)) ?_;simp only [List.set_cons_succ,List.set_cons_zero])|(with_reducible first|refine St.f ?_|refine V_c ?_|refine eDn ?_|refine And.intro ?_ ?_|refine aM ?_ ?_|refine aP ?_)|((refine aY ?_);intro K hK)|((with_reducible refine So.f ?_);intro K hK;simp(contextual:=true)only [go_sem,simprocAttr])|((with_reducible refine hK _ ?_);clear hK K)|(refine fun(hc:(_:Bool)=_)=>?_;try simp only [hcS]at hc))
     all_goals try exact om_
     refine⟨⟨t+1,by omega,(by omega)⟩,by simp only;omega,Imp.ao hX⟩
  ·refine⟨⟨s+1,by omega,(by(rw [aIk (f:=f) (e:=e) (O:=aK f e) (s:=s) (show t=(aK f e).length by omega)];exact hwt))⟩,by simp only;omega,Imp.auto hX (by simp only [go_sem,simprocAttr,aIk (f:=f) (e:=e) (O:=aK f e) (s:=s) (show t=(aK f e).length by omega)])⟩
 ·exfalso
  have es:s=(aK f e).length:=by omega
  subst es
  unfold kF at hA
  omega
theorem aAI {f e:Fun} (hf:IsFun f) (he:IsFun e) (hT:f.tgt=e.tgt) (hO:8<(aK f e).length):Spec Tryz.prog 77 [.bptr [] (cD f), .bptr [] (cD e)] [] (.tup [.v (.pointer none), .v (.bool false)]) []:=by
 refine aD (E:=TE) 0 Tryz.func77 rfl (by simp [Tryz.f77]) fun X hn hX=>?_
 repeat'(first|refine wkQ ?_|refine Tw.f ?_ ?_|(refine kcQ iZ ?_;refine krQ (kC ?_ ?_) ?_)|(refine fun(hc:(_:Bool)=_)=>?_;try simp only [hcS]at hc))
 all_goals try exact om_
 ·(first|refine aB ?_|refine aA ?_);simp only [go_sem,simprocAttr,Tryz.f77]
 all_goals omega
end Go.Eng
end
section
namespace Go.Eng
open Go Go.Proofs Go.Cats
def aEC (fr to:List Int) (h:Nat→Nat→Int) (i j:Nat):Int:=if to.getD i 0=fr.getD j 0 then h i j else-1
def lU (fr to:List Int) (h:Nat→Nat→Int) (i j:Nat):List Int:=(List.range j).map (aEC fr to h i)++List.replicate (fr.length-j) 0
def jU (fr to:List Int) (h:Nat→Nat→Int) (i:Nat):List (List Int):=(List.range i).map fun k=>(List.range fr.length).map (aEC fr to h k)
section
variable {fr to:List Int} {h:Nat→Nat→Int} {i j m:Nat}
@[go_sem] theorem aOl:jU fr to h 0=[]:=rfl
theorem jK:(jU fr to h i).length=i:=by simp [jU]
theorem aED (hj:j≤fr.length):(lU fr to h i j).length=fr.length:=by simp [lU];omega
theorem aH0:List.replicate fr.length 0=lU fr to h i 0:=by simp [lU]
theorem aEE (hj:j<fr.length) (x:Int):(lU fr to h i j).set j x=(List.range j).map (aEC fr to h i)++x::List.replicate (fr.length-(j+1)) 0:=by
 have e:fr.length-j=fr.length-(j+1)+1:=by omega
 unfold lU
 rw [List.set_append_right _ _ (by simp),e]
 simp [List.replicate_succ]
theorem aCr (hj:j<fr.length):lU fr to h i (j+1)=(List.range j).map (aEC fr to h i)++aEC fr to h i j::List.replicate (fr.length-(j+1)) 0:=by
 simp [lU,List.range_succ]
theorem aLU (hj:j<fr.length) (hc:¬to.getD i 0=fr.getD j 0):(lU fr to h i j).set j (-1)=lU fr to h i (j+1):=by
 rw [aEE hj,aCr hj,aEC,if_neg hc]
theorem aKp (hj:j<fr.length) (hc:to.getD i 0=fr.getD j 0):((lU fr to h i j).set j (-1)).set j (h i j)=lU fr to h i (j+1):=by
 rw [List.set_set,aEE hj,aCr hj,aEC,if_pos hc]
theorem aFG:jU fr to h i++[lU fr to h i fr.length]=jU fr to h (i+1):=by
 simp [jU,lU,List.range_succ]
theorem tb_at {x:List Int}:(eU (jU fr to h i++[x]) m).at i=ints x:=by
 rw [aIN (by simp [jK])]
 simp [List.getD_eq_getElem?_getD,jK]
theorem aKs {x r:List Int}:(eU (jU fr to h i++[x]) m).put i (ints r)=eU (jU fr to h i++[r]) m:=by
 rw [aHg (by simp [jK]),List.set_append_right _ _ (by rw [jK];omega),jK,Nat.sub_self]
 rfl
theorem aOn (hi:i<fr.length):(eU (jU fr to h i) (fr.length-i)).put i (ints (List.replicate fr.length 0))=eU (jU fr to h i++[lU fr to h i 0]) (fr.length-(i+1)):=by
 have e:fr.length-i=fr.length-(i+1)+1:=by omega
 have e2:=aHf (jU fr to h i) (fr.length-(i+1)) (List.replicate fr.length 0)
 rw [jK]at e2
 rw [e,e2,aH0]
end
theorem oS {ob:Int} {fr to id:List Int}:Spec Tryz.prog 84 [.bptr [] [.v (.int .i64 ob),ints fr,ints to,ints id, .v (.slice none 0 0)]] [] (iv fr.length) []:=by
 refine aD (E:=TE) 0 Tryz.func84 rfl (by simp [Tryz.f84]) fun X hn hX=>?_
 repeat'(first|refine wkQ ?_|refine Tw.f ?_ ?_|(refine fun(hc:(_:Bool)=_)=>?_;try simp only [hcS]at hc))
 (first|refine aB ?_|refine aA ?_);simp only [go_sem,simprocAttr,Tryz.f84]
theorem sB:aF Tryz.prog 137:=⟨_,Tryz.func137,rfl,rfl⟩
theorem uV {ob:Int} {fr to id:List Int} {F:FuncId} {cp:LC} {h:Nat→Nat→Int} (hF:aF Tryz.prog F) (hS:∀a b:Nat,a<fr.length→b<fr.length→to.getD a 0=fr.getD b 0→Spec Tryz.prog F ([iv a,iv b]++cp.l) [] (iv (h a b)) []) (hlen:fr.length≤1048576) (hto:to.length=fr.length) (hob:0≤ob):Spec Tryz.prog 137 [.ptr 0 0, .fn F cp.l] [(0,⟨1, .box [iv ob, .sl 1, .sl 2, .sl 3, .v (.slice none 0 0)]⟩),(1,⟨1, .arr (ints fr)⟩),(2,⟨1, .arr (ints to)⟩),(3,⟨1, .arr (ints id)⟩)] (.tup []) [(0,⟨1, .box [iv ob, .sl 1, .sl 2, .sl 3, .sl 4]⟩),(1,⟨1, .arr (ints fr)⟩),(2,⟨1, .arr (ints to)⟩),(3,⟨1, .arr (ints id)⟩),(4,⟨1, .arr (aE (jU fr to h fr.length))⟩)]:=by
 refine aD (E:=TE) 4 Tryz.func137 rfl (by simp [Tryz.f137]) fun X hn hX=>?_
 repeat'(first|refine wkQ ?_|refine Tw.f ?_ ?_|(refine kcQ bM ?_;refine kwQ (oS (ob:=ob) (fr:=fr) (to:=to) (id:=id)) [] [0,1,2,3] ?_)|(refine fun(hc:(_:Bool)=_)=>?_;try simp only [hcS]at hc))
 all_goals try exact om_
 refine aH (G:={i:Nat//i≤fr.length∧(True)}) (fun⟨i,_⟩=>[(19,iv i)]) [0,1,4,18] (fun⟨i,_⟩=>[(0,⟨1, .box [iv ob, .sl 1, .sl 2, .sl 3, .sl 4]⟩),(1,⟨1, .arr (ints fr)⟩),(2,⟨1, .arr (ints to)⟩),(3,⟨1, .arr (ints id)⟩),(4,⟨1, .arr (eU (jU fr to h i) (fr.length-i))⟩)]) [0,1,2,3,4] (fun zz=>fr.length-zz.1) ⟨0,Nat.zero_le _,by simp⟩ ?_ ?_
 ·exact Imp.au hX
 rintro⟨i,hii,hwi⟩
 simp only [go_sem,simprocAttr]
 have l1:=jK (fr:=fr) (to:=to) (h:=h) (i:=i)
 have e3:=fun h0=>aOn (fr:=fr) (to:=to) (h:=h) (i:=i) h0
 have e4:=tb_at (fr:=fr) (to:=to) (h:=h) (i:=i) (m:=fr.length-(i+1)) (x:=lU fr to h i 0)
 repeat'(first|(refine fD 6 (Imp.refl _ _) ?_;rw [e3 (by omega)])|(with_reducible first|refine St.f ?_|refine V_c ?_|refine eDn ?_|refine And.intro ?_ ?_|refine aM ?_ ?_|refine aP ?_)|((refine aY ?_);intro K hK)|((with_reducible refine So.f ?_);intro K hK;simp(contextual:=true)only [go_sem,simprocAttr])|((with_reducible refine hK _ ?_);clear hK K)|(rw [e4];simp only [go_sem,simprocAttr])|(refine fun(hc:(_:Bool)=_)=>?_;try simp only [hcS]at hc))
 all_goals try exact om_
 ·refine aH (G:={j:Nat//j≤fr.length∧(True)}) (fun⟨j,_⟩=>[(38,iv j)]) [0,1,4,5,18,19,37] (fun⟨j,_⟩=>[(0,⟨1, .box [iv ob, .sl 1, .sl 2, .sl 3, .sl 4]⟩),(1,⟨1, .arr (ints fr)⟩),(2,⟨1, .arr (ints to)⟩),(3,⟨1, .arr (ints id)⟩),(4,⟨1, .arr (eU (jU fr to h i++[lU fr to h i j]) (fr.length-(i+1)))⟩)]) [0,1,2,3,4] (fun zz=>fr.length-zz.1) ⟨0,Nat.zero_le _,by first|trivial|simp⟩ ?_ ?_
  ·exact Imp.au hX
  rintro⟨j,hij,hwj⟩
  simp only [go_sem,simprocAttr]
  have l0:=aED (fr:=fr) (to:=to) (h:=h) (i:=i) (j:=0) (Nat.zero_le _)
  have l2:=aED (fr:=fr) (to:=to) (h:=h) (i:=i) (j:=j) (by omega)
  have e2:=tb_at (fr:=fr) (to:=to) (h:=h) (i:=i) (m:=fr.length-(i+1)) (x:=lU fr to h i j)
  repeat'(first|(refine fD 9 (Imp.open_ 4 i _ [] (.inr ⟨rfl,rfl⟩) (by simp [go_sem,simprocAttr]) (by simp [go_sem,simprocAttr,l1];omega) rfl (by rw [e2];rfl) rfl) ?_;rw [e2])|refine fD 12 (Imp.closeA 4 6 i _ _ rfl rfl (by decide) (by simp [go_sem,simprocAttr,l1];omega)) ?_|(with_reducible first|refine St.f ?_|refine V_c ?_|refine eDn ?_|refine And.intro ?_ ?_|refine aM ?_ ?_|refine aP ?_)|((refine aY ?_);intro K hK)|((with_reducible refine So.f ?_);intro K hK;simp(contextual:=true)only [go_sem,simprocAttr])|((with_reducible refine hK _ ?_);clear hK K)|((with_reducible refine aC F ?_);refine EvCall.lc rfl (hS i j (by omega) (by omega) (by assumption)) hF ?_;all_goals try simp only [go_sem,simprocAttr])|(refine fun(hc:(_:Bool)=_)=>?_;try simp only [hcS]at hc))
  all_goals try exact om_
  ·have e5:=aKp (fr:=fr) (to:=to) (h:=h) (i:=i) (j:=j) (by omega) (by assumption)
   have e6:=aKs (fr:=fr) (to:=to) (h:=h) (i:=i) (m:=fr.length-(i+1)) (x:=lU fr to h i j) (r:=lU fr to h i (j+1))
   refine⟨⟨j+1,by omega,(by trivial)⟩,by simp only;omega,Imp.auto hX (by simp only [go_sem,simprocAttr,e5,e6])⟩
  ·have e5:=aLU (fr:=fr) (to:=to) (h:=h) (i:=i) (j:=j) (by omega) (by assumption)
   have e6:=aKs (fr:=fr) (to:=to) (h:=h) (i:=i) (m:=fr.length-(i+1)) (x:=lU fr to h i j) (r:=lU fr to h i (j+1))
   refine⟨⟨j+1,by omega,(by trivial)⟩,by simp only;omega,Imp.auto hX (by simp only [go_sem,simprocAttr,e5,e6])⟩
  ·have e:j=fr.length:=by omega
   subst e
   have e5:=aFG (fr:=fr) (to:=to) (h:=h) (i:=i)
   refine⟨⟨i+1,by omega,(by trivial)⟩,by simp only;omega,Imp.auto hX (by simp only [go_sem,simprocAttr,e5])⟩
 ·have e:i=fr.length:=by omega
  subst e
  (first|refine aB ?_|refine aA ?_);simp only [go_sem,simprocAttr,Tryz.f137]
  simp [go_sem,simprocAttr]
end Go.Eng
end
section
namespace Go.Eng
open Go Go.Proofs Go.Cats
attribute [local go_sem] aFY mV aZ yU
theorem kV:aF Tryz.prog 122:=⟨_,Tryz.func122,rfl,rfl⟩
theorem nF {c:Cat} {x y:Int} (hl:c.fr.length≤1048576) (ht:c.to.length=c.fr.length):Spec Tryz.prog 122 [dN c,iv x,iv y] [] (.sl 0) [(0,⟨1, .arr (ints (c.hom x y))⟩)]:=by
 refine aD (E:=TE) 0 Tryz.func122 rfl (by simp [Tryz.f122]) fun X hn hX=>?_
 repeat'(first|refine wkQ ?_|refine Tw.f ?_ ?_|(refine fun(hc:(_:Bool)=_)=>?_;try simp only [hcS]at hc))
 all_goals try exact om_
 refine aH (G:={i:Nat//i≤c.fr.length∧(True)}) (fun⟨i,_⟩=>[(8,iv i),(7, .sl 1)]) [1,2,3,6] (fun⟨i,_⟩=>[(1,⟨1, .arr (ints (c.homI x y i))⟩)]) [1] (fun zz=>c.fr.length-zz.1) ⟨0,Nat.zero_le _,by first|trivial|simp⟩ ?_ ?_
 ·exact Imp.au hX
 rintro⟨i,hii,hwi⟩
 simp only [go_sem,simprocAttr]
 have hlen:=c.homI_len x y i
 repeat'(first|refine wkQ ?_|refine Tw.f ?_ ?_|(refine fun(hc:(_:Bool)=_)=>?_;try simp only [hcS]at hc))
 all_goals try exact om_
 all_goals try(refine⟨⟨i+1,by omega,(by trivial)⟩,by simp only;omega,Imp.auto hX (by simp only [go_sem,simprocAttr,Cat.homI_succ, *])⟩)
 ·(first|refine aB ?_|refine aA ?_);simp only [go_sem,simprocAttr,Tryz.f122]
  have:i=c.fr.length:=by omega
  subst this
  simp [Cat.hom]
theorem kW:aF Tryz.prog 188:=⟨_,Tryz.func188,rfl,rfl⟩
theorem mL {f e:Fun} (hf:IsFun f) (he:IsFun e):Spec Tryz.prog 188 [cK f,cK e] [] (.sl 0) [(0,⟨1, .arr (aE (aK f e))⟩)]:=by
 refine aD (E:=TE) 0 Tryz.func188 rfl (by simp [Tryz.f188]) fun X hn hX=>?_
 have f1:=hf.fits.obl
 have g1:=he.fits.obl
 have f2:=hf.src.ob8
 have g2:=he.src.ob8
 have f3:=hf.tgt.m40
 have f4:=hf.tgt.tol
 have hl:=fun a b k=>aIm f e a b k 40 f3
 have hx:∀a b:Nat,a≤8→b≤8→a*(e.obs.length*40)+b*40+40≤3000:=fun a b ha hb=>by
  have:=Nat.mul_le_mul ha (Nat.mul_le_mul_right 40 (show e.obs.length≤8 by omega));omega
 repeat'(first|refine wkQ ?_|refine Tw.f ?_ ?_|(refine fun(hc:(_:Bool)=_)=>?_;try simp only [hcS]at hc))
 all_goals try exact om_
 refine aH (G:={a:Nat//a≤f.obs.length∧(True)}) (fun⟨a,_⟩=>[(6,iv a),(5, .sl 2)]) [2,3,4] (fun⟨a,_⟩=>[(2,⟨1, .arr (aE (cO f e a 0 0))⟩)]) [2] (fun zz=>f.obs.length-zz.1) ⟨0,Nat.zero_le _,by first|trivial|simp⟩ ?_ ?_
 ·exact Imp.au hX
 rintro⟨a,hia,hwa⟩
 simp only [go_sem,simprocAttr]
 repeat'(first|refine wkQ ?_|refine Tw.f ?_ ?_|(refine fun(hc:(_:Bool)=_)=>?_;try simp only [hcS]at hc))
 all_goals try exact om_
 ·refine aH (G:={b:Nat//b≤e.obs.length∧(True)}) (fun⟨b,_⟩=>[(7,iv b),(5, .sl 2)]) [2,3,4,6] (fun⟨b,_⟩=>[(2,⟨1, .arr (aE (cO f e a b 0))⟩)]) [2] (fun zz=>e.obs.length-zz.1) ⟨0,Nat.zero_le _,by first|trivial|simp⟩ ?_ ?_
  ·exact Imp.au hX
  rintro⟨b,hib,hwb⟩
  simp only [go_sem,simprocAttr]
  have hh:=aCD f e a b
  have hu:(f.tgt.hom (f.obs.getD a 0) (e.obs.getD b 0)).length=(cH f e a b).length:=rfl
  repeat'(first|refine wkQ ?_|refine Tw.f ?_ ?_|(refine kcQ kV ?_;refine krQ (nF ?_ ?_) ?_)|(refine fun(hc:(_:Bool)=_)=>?_;try simp only [hcS]at hc))
  all_goals try exact om_
  ·refine aH (G:={k:Nat//k≤(cH f e a b).length∧(True)}) (fun⟨k,_⟩=>[(9,iv k),(5, .sl 2)]) [2,3,4,6,7,8] (fun⟨k,_⟩=>[(2,⟨1, .arr (aE (cO f e a b k))⟩)]) [2] (fun zz=>(cH f e a b).length-zz.1) ⟨0,Nat.zero_le _,by first|trivial|simp⟩ ?_ ?_
   ·exact Imp.au hX
   rintro⟨k,hik,hwk⟩
   simp only [go_sem,simprocAttr]
   have h1:=hl a b k
   have h2:=hx a b (by omega) (by omega)
   repeat'(first|refine wkQ ?_|refine Tw.f ?_ ?_|(refine fun(hc:(_:Bool)=_)=>?_;try simp only [hcS]at hc))
   all_goals try exact om_
   ·refine⟨⟨k+1,by omega,(by trivial)⟩,by simp only;omega,Imp.auto hX (by simp only [go_sem,simprocAttr,aPO (show k<(cH f e a b).length by omega),cH])⟩
   ·refine⟨⟨b+1,by omega,(by trivial)⟩,by simp only;omega,Imp.auto hX (by simp only [go_sem,simprocAttr,aPN (show(cH f e a b).length≤k by omega)])⟩
  ·refine⟨⟨a+1,by omega,(by trivial)⟩,by simp only;omega,Imp.auto hX (by simp only [go_sem,simprocAttr,aPM,show b=e.obs.length by omega])⟩
 ·(first|refine aB ?_|refine aA ?_);simp only [go_sem,simprocAttr,Tryz.f188]
  rw [aK,show f.obs.length=a by omega]
theorem nN:aF Tryz.prog 142:=⟨_,Tryz.func142,rfl,rfl⟩
theorem rC {l:List (List Int)} {k:Nat} (hl:l.length≤1048576) (hk:∀i,i<l.length→k<(l.getD i []).length):Spec Tryz.prog 142 [.bor [] (aE l),iv k] [] (.sl 0) [(0,⟨1, .arr (ints (bP l k l.length))⟩)]:=by
 refine aD (E:=TE) 0 Tryz.func142 rfl (by simp [Tryz.f142]) fun X hn hX=>?_
 repeat'(first|refine wkQ ?_|refine Tw.f ?_ ?_|(refine fun(hc:(_:Bool)=_)=>?_;try simp only [hcS]at hc))
 all_goals try exact om_
 refine aH (G:={i:Nat//i≤l.length∧(True)}) (fun⟨i,_⟩=>[(11,iv i),(5, .sl 0)]) [1,4,9,10] (fun⟨i,_⟩=>[(0,⟨1, .arr (ints (bP l k i))⟩)]) [0] (fun zz=>l.length-zz.1) ⟨0,Nat.zero_le _,by first|trivial|simp⟩ ?_ ?_
 ·exact Imp.au hX
 rintro⟨i,hii,hwi⟩
 simp only [go_sem,simprocAttr]
 have h1:=hk i
 repeat'(first|refine wkQ ?_|refine Tw.f ?_ ?_|(refine fun(hc:(_:Bool)=_)=>?_;try simp only [hcS]at hc))
 all_goals try exact om_
 ·refine⟨⟨i+1,by omega,(by trivial)⟩,by simp only;omega,Imp.auto hX (by simp only [go_sem,simprocAttr,kJ (show i<l.length by omega)])⟩
 ·(first|refine aB ?_|refine aA ?_);simp only [go_sem,simprocAttr,Tryz.f142]
  rw [show l.length=i by omega]
theorem fK:aF Tryz.prog 114:=⟨_,Tryz.func114,rfl,rfl⟩
theorem gF {l:List (List Int)} {k:Nat} (hl:l.length≤1048576) (hk:∀i,i<l.length→k<(l.getD i []).length):Spec Tryz.prog 114 [.bor [] (aE l),iv k] [] (.sl 0) [(0,⟨1, .arr (ints (bP l k l.length))⟩)]:=by
 refine aD (E:=TE) 0 Tryz.func114 rfl (by simp [Tryz.f114]) fun X hn hX=>?_
 repeat'(first|refine wkQ ?_|refine Tw.f ?_ ?_|(refine fun(hc:(_:Bool)=_)=>?_;try simp only [hcS]at hc))
 all_goals try exact om_
 refine aH (G:={i:Nat//i≤l.length∧(True)}) (fun⟨i,_⟩=>[(6,iv i),(5, .sl 0)]) [0,1,4] (fun⟨i,_⟩=>[(0,⟨1, .arr (ints (bP l k i))⟩)]) [0] (fun zz=>l.length-zz.1) ⟨0,Nat.zero_le _,by first|trivial|simp⟩ ?_ ?_
 ·exact Imp.au hX
 rintro⟨i,hii,hwi⟩
 simp only [go_sem,simprocAttr]
 have h1:=hk i
 repeat'(first|refine wkQ ?_|refine Tw.f ?_ ?_|(refine fun(hc:(_:Bool)=_)=>?_;try simp only [hcS]at hc))
 all_goals try exact om_
 ·refine⟨⟨i+1,by omega,(by trivial)⟩,by simp only;omega,Imp.auto hX (by simp only [go_sem,simprocAttr,kJ (show i<l.length by omega)])⟩
 ·(first|refine aB ?_|refine aA ?_);simp only [go_sem,simprocAttr,Tryz.f114]
  rw [show l.length=i by omega]
theorem cX:aF Tryz.prog 190:=⟨_,Tryz.func190,rfl,rfl⟩
theorem sp_l02Fits {c:Cat} (hl:c.fr.length≤1048576):Spec Tryz.prog 190 [dN c] [] (bv (dec (c.ob≤8∧c.fr.length≤40))) []:=by
 refine aD (E:=TE) 0 Tryz.func190 rfl (by simp [Tryz.f190]) fun X hn hX=>?_
 repeat'(first|refine wkQ ?_|refine Tw.f ?_ ?_|(refine fun(hc:(_:Bool)=_)=>?_;try simp only [hcS]at hc))
 all_goals try exact om_
 ·(first|refine aB ?_|refine aA ?_);simp only [go_sem,simprocAttr,Tryz.f190]
  exact congrArg (fun b=>Sv.v (.bool b)) (by rw [pK];simp [hc];omega)
 ·(first|refine aB ?_|refine aA ?_);simp only [go_sem,simprocAttr,Tryz.f190]
  exact eD fun h=>by omega
theorem xK:aF Tryz.prog 255:=⟨_,Tryz.func255,rfl,rfl⟩
theorem aAZ {l:List (List Int)} {r:List Int} (hl:l.length≤1048576) (hr:r.length≤1048576) (hk:∀i,i<l.length→(l.getD i []).length≤1048576):Spec Tryz.prog 255 [.bor [] (aE l), .bor [] (ints r)] [] (iv (fnd l r)) []:=by
 refine aD (E:=TE) 0 Tryz.func255 rfl (by simp [Tryz.f255]) fun X hn hX=>?_
 repeat'(first|refine wkQ ?_|refine Tw.f ?_ ?_|(refine fun(hc:(_:Bool)=_)=>?_;try simp only [hcS]at hc))
 all_goals try exact om_
 refine aH (G:={i:Nat//i≤l.length∧(bS i (aCO l r)=none)}) (fun⟨i,_⟩=>[(5,iv i)]) [0,1] (fun⟨i,_⟩=>[]) [] (fun zz=>l.length-zz.1) ⟨0,Nat.zero_le _,by rfl⟩ ?_ ?_
 ·exact Imp.au hX
 rintro⟨i,hii,hwi⟩
 simp only [go_sem,simprocAttr]
 have h1:=hk i
 repeat'(first|refine wkQ ?_|refine Tw.f ?_ ?_|(refine kcQ gZ ?_;refine krQ (oA ?_ ?_) ?_)|(refine fun(hc:(_:Bool)=_)=>?_;try simp only [hcS]at hc))
 all_goals try exact om_
 ·(first|refine aB ?_|refine aA ?_);simp only [go_sem,simprocAttr,Tryz.f255]
  rw [aKZ hwi (by omega) hc]
 ·refine⟨⟨i+1,by omega,(by exact dO hwi (aNg hc))⟩,by simp only;omega,Imp.ao hX⟩
 ·(first|refine aB ?_|refine aA ?_);simp only [go_sem,simprocAttr,Tryz.f255]
  rw [aIB (jR hwi hii (by omega))]
theorem aBl:aF Tryz.prog 227:=⟨_,Tryz.func227,rfl,rfl⟩
theorem aDc {f e:Fun} {O:List (List Int)} (hf:IsFun f) (he:IsFun e) (hT:f.tgt=e.tgt) (hO:O.length≤8) (hR:tG f e O):Spec Tryz.prog 227 [cK f,cK e, .bor [] (aE O)] [] (.sl 0) [(0,⟨1, .arr (aE (kF f e O))⟩)]:=by
 refine aD (E:=TE) 0 Tryz.func227 rfl (by simp [Tryz.f227]) fun X hn hX=>?_
 have f1:=hf.fits.obl
 have g1:=he.fits.obl
 have f2:=hf.src.m40
 have g2:=he.src.m40
 have f3:=hf.src.tol
 have g3:=he.src.tol
 have f4:=hf.fits.arl
 have g4:=he.fits.arl
 have f5:=hf.fits.arw
 have g5:=he.fits.arw
 rw [←hT]at g5
 have f6:=hf.tgt.toShape.col
 have f7:=fun x h1 h2=>hf.tgt.toShape.comp_row (f:=x) h1 h2
 have hl:=fun s t i j=>aIj (s:=s) (t:=t) (i:=i) (j:=j) f2 g2 hO
 repeat'(first|refine wkQ ?_|refine Tw.f ?_ ?_|(refine fun(hc:(_:Bool)=_)=>?_;try simp only [hcS]at hc))
 all_goals try exact om_
 refine aH (G:={s:Nat//s≤O.length∧(True)}) (fun⟨s,_⟩=>[(8,iv s),(7, .sl 2)]) [2,3,4,6] (fun⟨s,_⟩=>[(2,⟨1, .arr (aE (cA f e O s 0 0 0))⟩)]) [2] (fun zz=>O.length-zz.1) ⟨0,Nat.zero_le _,by first|trivial|simp⟩ ?_ ?_
 ·exact Imp.au hX
 rintro⟨s,his,hws⟩
 simp only [go_sem,simprocAttr]
 have r1:=hR s
 have r1l:s<O.length→(O.getD s []).length=3:=fun h=>(hR s h).len
 repeat'(first|refine wkQ ?_|refine Tw.f ?_ ?_|(refine fun(hc:(_:Bool)=_)=>?_;try simp only [hcS]at hc))
 all_goals try exact om_
 ·refine aH (G:={t:Nat//t≤O.length∧(True)}) (fun⟨t,_⟩=>[(9,iv t),(7, .sl 2)]) [2,3,4,6,8] (fun⟨t,_⟩=>[(2,⟨1, .arr (aE (cA f e O s t 0 0))⟩)]) [2] (fun zz=>O.length-zz.1) ⟨0,Nat.zero_le _,by first|trivial|simp⟩ ?_ ?_
  ·exact Imp.au hX
  rintro⟨t,hit,hwt⟩
  simp only [go_sem,simprocAttr]
  have r2:=hR t
  have r2l:t<O.length→(O.getD t []).length=3:=fun h=>(hR t h).len
  have u1:=pA f 0 O s t
  have v1:=pA e 1 O s t
  have u2:(f.src.hom ((O.getD s []).getD 0 0) ((O.getD t []).getD 0 0)).length=(cU f 0 O s t).length:=rfl
  have v2:(e.src.hom ((O.getD s []).getD 1 0) ((O.getD t []).getD 1 0)).length=(cU e 1 O s t).length:=rfl
  repeat'(first|refine wkQ ?_|refine Tw.f ?_ ?_|(refine kcQ kV ?_;refine krQ (nF (c:=f.src) ?_ ?_) ?_)|(refine kcQ kV ?_;refine krQ (nF (c:=e.src) ?_ ?_) ?_)|(refine fun(hc:(_:Bool)=_)=>?_;try simp only [hcS]at hc))
  all_goals try exact om_
  ·refine aH (G:={i:Nat//i≤(cU f 0 O s t).length∧(True)}) (fun⟨i,_⟩=>[(14,iv i),(7, .sl 2)]) [2,3,4,6,8,9,10,11,12,13] (fun⟨i,_⟩=>[(2,⟨1, .arr (aE (cA f e O s t i 0))⟩)]) [2] (fun zz=>(cU f 0 O s t).length-zz.1) ⟨0,Nat.zero_le _,by first|trivial|simp⟩ ?_ ?_
   ·exact Imp.au hX
   rintro⟨i,hii,hwi⟩
   simp only [go_sem,simprocAttr]
   repeat'(first|refine wkQ ?_|refine Tw.f ?_ ?_|(refine fun(hc:(_:Bool)=_)=>?_;try simp only [hcS]at hc))
   all_goals try exact om_
   ·refine aH (G:={j:Nat//j≤(cU e 1 O s t).length∧(True)}) (fun⟨j,_⟩=>[(15,iv j),(7, .sl 2)]) [2,3,4,6,8,9,10,11,12,13,14] (fun⟨j,_⟩=>[(2,⟨1, .arr (aE (cA f e O s t i j))⟩)]) [2] (fun zz=>(cU e 1 O s t).length-zz.1) ⟨0,Nat.zero_le _,by first|trivial|simp⟩ ?_ ?_
    ·exact Imp.au hX
    rintro⟨j,hij,hwj⟩
    simp only [go_sem,simprocAttr]
    have l1:=hl s t i j
    have q1:=r1 (by omega)
    have q2:=r2 (by omega)
    have q3:=q1.ao
    have q4:=q1.ah
    have q5:=q2.ao
    have q6:=q2.ah
    have w1:0≤(f.src.hom ((O.getD s []).getD 0 0) ((O.getD t []).getD 0 0)).getD i 0∧(f.src.hom ((O.getD s []).getD 0 0) ((O.getD t []).getD 0 0)).getD i 0<f.src.fr.length:=by
     have:=aBJ (f:=f) (k:=0) (O:=O) (s:=s) (t:=t) (i:=i) (by omega)
     exact⟨this.1,this.2.1⟩
    have w2:j<(e.src.hom ((O.getD s []).getD 1 0) ((O.getD t []).getD 1 0)).length→0≤(e.src.hom ((O.getD s []).getD 1 0) ((O.getD t []).getD 1 0)).getD j 0∧(e.src.hom ((O.getD s []).getD 1 0) ((O.getD t []).getD 1 0)).getD j 0<e.src.fr.length:=fun h=>by
     have:=aBJ (f:=e) (k:=1) (O:=O) (s:=s) (t:=t) (i:=j) h
     exact⟨this.1,this.2.1⟩
    have w3:=f5 ((f.src.hom ((O.getD s []).getD 0 0) ((O.getD t []).getD 0 0)).getD i 0).toNat (by omega)
    have w4:=fun h=>g5 ((e.src.hom ((O.getD s []).getD 1 0) ((O.getD t []).getD 1 0)).getD j 0).toNat (by have:=w2 h;omega)
    have w5:=f7 _ w3.1 w3.2
    have w6:=f7 _ q3 q4
    repeat'(first|refine wkQ ?_|refine Tw.f ?_ ?_|(refine kcQ pG ?_;refine krQ (tB ?_ ?_ ?_ ?_) ?_)|(refine fun(hc:(_:Bool)=_)=>?_;try simp only [hcS]at hc))
    all_goals try exact om_
    ·refine⟨⟨j+1,by omega,(by trivial)⟩,by simp only;omega,Imp.auto hX (by simp only [go_sem,simprocAttr,aGV (f:=f) (e:=e) (O:=O) (s:=s) (t:=t) (i:=i) (j:=j) hc,cU])⟩
    ·refine⟨⟨j+1,by omega,(by trivial)⟩,by simp only;omega,Imp.auto hX (by simp only [go_sem,simprocAttr,aGU (f:=f) (e:=e) (O:=O) (s:=s) (t:=t) (i:=i) (j:=j) hc])⟩
    ·refine⟨⟨i+1,by omega,(by trivial)⟩,by simp only;omega,Imp.auto hX (by simp only [go_sem,simprocAttr,aES (f:=f) (e:=e) (O:=O) (s:=s) (t:=t) (i:=i) (show j=(cU e 1 O s t).length by omega)])⟩
   ·refine⟨⟨t+1,by omega,(by trivial)⟩,by simp only;omega,Imp.auto hX (by simp only [go_sem,simprocAttr,aFW (f:=f) (e:=e) (O:=O) (s:=s) (t:=t) (show i=(cU f 0 O s t).length by omega)])⟩
  ·refine⟨⟨s+1,by omega,(by trivial)⟩,by simp only;omega,Imp.auto hX (by simp only [go_sem,simprocAttr,aIk (f:=f) (e:=e) (O:=O) (s:=s) (show t=O.length by omega)])⟩
 ·(first|refine aB ?_|refine aA ?_);simp only [go_sem,simprocAttr,Tryz.f227]
  rw [kF,show O.length=s by omega]
end Go.Eng
end
section
namespace Go.Eng
open Go Go.Proofs Go.Cats
attribute [local go_sem] mV aZ aGK lM
theorem aCK:aF Tryz.prog 228:=⟨_,Tryz.func228,rfl,rfl⟩
theorem aEs {N:Nat} {A:List (List Int)} {a b:Cat} {L R:List Int} (ha:IsCat a) (hb:IsCat b) (hN:N≤8) (hA:A.length≤1048576) (hR:aL0 a b A) (hL:L.length=N) (hRr:R.length=N) (hLw:Within L a.ob) (hRw:Within R b.ob):Spec Tryz.prog 228 [iv N, .bor [] (aE A),dN a,dN b, .bor [] (ints L), .bor [] (ints R)] [] (.agg [iv N, .sl 0, .sl 1, .sl 2, .sl 3]) [(0,⟨1, .arr (ints (bP A 0 A.length))⟩),(1,⟨1, .arr (ints (bP A 1 A.length))⟩),(2,⟨1, .arr (ints (nJ N A a b L R 0).id)⟩),(3,⟨1, .arr (aE (nJ N A a b L R (if A.length≤40 then A.length else 0)).co)⟩)]:=by
 refine aD (E:=TE) 0 Tryz.func228 rfl (by simp [Tryz.f228]) fun X hn hX=>?_
 have rl1:∀i,i<A.length→(A.getD i []).length≤1048576:=fun i h=>by have:=(hR i h).len;omega
 have rl:∀i,i<A.length→(A.getD i []).length=4:=fun i h=>(hR i h).len
 repeat'(first|refine wkQ ?_|refine Tw.f ?_ ?_|(refine fun(hc:(_:Bool)=_)=>?_;try simp only [hcS]at hc))
 all_goals try exact om_
 refine aH (G:={i:Nat//i≤A.length∧(True)}) (fun⟨i,_⟩=>[(14,iv i)]) [0,1,4,5,8,9,12,13] (fun⟨i,_⟩=>[(7,⟨1, .box [iv N, .sl 3, .sl 4, .sl 5, .sl 6]⟩),(3,⟨1, .arr (ints (bP A 0 i))⟩),(4,⟨1, .arr (ints (bP A 1 i))⟩),(5,⟨1, .arr (ints [])⟩),(6,⟨1, .arr (aE [])⟩)]) [3,4,5,6,7] (fun zz=>A.length-zz.1) ⟨0,Nat.zero_le _,by first|trivial|simp⟩ ?_ ?_
 ·exact Imp.au hX
 rintro⟨i,hii,hwi⟩
 simp only [go_sem,simprocAttr]
 have h1:=rl i
 repeat'(first|refine wkQ ?_|refine Tw.f ?_ ?_|(refine fun(hc:(_:Bool)=_)=>?_;try simp only [hcS]at hc))
 all_goals try exact om_
 ·refine⟨⟨i+1,by omega,(by trivial)⟩,by simp only;omega,Imp.auto hX (by simp only [go_sem,simprocAttr,kJ (show i<A.length by omega)])⟩
 obtain rfl:i=A.length:=by omega
 refine aH (G:={x:Nat//x≤N∧(True)}) (fun⟨x,_⟩=>[(15,iv x)]) [0,1,4,5,8,9,12,13] (fun⟨x,_⟩=>[(7,⟨1, .box [iv N, .sl 3, .sl 4, .sl 5, .sl 6]⟩),(3,⟨1, .arr (ints (bP A 0 A.length))⟩),(4,⟨1, .arr (ints (bP A 1 A.length))⟩),(5,⟨1, .arr (ints (tb x (bId A a b L R)))⟩),(6,⟨1, .arr (aE [])⟩)]) [3,4,5,6,7] (fun zz=>N-zz.1) ⟨0,Nat.zero_le _,by first|trivial|simp⟩ ?_ ?_
 ·exact Imp.au hX
 rintro⟨x,hix,hwx⟩
 simp only [go_sem,simprocAttr]
 have x1:=hLw x
 have x2:=hRw x
 have x3:=ha.idl
 have x4:=hb.idl
 have x5:=lM x (bId A a b L R)
 repeat'(first|refine wkQ ?_|refine Tw.f ?_ ?_|(refine kcQ xK ?_;refine krQ (aAZ ?_ ?_ ?_) ?_)|(refine fun(hc:(_:Bool)=_)=>?_;try simp only [hcS]at hc))
 all_goals try exact om_
 ·refine⟨⟨x+1,by omega,(by trivial)⟩,by simp only;omega,Imp.auto hX (by simp only [go_sem,simprocAttr,vI,bId])⟩
 obtain rfl:x=N:=by omega
 clear x1 x2 x3 x4 x5
 have g1:=ha.toShape.col
 have g2:=hb.toShape.col
 have g3:=fun u h1 h2=>ha.toShape.comp_row (f:=u) h1 h2
 have g4:=fun u h1 h2=>hb.toShape.comp_row (f:=u) h1 h2
 have hid:(nJ x A a b L R 0).id=tb x (bId A a b L R):=rfl
 rw [hid]
 obtain⟨n,hn1,hn2,hn3⟩:∃n,n=(if A.length≤40 then A.length else 0)∧(A.length≤40→n=A.length)∧(40<A.length→n=0):=⟨_,rfl,fun h=>if_pos h,fun h=>if_neg (by omega)⟩
 rw [←hn1]
 refine aH (G:={i:Nat//i≤n∧(True)}) (fun⟨i,_⟩=>[(16,iv i)]) [1,8,9,12,13] (fun⟨i,_⟩=>[(7,⟨1, .box [iv x, .sl 3, .sl 4, .sl 5, .sl 6]⟩),(3,⟨1, .arr (ints (bP A 0 A.length))⟩),(4,⟨1, .arr (ints (bP A 1 A.length))⟩),(5,⟨1, .arr (ints (tb x (bId A a b L R)))⟩),(6,⟨1, .arr (aE (tb i fun i=>tb A.length (aCA A a b i)))⟩)]) [3,4,5,6,7] (fun zz=>n-zz.1) ⟨0,Nat.zero_le _,by first|trivial|simp⟩ ?_ ?_
 ·exact Imp.au hX
 rintro⟨i,hii,hwi⟩
 simp only [go_sem,simprocAttr]
 have k1:=rl i
 have k2:=hR i
 have k3:=lM i fun i=>tb A.length (aCA A a b i)
 have k4:(nJ x A a b L R i).fr.length=A.length:=by simp [nJ,bP]
 have k5:(nJ x A a b L R i).ob=x:=rfl
 repeat'(first|refine wkQ ?_|refine Tw.f ?_ ?_|(refine kcQ cX ?_;refine krQ (sp_l02Fits (c:=nJ x A a b L R i) ?_) ?_)|(refine fun(hc:(_:Bool)=_)=>?_;try simp only [hcS]at hc))
 all_goals try exact om_
 ·refine aH (G:={j:Nat//j≤A.length∧(True)}) (fun⟨j,_⟩=>[(18,iv j),(17, .sl 8)]) [1,8,9,12,13,16,91,92] (fun⟨j,_⟩=>[(7,⟨1, .box [iv x, .sl 3, .sl 4, .sl 5, .sl 6]⟩),(3,⟨1, .arr (ints (bP A 0 A.length))⟩),(4,⟨1, .arr (ints (bP A 1 A.length))⟩),(5,⟨1, .arr (ints (tb x (bId A a b L R)))⟩),(6,⟨1, .arr (aE (tb i fun i=>tb A.length (aCA A a b i)))⟩),(8,⟨1, .arr (ints (tb j (aCA A a b i)))⟩)]) [3,4,5,6,7,8] (fun zz=>A.length-zz.1) ⟨0,Nat.zero_le _,by first|trivial|simp⟩ ?_ ?_
  ·exact Imp.au hX
  rintro⟨j,hij,hwj⟩
  simp only [go_sem,simprocAttr]
  have q0:=k2 (by omega)
  have q1:=q0.ul
  have q2:=q0.uh
  have q3:=q0.vl
  have q4:=q0.vh
  have q5:=g3 _ q1 q2
  have q6:=g4 _ q3 q4
  have p1:=rl j
  have p2:j<A.length→0≤(A.getD j []).getD 2 0∧(A.getD j []).getD 2 0<a.fr.length∧0≤(A.getD j []).getD 3 0∧(A.getD j []).getD 3 0<b.fr.length:=fun h=>⟨(hR j h).ul,(hR j h).uh,(hR j h).vl,(hR j h).vh⟩
  have p3:=lM j (aCA A a b i)
  repeat'(first|refine wkQ ?_|refine Tw.f ?_ ?_|(refine kcQ pG ?_;refine krQ (tB (c:=a) ?_ ?_ ?_ ?_) ?_)|(refine kcQ pG ?_;refine krQ (tB (c:=b) ?_ ?_ ?_ ?_) ?_)|(refine kcQ xK ?_;refine krQ (aAZ ?_ ?_ ?_) ?_)|(refine fun(hc:(_:Bool)=_)=>?_;try simp only [hcS]at hc))
  all_goals try exact om_
  ·refine⟨⟨j+1,by omega,(by trivial)⟩,by simp only;omega,Imp.auto hX (by simp only [go_sem,simprocAttr,vI,aMK hc])⟩
  ·refine⟨⟨j+1,by omega,(by trivial)⟩,by simp only;omega,Imp.auto hX (by simp only [go_sem,simprocAttr,vI,aML hc,zQ])⟩
  ·obtain rfl:j=A.length:=by omega
   refine⟨⟨i+1,by omega,(by trivial)⟩,by simp only;omega,Imp.auto hX (by simp only [go_sem,simprocAttr,vI])⟩
 ·obtain rfl:n=i:=by rw [k4,k5]at hc;omega
  (first|refine aB ?_|refine aA ?_);simp only [go_sem,simprocAttr,Tryz.f228]
  rfl
 ·obtain rfl:n=i:=by omega
  (first|refine aB ?_|refine aA ?_);simp only [go_sem,simprocAttr,Tryz.f228]
  rfl
end Go.Eng
end
