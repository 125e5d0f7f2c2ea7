/- Several texts in one: O08, K01, K02. -/
import Derived.Test.YthgijhnmcglppaaGreatKciy
import Derived.Test.YthgijhnmcglppaaGreatKjy
import Derived.Test.YthgijhnmcglppaaGreatO07q
set_option linter.unusedSimpArgs false
set_option linter.unusedVariables false
set_option maxRecDepth 100000
set_option maxHeartbeats 16000000
section
namespace Go.Eng
open Go Go.Proofs Go.Cats
section
variable (c:Cat) (x:Int)
@[go_sem] theorem aD9:(c.rep x).shape=c:=rfl
end
theorem aBy:aD Tryz.prog 120:=⟨_,Tryz.func120,rfl,rfl⟩
theorem aEg {c:Cat} {x:Int} (hs:Shape c) (hb:CatB c):Spec Tryz.prog 120 [cK c,iv x] [] (.agg [iv c.ob, .sl 0, .sl 1, .sl 2, .sl 3, .sl 4, .sl 5]) [(0,⟨1, .arr (ints c.fr)⟩),(1,⟨1, .arr (ints c.to)⟩),(2,⟨1, .arr (ints c.id)⟩),(3,⟨1, .arr (aF c.co)⟩),(4,⟨1, .arr (ints (c.rep x).sizes)⟩),(5,⟨1, .arr (aF (c.rep x).acts)⟩)]:=by
 refine aC (E:=TE) 0 Tryz.func120 rfl (by simp [Tryz.f120]) fun X hn hX=>?_
 repeat'(first|refine wkQ ?_|refine Tw.f ?_ ?_|(refine kcQ aFI ?_;refine krQ (aIb (x:=x) ?_ ?_) ?_)|(refine fun(hc:(_:Bool)=_)=>?_;try simp only [hcS]at hc))
 all_goals try exact om_
 (first|refine aB ?_|refine aA ?_);simp only [go_sem,simprocAttr,Tryz.f120]
theorem mF:aD Tryz.prog 40:=⟨_,Tryz.func40,rfl,rfl⟩
theorem aC9 {m:SM} {x:Int} (hb:SMB m):Spec Tryz.prog 40 [smV m,iv x] [] (.tup [iv (m.elemR x).1,iv (m.elemR x).2]) []:=by
 refine aC (E:=TE) 0 Tryz.func40 rfl (by simp [Tryz.f40]) fun X hn hX=>?_
 have hbs:=hb.src
 have hbc:=hbs.shape
 have hrow:=hb.row x.toNat
 by_cases hm:IsSM m
 ·have hS:=hm.src.cat.toShape
  have hR:=Cat.rep_sfb hS hbc x
  have hl:=m.src.shape.hom_len x x
  have h40:=hS.m40
  have htl:=hS.tol
  have hid:=fun k=>Cat.id_place hS (x:=x) k
  have hel:=fun k e=>SM.elem_row hm (x:=x) k e
  by_cases hsm:m.src.shape.small x
  ·repeat'(first|refine wkQ ?_|refine Tw.f ?_ ?_|(refine kcQ eV ?_;refine krQ (fJ ?_) ?_)|(refine kcQ gQ ?_;refine krQ (iU) ?_)|(refine kcQ aU ?_;refine kwQ (bR (x:=x) hS hbc hsm) [(0,1),(1,2),(2,3),(3,4),(4,5),(5,6)] [0] ?_)|(refine kcQ vV ?_;refine kwQ (aAp (f:=m.src.shape.rep x) (g:=m.src) hR hbs) [] [7,1,2,3,4,5,6,0] ?_)|(refine kcQ cG ?_;refine kwQ (cS (c:=m.src.shape) (x:=x) (y:=x) (by omega) htl) [(0,8)] [0] ?_)|(refine kcQ fW ?_;refine krQ (jU ?_) ?_)|(refine fun(hc:(_:Bool)=_)=>?_;try simp only [hcS]at hc))
   all_goals try exact om_
   ·exact absurd hm hc
   ·have:=hbc.ob1;have:=hS.ob0;omega
   ·have:=hbc.ob2;omega
   ·(first|refine aB ?_|refine aA ?_);simp only [go_sem,simprocAttr,Tryz.f40]
    rw [SM.elemR_2 hm (fun q=>hc ⟨q.1,by omega⟩)]
   ·(first|refine aB ?_|refine aA ?_);simp only [go_sem,simprocAttr,Tryz.f40]
    rw [SM.elemR_5 hm ⟨by omega,by omega⟩ (fun q=>hc q.2.symm)]
   all_goals try(have k:=hel ⟨by omega,by omega⟩ (by symm;assumption);have k2:=hid ⟨by omega,by omega⟩;omega)
   ·(first|refine aB ?_|refine aA ?_);simp only [go_sem,simprocAttr,Tryz.f40]
    rw [SM.elemR_0 hm ⟨by omega,by omega⟩ ⟨hsm,by symm;assumption⟩]
  ·repeat'(first|refine wkQ ?_|refine Tw.f ?_ ?_|(refine kcQ eV ?_;refine krQ (fJ ?_) ?_)|(refine kcQ gQ ?_;refine krQ (iU) ?_)|(refine kcQ aU ?_;refine kwQ (cB (x:=x) hS hbc hsm) [] [0] ?_)|(refine fun(hc:(_:Bool)=_)=>?_;try simp only [hcS]at hc))
   all_goals try exact om_
   ·exact absurd hm hc
   ·have:=hbc.ob1;have:=hS.ob0;omega
   ·have:=hbc.ob2;omega
   ·(first|refine aB ?_|refine aA ?_);simp only [go_sem,simprocAttr,Tryz.f40]
    rw [SM.elemR_2 hm (fun q=>hc ⟨q.1,by omega⟩)]
   ·(first|refine aB ?_|refine aA ?_);simp only [go_sem,simprocAttr,Tryz.f40]
    rw [SM.elemR_5 hm ⟨by omega,by omega⟩ (fun q=>hsm q.1)]
 ·repeat'(first|refine wkQ ?_|refine Tw.f ?_ ?_|(refine kcQ eV ?_;refine krQ (fJ ?_) ?_)|(refine fun(hc:(_:Bool)=_)=>?_;try simp only [hcS]at hc))
  all_goals try exact om_
  ·(first|refine aB ?_|refine aA ?_);simp only [go_sem,simprocAttr,Tryz.f40]
   rw [SM.elemR_1 hm]
  all_goals exact absurd (by assumption) hm
end Go.Eng
end
section
namespace Go.Eng
open Go Go.Proofs Go.Cats
attribute [local go_sem] List.set_cons_zero List.set_cons_succ
theorem pF:aD Tryz.prog 114:=⟨_,Tryz.func114,rfl,rfl⟩
theorem rY {c:Cat} {f:Int}:Spec Tryz.prog 114 [cK c,iv f] [] (bv (dec (0≤f∧f<c.fr.length))) []:=by
 refine aC (E:=TE) 0 Tryz.func114 rfl (by simp [Tryz.f114]) fun X hn hX=>?_
 repeat'(first|refine wkQ ?_|refine Tw.f ?_ ?_|(refine fun(hc:(_:Bool)=_)=>?_;try simp only [hcS]at hc))
 all_goals try exact om_
 ·(first|refine aB ?_|refine aA ?_);simp only [go_sem,simprocAttr,Tryz.f114]
  exact congrArg (fun b=>Sv.v (.bool b)) (by rw [←nZ];exact bU ⟨fun h=>⟨by assumption,h⟩,fun h=>h.2⟩)
 ·(first|refine aB ?_|refine aA ?_);simp only [go_sem,simprocAttr,Tryz.f114]
  exact cD (fun h=>by omega)
theorem aDq:aD Tryz.prog 42:=⟨_,Tryz.func42,rfl,rfl⟩
theorem aGU {c:Cat} {f g:Int} (s:Shape c) (f0:0≤f) (f1:f<c.fr.length) (g0:0≤g) (g1:g<c.fr.length):Spec Tryz.prog 42 [cK c,iv f,iv g] [] (iv (c.C f g)) []:=by
 refine aC (E:=TE) 0 Tryz.func42 rfl (by simp [Tryz.f42]) fun X hn hX=>?_
 have h1:=s.col
 have h2:=(s.coe f.toNat (by omega)).1
 repeat'(first|refine wkQ ?_|refine Tw.f ?_ ?_|(refine fun(hc:(_:Bool)=_)=>?_;try simp only [hcS]at hc))
 all_goals try exact om_
 all_goals try(exfalso;omega)
 (first|refine aB ?_|refine aA ?_);simp only [go_sem,simprocAttr,Tryz.f42]
theorem aRM {f g:SF} (a:f.shape=g.shape) (b:f.sizes=g.sizes) (c:f.acts=g.acts):f=g:=by
 cases f;cases g;simp only at a b c;subst a;subst b;subst c;rfl
theorem aRQ {f g:SM} (a:f.src=g.src) (b:f.tgt=g.tgt) (c:f.parts=g.parts):f=g:=by
 cases f;cases g;simp only at a b c;subst a;subst b;subst c;rfl
theorem tP:aD Tryz.prog 50:=⟨_,Tryz.func50,rfl,rfl⟩
theorem xS {f g:SF} (hf:SFB f) (hg:SFB g):Spec Tryz.prog 50 [sfV f,sfV g] [] (bv (dec (f=g))) []:=by
 refine aC (E:=TE) 0 Tryz.func50 rfl (by simp [Tryz.f50]) fun X hn hX=>?_
 have f1:=hf.shape
 have f2:=hf.sizes
 have f3:=hf.acts
 have f4:=hf.row
 have g1:=hg.shape
 have g2:=hg.sizes
 have g3:=hg.acts
 have g4:=hg.row
 repeat'(first|refine wkQ ?_|refine Tw.f ?_ ?_|(refine kcQ vU ?_;refine krQ (aAo ?_ ?_) ?_)|(refine kcQ lL ?_;refine krQ (nU ?_ ?_) ?_)|(refine kcQ uG ?_;refine krQ (zI ?_ ?_ ?_ ?_) ?_)|(refine fun(hc:(_:Bool)=_)=>?_;try simp only [hcS]at hc))
 all_goals try exact om_
 ·(first|refine aB ?_|refine aA ?_);simp only [go_sem,simprocAttr,Tryz.f50]
  exact congrArg bv (bU ⟨fun h=>aRM (by assumption) (by assumption) h,fun h=>congrArg SF.acts h⟩)
 ·(first|refine aB ?_|refine aA ?_);simp only [go_sem,simprocAttr,Tryz.f50]
  exact cD (fun h=>hc (congrArg SF.sizes h))
 ·(first|refine aB ?_|refine aA ?_);simp only [go_sem,simprocAttr,Tryz.f50]
  exact cD (fun h=>hc (congrArg SF.shape h))
theorem jL:aD Tryz.prog 39:=⟨_,Tryz.func39,rfl,rfl⟩
theorem kW {f g:SM} (hf:SMB f) (hg:SMB g):Spec Tryz.prog 39 [smV f,smV g] [] (bv (dec (f=g))) []:=by
 refine aC (E:=TE) 0 Tryz.func39 rfl (by simp [Tryz.f39]) fun X hn hX=>?_
 have f1:=hf.src
 have f2:=hf.tgt
 have f3:=hf.parts
 have f4:=hf.row
 have g1:=hg.src
 have g2:=hg.tgt
 have g3:=hg.parts
 have g4:=hg.row
 repeat'(first|refine wkQ ?_|refine Tw.f ?_ ?_|(refine kcQ tP ?_;refine krQ (xS (f:=f.src) (g:=g.src) ?_ ?_) ?_)|(refine kcQ tP ?_;refine krQ (xS (f:=f.tgt) (g:=g.tgt) ?_ ?_) ?_)|(refine kcQ uG ?_;refine krQ (zI ?_ ?_ ?_ ?_) ?_)|(refine fun(hc:(_:Bool)=_)=>?_;try simp only [hcS]at hc))
 all_goals try exact om_
 ·(first|refine aB ?_|refine aA ?_);simp only [go_sem,simprocAttr,Tryz.f39]
  exact congrArg bv (bU ⟨fun h=>aRQ (by assumption) (by assumption) h,fun h=>congrArg SM.parts h⟩)
 ·(first|refine aB ?_|refine aA ?_);simp only [go_sem,simprocAttr,Tryz.f39]
  exact cD (fun h=>hc (congrArg SM.tgt h))
 ·(first|refine aB ?_|refine aA ?_);simp only [go_sem,simprocAttr,Tryz.f39]
  exact cD (fun h=>hc (congrArg SM.src h))
def thP (s t:List (List Int)) (i:Nat):List (List Int):=(List.range i).map fun x=>thn (s.getD x []) (t.getD x [])
theorem aN1 (s t:List (List Int)):thP s t 0=[]:=rfl
theorem aN0 (s t:List (List Int)) (i:Nat):thP s t (i+1)=thP s t i++[thn (s.getD i []) (t.getD i [])]:=by unfold thP;rw [List.range_succ,List.map_append];rfl
theorem aJA (s t:List (List Int)) (i:Nat):(thP s t i).length=i:=by unfold thP;rw [List.length_map,List.length_range]
attribute [local go_sem] aN1
theorem aC3:aD Tryz.prog 127:=⟨_,Tryz.func127,rfl,rfl⟩
theorem aE9 {s t:List (List Int)} (hs:s.length≤1048576) (ht:t.length=s.length) (hr:∀i,i<s.length→(s.getD i []).length≤1048576∧(t.getD i []).length≤1048576∧Within (s.getD i []) (t.getD i []).length):Spec Tryz.prog 127 [.bor [] (aF s), .bor [] (aF t)] [] (.sl 0) [(0,⟨1, .arr (aF (thP s t s.length))⟩)]:=by
 refine aC (E:=TE) 0 Tryz.func127 rfl (by simp [Tryz.f127]) fun X hn hX=>?_
 repeat'(first|refine wkQ ?_|refine Tw.f ?_ ?_|(refine fun(hc:(_:Bool)=_)=>?_;try simp only [hcS]at hc))
 all_goals try exact om_
 refine aG (G:={i:Nat//i≤s.length∧(True)}) (fun⟨i,_⟩=>[(10,iv i),(5, .sl 0)]) [0,1,4,9] (fun⟨i,_⟩=>[(0,⟨1, .arr (aF (thP s t i))⟩)]) [0] (fun zz=>s.length-zz.1) ⟨0,Nat.zero_le _,by first|trivial|simp⟩ ?_ ?_
 ·exact Imp.au hX
 rintro⟨i,hii,hwi⟩
 simp only [go_sem,simprocAttr]
 have hl:=aJA s t i
 rcases Nat.lt_or_ge i s.length with hlt|hge
 ·obtain⟨r1,r2,r3⟩:=hr i hlt
  have e1:=aN0 s t i
  repeat'(first|refine wkQ ?_|refine Tw.f ?_ ?_|(refine kcQ aBB ?_;refine krQ (aE8 (f:=s.getD i []) (g:=t.getD i []) ?_ ?_ ?_) ?_)|(refine fun(hc:(_:Bool)=_)=>?_;try simp only [hcS]at hc))
  all_goals try exact om_
  all_goals try(exfalso;omega)
  refine⟨⟨i+1,by omega,(by trivial)⟩,by simp only;omega,Imp.auto hX (by simp only [go_sem,simprocAttr,e1])⟩
 ·obtain rfl:i=s.length:=by omega
  repeat'(first|refine wkQ ?_|refine Tw.f ?_ ?_|(refine fun(hc:(_:Bool)=_)=>?_;try simp only [hcS]at hc))
  all_goals try exact om_
  all_goals try(exfalso;omega)
  (first|refine aB ?_|refine aA ?_);simp only [go_sem,simprocAttr,Tryz.f127]
end Go.Eng
end
section
namespace Go.Eng
open Go Go.Proofs Go.Cats
attribute [local go_sem] List.set_cons_zero List.set_cons_succ
def AC (c:Cat) (l:List Int) (code:Int):Prop:=(¬IsCat c∧code=1)∨(IsCat c∧¬Within l c.fr.length∧code=2)∨(IsCat c∧Within l c.fr.length∧code=0)
theorem iF:aD Tryz.prog 110:=⟨_,Tryz.func110,rfl,rfl⟩
theorem fZ {c:Cat} {l:List Int} {code:Int} (hb:CatB c) (hl:l.length≤1048576) (h:AC c l code):Spec Tryz.prog 110 [.bptr [] (aW c), .bor [] (ints l)] [] (iv code) []:=by
 refine aC (E:=TE) 0 Tryz.func110 rfl (by simp [Tryz.f110]) fun X hn hX=>?_
 rcases h with⟨h1,rfl⟩|⟨h1,h2,rfl⟩|⟨h1,h2,rfl⟩
 ·repeat'(first|refine wkQ ?_|refine Tw.f ?_ ?_|(refine kcQ bH ?_;refine krQ (bL ?_) ?_)|(refine kcQ cM ?_;refine krQ (dJ ?_ ?_) ?_)|(refine kcQ aQ ?_;refine krQ (aS) ?_)|(refine fun(hc:(_:Bool)=_)=>?_;try simp only [hcS]at hc))
  all_goals try exact om_
  ·(first|refine aB ?_|refine aA ?_);simp only [go_sem,simprocAttr,Tryz.f110]
  all_goals exact absurd (by assumption) h1
 ·have m40:=h1.toShape.m40
  repeat'(first|refine wkQ ?_|refine Tw.f ?_ ?_|(refine kcQ bH ?_;refine krQ (bL ?_) ?_)|(refine kcQ cM ?_;refine krQ (dJ ?_ ?_) ?_)|(refine kcQ aQ ?_;refine krQ (aS) ?_)|(refine fun(hc:(_:Bool)=_)=>?_;try simp only [hcS]at hc))
  all_goals try exact om_
  all_goals try exact absurd h1 (by assumption)
  all_goals try exact absurd (by assumption) h2
  all_goals((first|refine aB ?_|refine aA ?_);simp only [go_sem,simprocAttr,Tryz.f110])
 ·have m40:=h1.toShape.m40
  repeat'(first|refine wkQ ?_|refine Tw.f ?_ ?_|(refine kcQ bH ?_;refine krQ (bL ?_) ?_)|(refine kcQ cM ?_;refine krQ (dJ ?_ ?_) ?_)|(refine kcQ aQ ?_;refine krQ (aS) ?_)|(refine fun(hc:(_:Bool)=_)=>?_;try simp only [hcS]at hc))
  all_goals try exact om_
  all_goals try exact absurd h1 (by assumption)
  all_goals try exact absurd h2 (by assumption)
  all_goals((first|refine aB ?_|refine aA ?_);simp only [go_sem,simprocAttr,Tryz.f110])
def arR (c:Cat) (h:Int) (z i:Nat):List Int:=((c.hom (c.T h) z).take i).map fun k=>idxOf (c.hom (c.F h) z) (c.C h k)
theorem aFz (c:Cat) (h:Int) (z:Nat):arR c h z 0=[]:=rfl
theorem aFx (c:Cat) (h:Int) (z:Nat):arR c h z (c.hom (c.T h) z).length=nH c h z:=by unfold arR nH;rw [List.take_length]
theorem aIw {c:Cat} {h:Int} {z i:Nat}:(arR c h z i).length≤i:=by unfold arR;rw [List.length_map,List.length_take];omega
theorem aFy {c:Cat} {h:Int} {z i:Nat} (hi:i<(c.hom (c.T h) z).length):arR c h z (i+1)=arR c h z i++[idxOf (c.hom (c.F h) z) (c.C h ((c.hom (c.T h) z).getD i 0))]:=by
 unfold arR
 rw [List.take_succ_eq_append_getElem hi,List.map_append,List.getD_eq_getElem?_getD,List.getElem?_eq_getElem hi];rfl
theorem aFw (c:Cat) (h:Int):arP c h 0=[]:=rfl
attribute [local go_sem] aFz aFw
theorem oH:aD Tryz.prog 113:=⟨_,Tryz.func113,rfl,rfl⟩
theorem pT {c:Cat} {h:Int} (s:IsCat c) (h0:0≤h) (h1:h<c.fr.length):Spec Tryz.prog 113 [.bptr [] (aW c),iv h] [] (.sl 0) [(0,⟨1, .arr (aF (arP c h c.ob.toNat))⟩)]:=by
 refine aC (E:=TE) 0 Tryz.func113 rfl (by simp [Tryz.f113]) fun X hn hX=>?_
 have o0:=s.toShape.ob0
 have o8:=s.toShape.ob8
 have m40:=s.toShape.m40
 have tl:=s.toShape.tol
 have cl:=s.toShape.col
 have hF:c.fr.getD h.toNat 0=c.F h:=rfl
 have hT:c.to.getD h.toNat 0=c.T h:=rfl
 repeat'(first|refine wkQ ?_|refine Tw.f ?_ ?_|(refine fun(hc:(_:Bool)=_)=>?_;try simp only [hcS]at hc))
 all_goals try exact om_
 refine aG (G:={z:Nat//z≤c.ob.toNat∧(True)}) (fun⟨z,_⟩=>[(6,iv z),(5, .sl 0)]) [0,1,4] (fun⟨z,_⟩=>[(0,⟨1, .arr (aF (arP c h z))⟩)]) [0] (fun zz=>c.ob.toNat-zz.1) ⟨0,Nat.zero_le _,by first|trivial|simp⟩ ?_ ?_
 ·exact Imp.au hX
 rintro⟨z,hiz,hwz⟩
 simp only [go_sem,simprocAttr]
 have pl:=pC (c:=c) (h:=h) (n:=z)
 rcases Nat.lt_or_ge z c.ob.toNat with hlz|hgz
 ·have l1:=c.hom_len (c.F h) z
  have l2:=c.hom_len (c.T h) z
  have hA:=cS (c:=c) (x:=c.F h) (y:=(z:Int)) (by omega) tl
  have hB:=cS (c:=c) (x:=c.T h) (y:=(z:Int)) (by omega) tl
  have e1:=aFv (c:=c) (h:=h) (n:=z)
  repeat'(first|refine wkQ ?_|refine Tw.f ?_ ?_|(refine kcQ cG ?_;refine kwQ (hA) [(0,1)] [] ?_;clear hA)|(refine kcQ cG ?_;refine kwQ (hB) [(0,3)] [] ?_)|(refine fun(hc:(_:Bool)=_)=>?_;try simp only [hcS]at hc))
  all_goals try exact om_
  all_goals try(exfalso;omega)
  refine aG (G:={i:Nat//i≤(c.hom (c.T h) z).length∧(True)}) (fun⟨i,_⟩=>[(42,iv i),(8, .sl 2)]) [0,1,4,5,6,7,40,41] (fun⟨i,_⟩=>[(2,⟨1, .arr (ints (arR c h z i))⟩)]) [2] (fun zz=>(c.hom (c.T h) z).length-zz.1) ⟨0,Nat.zero_le _,by first|trivial|simp⟩ ?_ ?_
  ·exact Imp.au hX
  rintro⟨i,hii,hwi⟩
  simp only [go_sem,simprocAttr]
  have rl:=aIw (c:=c) (h:=h) (z:=z) (i:=i)
  rcases Nat.lt_or_ge i (c.hom (c.T h) z).length with hli|hgi
  ·have e2:=aFy hli
   obtain⟨k0,k1,k2,k3⟩:=Cat.mem_hom.1 (Cat.at_mem hli)
   have r1:=(s.toShape.coe h.toNat (by omega)).1
   have hI:=jU (l:=c.hom (c.F h) z) (n:=c.C h ((c.hom (c.T h) z).getD i 0)) (by omega)
   repeat'(first|refine wkQ ?_|refine Tw.f ?_ ?_|(refine kcQ cL ?_;refine krQ (dA (c:=c) ?_ ?_ ?_ ?_) ?_)|(refine kcQ fW ?_;refine kwQ (hI) [] [1] ?_)|(refine fun(hc:(_:Bool)=_)=>?_;try simp only [hcS]at hc))
   all_goals try exact om_
   all_goals try(exfalso;omega)
   refine⟨⟨i+1,by omega,(by trivial)⟩,by simp only;omega,Imp.auto hX (by simp only [go_sem,simprocAttr,e2])⟩
  ·obtain rfl:i=(c.hom (c.T h) z).length:=by omega
   have e2:=aFx c h z
   repeat'(first|refine wkQ ?_|refine Tw.f ?_ ?_|(refine fun(hc:(_:Bool)=_)=>?_;try simp only [hcS]at hc))
   all_goals try exact om_
   all_goals try(exfalso;omega)
   refine⟨⟨z+1,by omega,(by(trivial))⟩,by simp only;omega,Imp.auto hX (by simp only [go_sem,simprocAttr,e1,e2])⟩
 ·obtain rfl:z=c.ob.toNat:=by omega
  repeat'(first|refine wkQ ?_|refine Tw.f ?_ ?_|(refine fun(hc:(_:Bool)=_)=>?_;try simp only [hcS]at hc))
  all_goals try exact om_
  all_goals try(exfalso;omega)
  (first|refine aB ?_|refine aA ?_);simp only [go_sem,simprocAttr,Tryz.f113]
end Go.Eng
end
