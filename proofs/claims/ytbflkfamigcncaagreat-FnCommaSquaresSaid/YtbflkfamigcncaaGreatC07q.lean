/- The reference's comma categories: the code. -/
import Derived.Test.YtbflkfamigcncaaGreatKix
import Derived.Test.YtbflkfamigcncaaGreatC02q
set_option linter.unusedSimpArgs false
set_option linter.unusedVariables false
set_option maxRecDepth 100000
set_option maxHeartbeats 16000000
namespace Go.Eng
open Go Go.Proofs Go.Cats
theorem kI {f e:Fun} {O:List (List Int)} (h:tG f e O) {k:Nat} (hk:k<3):∀i,i<O.length→k<(O.getD i []).length:=fun i hi=>by have:=(h i hi).len;omega
theorem tN:aF Tryz.prog 189:=⟨_,Tryz.func189,rfl,rfl⟩
theorem xS {f e:Fun} (hf:IsFun f) (he:IsFun e) (hT:f.tgt=e.tgt) (hO:(aK f e).length≤8):Spec Tryz.prog 189 [cK f,cK e] [] (.tup [.agg [iv (aK f e).length, .sl 0, .sl 1, .sl 2, .sl 3], .sl 4, .sl 5]) [(0,⟨1, .arr (ints (bP (cmA f e) 0 (cmA f e).length))⟩),(1,⟨1, .arr (ints (bP (cmA f e) 1 (cmA f e).length))⟩),(2,⟨1, .arr (ints (cmC f e 0).id)⟩),(3,⟨1, .arr (aE (cmC f e (if(cmA f e).length≤40 then(cmA f e).length else 0)).co)⟩),(4,⟨1, .arr (aE (aK f e))⟩),(5,⟨1, .arr (aE (cmA f e))⟩)]:=by
 refine aD (E:=TE) 0 Tryz.func189 rfl (by simp [Tryz.f189]) fun X hn hX=>?_
 have ok:=fG hf he hT
 have a1:=yV f e (aK f e)
 have a2:=aDv hf.src.m40 he.src.m40 hO
 have a3:=kI ok (k:=0) (by omega)
 have a4:=kI ok (k:=1) (by omega)
 have a5:=aM9 ok
 have a6:=aNa ok
 have a7:=aZ (aK f e) 0 (aK f e).length
 have a8:=aZ (aK f e) 1 (aK f e).length
 have a9:=hf.src
 have a10:=he.src
 repeat'(first|refine wkQ ?_|refine Tw.f ?_ ?_|(refine kcQ kW ?_;refine krQ (mL ?_ ?_) ?_)|(refine kcQ aBl ?_;refine krQ (aDc ?_ ?_ ?_ ?_ ?_) ?_)|(refine kcQ fK ?_;refine krQ (gF (k:=0) ?_ ?_) ?_)|(refine kcQ fK ?_;refine krQ (gF (k:=1) ?_ ?_) ?_)|(refine kcQ aCK ?_;refine krQ (aEs (a:=f.src) (b:=e.src) ?_ ?_ ?_ ?_ ?_ ?_ ?_ ?_ ?_) ?_)|(refine fun(hc:(_:Bool)=_)=>?_;try simp only [hcS]at hc))
 all_goals try exact om_
 (first|refine aB ?_|refine aA ?_);simp only [go_sem,simprocAttr,Tryz.f189]
 refine⟨rfl,rfl,rfl,rfl,rfl⟩
@[go_sem] theorem aO8:(Value.slice none 0 0).oneCell'=true:=rfl
theorem aIo (f e:Fun) (k:Nat):(cmC f e k).ob=(aK f e).length:=rfl
theorem aCL (f e:Fun) (k:Nat):(cmC f e k).fr.length=(cmA f e).length:=by simp [cmC,nJ,bP]
structure CYes (f e:Fun):Prop where
 src:IsFun f
 tgt:IsFun e
 one:f.tgt=e.tgt
 obs:(aK f e).length≤8
 ars:(cmA f e).length≤40
def CNo (f e:Fun) (c:Int):Prop:=
 (¬(IsFun f∧IsFun e)∧c=1)∨((IsFun f∧IsFun e)∧f.tgt≠e.tgt∧c=5)∨
 ((IsFun f∧IsFun e)∧f.tgt=e.tgt∧(8<(aK f e).length∨(aK f e).length≤8∧40<(cmA f e).length)∧c=3)
theorem fV:aF Tryz.prog 112:=⟨_,Tryz.func112,rfl,rfl⟩
theorem iS {f e:Fun} (hf:FunB f) (he:FunB e) (h:CYes f e):Spec Tryz.prog 112 [cK f,cK e] []
  (.tup [.agg [iv (aK f e).length, .sl 0, .sl 1, .sl 2, .sl 3], .sl 4, .sl 5,iv 0]) [(0,⟨1, .arr (ints (cmC f e 0).fr)⟩),(1,⟨1, .arr (ints (cmC f e 0).to)⟩),(2,⟨1, .arr (ints (cmC f e 0).id)⟩),(3,⟨1, .arr (aE (cmC f e (cmA f e).length).co)⟩),(4,⟨1, .arr (aE (aK f e))⟩),(5,⟨1, .arr (aE (cmA f e))⟩)]:=by
 refine aD (E:=TE) 0 Tryz.func112 rfl (by simp [Tryz.f112]) fun X hn hX=>?_
 obtain⟨h1,h2,h3,h4,h5⟩:=h
 have h6:IsFun f∧IsFun e:=⟨h1,h2⟩
 have f1:=hf.tgt
 have e1:=he.tgt
 have d1:(if dec (IsFun f∧IsFun e)=true then(0:Int)else 1)=0:=by rw [dQ h6];rfl
 repeat'(first|refine wkQ ?_|refine Tw.f ?_ ?_|(refine kcQ nQ ?_;refine krQ (rD ?_ ?_) ?_)|(refine kcQ pF ?_;refine krQ (tA (a:=f.tgt) (b:=e.tgt) ?_ ?_) ?_)|(refine kcQ kW ?_;refine krQ (mL ?_ ?_) ?_)|(refine kcQ tN ?_;refine krQ (xS ?_ ?_ ?_ ?_) ?_)|(refine kcQ cX ?_;refine krQ (sp_l02Fits (c:=cmC f e (if(cmA f e).length≤40 then(cmA f e).length else 0)) ?_) ?_)|(refine fun(hc:(_:Bool)=_)=>?_;try simp only [hcS]at hc))
 all_goals try exact om_
 ·exact absurd h3 hc
 ·rw [aCL];omega
 ·rw [aIo,aCL]at hc;omega
 ·rw [if_pos h5]
  (first|refine aB ?_|refine aA ?_);simp only [go_sem,simprocAttr,Tryz.f112]
  refine⟨rfl,rfl⟩
theorem mK {f e:Fun} {c:Int} (hf:FunB f) (he:FunB e) (h:CNo f e c):Spec Tryz.prog 112 [cK f,cK e] []
  (.tup [.agg [iv 0, .v (.slice none 0 0), .v (.slice none 0 0), .v (.slice none 0 0), .v (.slice none 0 0)], .v (.slice none 0 0), .v (.slice none 0 0),iv c]) []:=by
 refine aD (E:=TE) 0 Tryz.func112 rfl (by simp [Tryz.f112]) fun X hn hX=>?_
 have f1:=hf.tgt
 have e1:=he.tgt
 rcases h with⟨h6,rfl⟩|⟨h6,h7,rfl⟩|⟨h6,h7,h8,rfl⟩
 ·have d1:(if dec (IsFun f∧IsFun e)=true then(0:Int)else 1)=1:=by rw [kY h6];rfl
  repeat'(first|refine wkQ ?_|refine Tw.f ?_ ?_|(refine kcQ nQ ?_;refine krQ (rD ?_ ?_) ?_)|(refine fun(hc:(_:Bool)=_)=>?_;try simp only [hcS]at hc))
  all_goals try exact om_
  ·(first|refine aB ?_|refine aA ?_);simp only [go_sem,simprocAttr,Tryz.f112]
   rw [d1]
 ·have d1:(if dec (IsFun f∧IsFun e)=true then(0:Int)else 1)=0:=by rw [dQ h6];rfl
  repeat'(first|refine wkQ ?_|refine Tw.f ?_ ?_|(refine kcQ nQ ?_;refine krQ (rD ?_ ?_) ?_)|(refine kcQ pF ?_;refine krQ (tA (a:=f.tgt) (b:=e.tgt) ?_ ?_) ?_)|(refine fun(hc:(_:Bool)=_)=>?_;try simp only [hcS]at hc))
  all_goals try exact om_
  ·(first|refine aB ?_|refine aA ?_);simp only [go_sem,simprocAttr,Tryz.f112]
  ·exact absurd hc h7
 ·have d1:(if dec (IsFun f∧IsFun e)=true then(0:Int)else 1)=0:=by rw [dQ h6];rfl
  have g1:=h6.1
  have g2:=h6.2
  have a2:=fun h=>aDv (O:=aK f e) g1.src.m40 g2.src.m40 h
  repeat'(first|refine wkQ ?_|refine Tw.f ?_ ?_|(refine kcQ nQ ?_;refine krQ (rD ?_ ?_) ?_)|(refine kcQ pF ?_;refine krQ (tA (a:=f.tgt) (b:=e.tgt) ?_ ?_) ?_)|(refine kcQ kW ?_;refine krQ (mL ?_ ?_) ?_)|(refine kcQ tN ?_;refine krQ (xS ?_ ?_ ?_ ?_) ?_)|(refine kcQ cX ?_;refine krQ (sp_l02Fits (c:=cmC f e (if(cmA f e).length≤40 then(cmA f e).length else 0)) ?_) ?_)|(refine fun(hc:(_:Bool)=_)=>?_;try simp only [hcS]at hc))
  all_goals try exact om_
  ·exact absurd h7 hc
  ·(first|refine aB ?_|refine aA ?_);simp only [go_sem,simprocAttr,Tryz.f112]
  ·have:=a2 (by omega)
   have e:(cmA f e).length=(kF f e (aK f e)).length:=rfl
   rw [aCL];omega
  ·(first|refine aB ?_|refine aA ?_);simp only [go_sem,simprocAttr,Tryz.f112]
  ·rw [aIo,aCL]at hc;omega
theorem iG:aF Tryz.prog 46:=⟨_,Tryz.func46,rfl,rfl⟩
theorem lQ {f e:Fun} (hf:FunB f) (he:FunB e) (h:CYes f e):Spec Tryz.prog 46 [cK f,cK e] []
  (.tup [.agg [iv (aK f e).length, .sl 0, .sl 1, .sl 2, .sl 3],iv 0]) [(0,⟨1, .arr (ints (cmC f e 0).fr)⟩),(1,⟨1, .arr (ints (cmC f e 0).to)⟩),(2,⟨1, .arr (ints (cmC f e 0).id)⟩),(3,⟨1, .arr (aE (cmC f e (cmA f e).length).co)⟩)]:=by
 refine aD (E:=TE) 0 Tryz.func46 rfl (by simp [Tryz.f46]) fun X hn hX=>?_
 repeat'(first|refine wkQ ?_|refine Tw.f ?_ ?_|(refine kcQ fV ?_;refine ksQ (a:=iS (by first|omega|assumption|rfl) (by first|omega|assumption|rfl) (by first|omega|assumption|rfl)) (c:=?_))|(refine fun(hc:(_:Bool)=_)=>?_;try simp only [hcS]at hc))
 all_goals try exact om_
 (first|refine aB ?_|refine aA ?_);simp only [go_sem,simprocAttr,Tryz.f46]
theorem mM {f e:Fun} {c:Int} (hf:FunB f) (he:FunB e) (h:CNo f e c):Spec Tryz.prog 46 [cK f,cK e] []
  (.tup [.agg [iv 0, .v (.slice none 0 0), .v (.slice none 0 0), .v (.slice none 0 0), .v (.slice none 0 0)],iv c]) []:=by
 refine aD (E:=TE) 0 Tryz.func46 rfl (by simp [Tryz.f46]) fun X hn hX=>?_
 repeat'(first|refine wkQ ?_|refine Tw.f ?_ ?_|(refine kcQ fV ?_;refine ksQ (a:=mK (by first|omega|assumption|rfl) (by first|omega|assumption|rfl) (by first|omega|assumption|rfl)) (c:=?_))|(refine fun(hc:(_:Bool)=_)=>?_;try simp only [hcS]at hc))
 all_goals try exact om_
 (first|refine aB ?_|refine aA ?_);simp only [go_sem,simprocAttr,Tryz.f46]
end Go.Eng
