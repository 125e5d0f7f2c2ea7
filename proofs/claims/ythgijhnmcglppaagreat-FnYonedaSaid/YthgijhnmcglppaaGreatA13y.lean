/- Several texts in one: A13, A14, A15. -/
import Derived.Test.YthgijhnmcglppaaGreatA10q
set_option linter.unusedSimpArgs false
set_option linter.unusedVariables false
set_option maxRecDepth 100000
set_option maxHeartbeats 16000000
section
namespace Go.Eng
open Go Go.Proofs Go.Cats
attribute [local go_sem] List.set_cons_succ List.set_cons_zero iK
theorem aCr {f g:SF} {O:List (List (List Int))} {M:Nat} (hM:M≤4096) (h:SPair f g) (hO:O.length≤M):Spec Tryz.prog 223 [.bptr [] (sfD f), .bptr [] (sfD g), .v (.bool false), .fn 224 [.ptr 4 0, .ptr 5 0]] [(4,⟨1, .bx [.dead] 0 (aU O)⟩),(5,⟨1, .box [iv M]⟩)] (bv (eat (stB M) O (allM f g false)).1) [(4,⟨1, .bx [.dead] 0 (aU ((eat (stB M) O (allM f g false)).2))⟩),(5,⟨1, .box [iv M]⟩)]:=by
 refine aD (E:=TE) 6 Tryz.func223 rfl (by simp [Tryz.f223]) fun X hn hX=>?_
 have h1:=h.src.szl
 have h2:=h.src.cat.ob8
 have hrun:=kQ hM h (nu (fC f.sizes)+1) O (fC f.sizes) (tW false h) (by omega) hO
 repeat'(first|(refine cZ 2 (Imp.adoptBs 6 3 1 _ rfl rfl rfl (by rw [hX];rfl)) ?_;simp only [go_sem,simprocAttr])|(with_reducible first|refine St.f ?_|refine V_c ?_|refine eDn ?_|refine And.intro ?_ ?_|refine aJ ?_ ?_|refine aQ ?_)|((refine aT ?_);intro K hK)|((with_reducible refine So.f ?_);intro K hK;simp(contextual:=true)only [go_sem,simprocAttr])|((with_reducible refine hK _ ?_);clear hK K)|(refine fun(hc:(_:Bool)=_)=>?_;try simp only [hcS]at hc))
 all_goals try exact om_
 refine aH (G:={x:Nat//x≤f.sizes.length∧(True)}) (fun⟨x,_⟩=>[(23,iv x),(9, .ptr 6 0)]) [8,21,22] (fun⟨x,_⟩=>[(6,⟨1, .box [.bptr [] (sfD f), .bptr [] (sfD g), .v (.bool false), .sl 7, .fn 224 [.ptr 4 0, .ptr 5 0]]⟩),(7,⟨1, .arr (aC (fC (f.sizes.take x)))⟩)]) [6,7] (fun zz=>f.sizes.length-zz.1) ⟨0,Nat.zero_le _,by first|trivial|simp⟩ ?_ ?_
 ·exact Imp.au hX
 rintro⟨x,hix,hwx⟩
 simp only [go_sem,simprocAttr]
 have h3:=h.src.szw x
 have h4:=aBb (f.sizes.take x)
 have h5:=List.length_take_le x f.sizes
 rcases Nat.lt_or_ge x f.sizes.length with hlt|hge
 ·repeat'(first|refine wkQ ?_|refine Tw.f ?_ ?_|(refine kcQ aBP ?_;refine krQ (aDV (x:=-1) (n:=f.sizes.getD x 0) ?_ ?_) ?_)|(refine fun(hc:(_:Bool)=_)=>?_;try simp only [hcS]at hc))
  all_goals try exact om_
  ·refine⟨⟨x+1,by omega,(by trivial)⟩,by simp only;omega,Imp.auto hX (by simp only [go_sem,simprocAttr,aEO hlt])⟩
 ·repeat'(first|(refine cZ 7 (Imp.refl _ _) ?_;rw [show f.sizes.take x=f.sizes from List.take_of_length_le hge])|(with_reducible first|refine St.f ?_|refine V_c ?_|refine eDn ?_|refine And.intro ?_ ?_|refine aJ ?_ ?_|refine aQ ?_)|((refine aT ?_);intro K hK)|((with_reducible refine So.f ?_);intro K hK;simp(contextual:=true)only [go_sem,simprocAttr])|((with_reducible refine hK _ ?_);clear hK K)|((with_reducible refine aG 284 ?_);refine EvCall.mr (hrun) lC [(0,6),(1,7),(4,4),(5,5)] [] ?_)|(refine fun(hc:(_:Bool)=_)=>?_;try simp only [hcS]at hc))
  all_goals try exact om_
  ·(first|refine aB ?_|refine aA ?_);simp only [go_sem,simprocAttr,Tryz.f223]
   exact⟨rfl,rfl⟩
end Go.Eng
end
section
namespace Go.Eng
open Go Go.Proofs Go.Cats
attribute [local go_sem] List.set_cons_succ List.set_cons_zero iK
theorem xM:aE Tryz.prog 138:=⟨_,Tryz.func138,rfl,rfl⟩
theorem aAD {f g:SF} {M:Nat} (hM:M≤4096) (h:SPair f g):Spec Tryz.prog 138 [.bptr [] (sfD f), .bptr [] (sfD g),iv M] [] (.tup [.sl 0,bv (eat (stB M) [] (allM f g false)).1]) [(0,⟨1, .arr (aU (eat (stB M) [] (allM f g false)).2)⟩)]:=by
 refine aD (E:=TE) 0 Tryz.func138 rfl (by simp [Tryz.f138]) fun X hn hX=>?_
 have hset:=aCr (O:=[]) hM h (by simp)
 repeat'(first|(refine cZ 2 (Imp.closeB 2 1 0 _ _ rfl rfl rfl (by decide)) ?_;simp only [go_sem,simprocAttr])|(refine cZ 3 (Imp.openB 2 0 _ _ rfl (Nat.succ_le_succ (Nat.zero_le _)) rfl rfl) ?_;simp only [go_sem,simprocAttr])|(with_reducible first|refine St.f ?_|refine V_c ?_|refine And.intro ?_ ?_|refine aJ ?_ ?_)|((refine aT ?_);intro K hK)|((with_reducible refine So.f ?_);intro K hK;simp(contextual:=true)only [go_sem,simprocAttr])|((with_reducible refine hK _ ?_);clear hK K)|((with_reducible refine aG 223 ?_);refine EvCall.mr (hset) aCQ [(4,2),(5,0)] [] ?_)|(refine fun(hc:(_:Bool)=_)=>?_;try simp only [hcS]at hc))
 all_goals try exact om_
 (first|refine aB ?_|refine aA ?_);simp only [go_sem,simprocAttr,Tryz.f138]
end Go.Eng
end
section
namespace Go.Eng
open Go Go.Proofs Go.Cats
attribute [local go_sem] List.set_cons_succ List.set_cons_zero iK
theorem aHI {P:Program} {F:FuncId} {args:List Sv} {y:Value} (h:Spec P F args [] (.tup [.v (.slice none 0 0), .v y]) []):Spec P F args [] (.tup [.sl 0, .v y]) [(0,⟨1, .arr (aU [])⟩)]:=by
 have hL:aEi [(0,⟨1, .arr (aU [])⟩)]:=fun p hp=>by
  simp only [List.mem_singleton]at hp
  subst hp
  exact⟨_,_,Nat.one_pos,rfl⟩
 refine Spec.adopt h hL fun w S v cn h=>?_
 simp only [Sv.ok,Sv.okL]at h⊢
 obtain⟨vs,rfl,x,r,rfl,e,hr⟩:=h
 exact⟨_,rfl,_,_,rfl,⟨Nat.le_refl 1,e⟩,hr⟩
def _root_.Go.Cats.SF.bad (f g:SF) (c:Int):Prop:=(SCo f g c∧c≠0)∨(SPair f g∧12<f.elems∧c=3)
theorem _root_.Go.Cats.SPair.sco {f g:SF} (h:SPair f g):SCo f g 0:= .inr (.inr ⟨⟨h.src,h.tgt⟩,h.one,rfl⟩)
theorem nZ:aE Tryz.prog 48:=⟨_,Tryz.func48,rfl,rfl⟩
theorem sT {f g:SF} {c:Int} (hf:SFB f) (hg:SFB g) (h:f.bad g c):Spec Tryz.prog 48 [sfV f,sfV g] [] (.tup [.v (.slice none 0 0),iv c]) []:=by
 refine aD (E:=TE) 0 Tryz.func48 rfl (by simp [Tryz.f48]) fun X hn hX=>?_
 rcases h with⟨h1,h2⟩|⟨h1,h2,rfl⟩
 ·repeat'(first|refine wkQ ?_|refine Tw.f ?_ ?_|(refine kcQ mW ?_;refine krQ (oV (f:=f) (g:=g) (c:=c) ?_ ?_ ?_) ?_)|(refine fun(hc:(_:Bool)=_)=>?_;try simp only [hcS]at hc))
  all_goals try exact om_
  ·(first|refine aB ?_|refine aA ?_);simp only [go_sem,simprocAttr,Tryz.f48]
  all_goals omega
 ·have h3:=h1.sco
  have h4:=h1.src
  repeat'(first|refine wkQ ?_|refine Tw.f ?_ ?_|(refine kcQ mW ?_;refine krQ (oV (f:=f) (g:=g) (c:=0) ?_ ?_ ?_) ?_)|(refine kcQ gC ?_;refine krQ (gV (f:=f) ?_) ?_)|(refine fun(hc:(_:Bool)=_)=>?_;try simp only [hcS]at hc))
  all_goals try exact om_
  all_goals try((first|refine aB ?_|refine aA ?_);simp only [go_sem,simprocAttr,Tryz.f48])
  all_goals omega
theorem sU {f g:SF} (hf:SFB f) (hg:SFB g) (h:SPair f g) (he:f.elems≤12) (hD:(allM f g false).length≤200):Spec Tryz.prog 48 [sfV f,sfV g] [] (.tup [.sl 0,iv 0]) [(0,⟨1, .arr (aU (allM f g false))⟩)]:=by
 have h3:=h.sco
 have h4:=h.src
 have hset:=aAD (M:=200) (by decide) h
 rw [aH3 _ _ (by decide),List.nil_append,decide_eq_true (by omega),List.take_of_length_le (by omega)]at hset
 have hset:Spec Tryz.prog 138 [.bptr [] (sfD f), .bptr [] (sfD g),iv 200] [] (.tup [.sl 0, .v (.bool true)]) [(0,⟨1, .arr (aU (allM f g false))⟩)]:=hset
 refine aD (E:=TE) 0 Tryz.func48 rfl (by simp [Tryz.f48]) fun X hn hX=>?_
 repeat'(first|refine wkQ ?_|refine Tw.f ?_ ?_|(refine kcQ mW ?_;refine krQ (oV (f:=f) (g:=g) (c:=0) ?_ ?_ ?_) ?_)|(refine kcQ gC ?_;refine krQ (gV (f:=f) ?_) ?_)|(refine kcQ xM ?_;refine kwQ (hset) [(0,2)] [0,1] ?_)|(refine fun(hc:(_:Bool)=_)=>?_;try simp only [hcS]at hc))
 all_goals try exact om_
 all_goals try((first|refine aB ?_|refine aA ?_);simp only [go_sem,simprocAttr,Tryz.f48])
 all_goals omega
end Go.Eng
end
