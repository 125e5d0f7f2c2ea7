/- The law FnDiagonals: its body. -/
import Derived.Test.YthgijhnmcglppaaGreatL06y
import Derived.Test.YthgijhnmcglppaaGreatN52y
import Derived.Test.YthgijhnmcglppaaGreatZ19q
import Derived.Test.YthgijhnmcglppaaGreatL04q
set_option linter.unusedSimpArgs false
set_option linter.unusedVariables false
set_option maxRecDepth 100000
set_option maxHeartbeats 32000000
namespace Go.Eng
open Go Go.Proofs Go.Cats
attribute [local go_sem] List.set_cons_zero List.set_cons_succ List.take_succ_cons List.take_zero
theorem aBz {l:List Int} (hl:(l.length:Int)≤9223372036854775807) (hb:∀i,i<l.length→0≤l.getD i 0∧l.getD i 0<256):Spec Tryz.prog 3 [.bor [] (bys l)] [] (bv true) []:=by
 refine aD (E:=TE) 0 Tryz.func3 rfl (by simp [Tryz.f3]) fun X hn hX=>?_
 by_cases h4:4096<l.length
 ·repeat'(first|refine wkQ ?_|refine Tw.f ?_ ?_|(refine kcQ oG ?_;refine krQ (uW (l:=l) ?_) ?_)|(refine fun(hc:(_:Bool)=_)=>?_;try simp only [hcS]at hc))
  all_goals try exact om_
  all_goals try(exfalso;omega)
  (first|refine aB ?_|refine aA ?_);simp only [go_sem,simprocAttr,Tryz.f3]
 ·have hk:CodeOk l:=⟨by omega,hb⟩
  have hD:=kP hk
  obtain⟨bc,bd⟩:=aOc hk
  generalize aFg l=q at hD bc bd
  obtain⟨c,d⟩:=q
  simp only at hD bc bd
  obtain⟨g,code,ho⟩:=DiOut.ex c d
  have hg:=ho.b bd
  by_cases h0:code=0
  ·subst h0
   obtain⟨sc,sd,hy,hge⟩:IsCat c∧IsCat d∧FcY c d∧g=diF c d:=by
    rcases ho with⟨_,_,q⟩|⟨sc,sd,⟨_,_,q⟩|⟨hy,e,_⟩⟩
    ·exact absurd q (by decide)
    ·exact absurd q (by decide)
    ·exact⟨sc,sd,hy,e⟩
   have o0:=sc.toShape.ob0
   by_cases h1:c.ob=0
   ·repeat'(first|(refine bU 4 (Imp.trans (Imp.cellRd 8 4 3 _ _ _ (aF c.co) rfl (by decide) rfl rfl) (Imp.cellRd 9 4 7 _ _ _ (aF d.co) rfl (by decide) rfl rfl)) ?_;simp only [go_sem,simprocAttr])|(with_reducible first|refine St.f ?_|refine V_c ?_|refine eDn ?_|refine And.intro ?_ ?_|refine aH ?_ ?_)|((refine aN ?_);intro K hK)|((with_reducible refine So.f ?_);intro K hK;simp(contextual:=true)only [go_sem,simprocAttr])|((with_reducible refine hK _ ?_);clear hK K)|((with_reducible refine aC 12 ?_);refine EvCall.rr (uW (l:=l) ?_) oG ?_)|((with_reducible refine aC 13 ?_);refine EvCall.mr (hD) dA [(0,0),(1,1),(2,2),(3,3),(4,4),(5,5),(6,6),(7,7)] [] ?_)|((with_reducible refine aC 14 ?_);refine EvCall.rq (a:=(fV (c:=c) (d:=d) (g:=g) (code:=0) (by first|omega|assumption|rfl) (by first|omega|assumption|rfl) (by first|omega|assumption|rfl))) (b:=gN) (c:=?_);all_goals try simp only [go_sem,simprocAttr])|((with_reducible refine aC 15 ?_);refine EvCall.rq (a:=(dM (c:=c) (d:=d) (g:=g) (code:=0) (by first|omega|assumption|rfl) (by first|omega|assumption|rfl) (by first|omega|assumption|rfl))) (b:=dV) (c:=?_);all_goals try simp only [go_sem,simprocAttr])|((with_reducible refine aC 16 ?_);refine EvCall.rr (jV (f:=g) (g:=g) ?_ ?_) gJ ?_)|(refine fun(hc:(_:Bool)=_)=>?_;try simp only [hcS]at hc))
    all_goals try exact om_
    all_goals try(exfalso;omega)
    all_goals((first|refine aB ?_|refine aA ?_);simp only [go_sem,simprocAttr,Tryz.f3])
   ·have hR:=aPt (l:=l) (z:=2) (by omega)
    have ht:=aPg (l:=l) (z:=2) (by omega) hb
    generalize aMY l 2=t at hR ht
    have hB:=aCy (n:=c.ob) ht
    have n1:=bN (n:=c.ob) ht (by omega)
    obtain⟨x,hx⟩:∃x:Nat,aM t c.ob=x:=⟨_,(Int.toNat_of_nonneg n1.1).symm⟩
    rw [hx]at hB n1
    have he:EvOut c d (x:Int) (evF c d (x:Int)) 0:= .inr ⟨sc,sd, .inr ⟨by omega, .inr ⟨hy,rfl,rfl⟩⟩⟩
    have hTh:=uV (f:=diF c d) (g:=evF c d (x:Int)) (aQE sc sd hy) (aIa sc sd hy (by omega)) (by rw [←hge];exact hg) (he.b bc bd) rfl
    rw [aTr sc sd hy (by omega),←hge]at hTh
    have hS:=aEr bd sd
    have heb:=he.b bc bd
    generalize evF c d (x:Int)=e at hTh he heb
    repeat'(first|(refine bU 4 (Imp.trans (Imp.cellRd 8 4 3 _ _ _ (aF c.co) rfl (by decide) rfl rfl) (Imp.cellRd 9 4 7 _ _ _ (aF d.co) rfl (by decide) rfl rfl)) ?_;simp only [go_sem,simprocAttr])|(with_reducible first|refine St.f ?_|refine V_c ?_|refine eDn ?_|refine And.intro ?_ ?_|refine aH ?_ ?_)|((refine aN ?_);intro K hK)|((with_reducible refine So.f ?_);intro K hK;simp(contextual:=true)only [go_sem,simprocAttr])|((with_reducible refine hK _ ?_);clear hK K)|((with_reducible refine aC 12 ?_);refine EvCall.rr (uW (l:=l) ?_) oG ?_)|((with_reducible refine aC 13 ?_);refine EvCall.mr (hD) dA [(0,0),(1,1),(2,2),(3,3),(4,4),(5,5),(6,6),(7,7)] [] ?_)|((with_reducible refine aC 14 ?_);refine EvCall.rq (a:=(fV (c:=c) (d:=d) (g:=g) (code:=0) (by first|omega|assumption|rfl) (by first|omega|assumption|rfl) (by first|omega|assumption|rfl))) (b:=gN) (c:=?_);all_goals try simp only [go_sem,simprocAttr])|((with_reducible refine aC 15 ?_);refine EvCall.rq (a:=(dM (c:=c) (d:=d) (g:=g) (code:=0) (by first|omega|assumption|rfl) (by first|omega|assumption|rfl) (by first|omega|assumption|rfl))) (b:=dV) (c:=?_);all_goals try simp only [go_sem,simprocAttr])|((with_reducible refine aC 16 ?_);refine EvCall.rr (jV (f:=g) (g:=g) ?_ ?_) gJ ?_)|((with_reducible refine aC 16 ?_);refine EvCall.rr (jV (f:=cX d) (g:=cX d) ?_ ?_) gJ ?_)|((with_reducible refine aC 17 ?_);refine EvCall.mr (hR) aK0 [(0,32)] [] ?_)|((with_reducible refine aC 19 ?_);refine EvCall.mr (hB) aAR [(0,32)] [] ?_)|((with_reducible refine aC 18 ?_);refine EvCall.rq (a:=(fA (c:=c) (d:=d) (x:=(x:Int)) (g:=e) (code:=0) (by first|omega|assumption|rfl) (by first|omega|assumption|rfl) (by first|omega|assumption|rfl))) (b:=fU) (c:=?_);all_goals try simp only [go_sem,simprocAttr])|((with_reducible refine aC 20 ?_);refine EvCall.mr (hTh) xS [(0,44),(1,45),(2,46),(3,47),(4,48),(5,49),(6,50),(7,51),(8,52),(9,53)] [10,11,12,13,14,15,16,17,18,19,33,34,35,36,37,38,39,40,41,42] ?_)|((with_reducible refine aC 21 ?_);refine EvCall.rq (a:=(qE (c:=d) (by first|omega|assumption|rfl) (by first|omega|assumption|rfl))) (b:=tA) (c:=?_);all_goals try simp only [go_sem,simprocAttr])|(refine fun(hc:(_:Bool)=_)=>?_;try simp only [hcS]at hc))
    all_goals try exact om_
    all_goals try(exfalso;omega)
    all_goals((first|refine aB ?_|refine aA ?_);simp only [go_sem,simprocAttr,Tryz.f3])
    all_goals exact congrArg (fun b=>Sv.v (.bool b)) (bH trivial)
  ·repeat'(first|(refine bU 4 (Imp.trans (Imp.cellRd 8 4 3 _ _ _ (aF c.co) rfl (by decide) rfl rfl) (Imp.cellRd 9 4 7 _ _ _ (aF d.co) rfl (by decide) rfl rfl)) ?_;simp only [go_sem,simprocAttr])|(with_reducible first|refine St.f ?_|refine V_c ?_|refine eDn ?_|refine And.intro ?_ ?_|refine aH ?_ ?_)|((refine aN ?_);intro K hK)|((with_reducible refine So.f ?_);intro K hK;simp(contextual:=true)only [go_sem,simprocAttr])|((with_reducible refine hK _ ?_);clear hK K)|((with_reducible refine aC 12 ?_);refine EvCall.rr (uW (l:=l) ?_) oG ?_)|((with_reducible refine aC 13 ?_);refine EvCall.mr (hD) dA [(0,0),(1,1),(2,2),(3,3),(4,4),(5,5),(6,6),(7,7)] [] ?_)|((with_reducible refine aC 14 ?_);refine EvCall.rq (a:=(fV (c:=c) (d:=d) (g:=g) (code:=code) (by first|omega|assumption|rfl) (by first|omega|assumption|rfl) (by first|omega|assumption|rfl))) (b:=gN) (c:=?_);all_goals try simp only [go_sem,simprocAttr])|((with_reducible refine aC 15 ?_);refine EvCall.rq (a:=(dM (c:=c) (d:=d) (g:=g) (code:=code) (by first|omega|assumption|rfl) (by first|omega|assumption|rfl) (by first|omega|assumption|rfl))) (b:=dV) (c:=?_);all_goals try simp only [go_sem,simprocAttr])|((with_reducible refine aC 16 ?_);refine EvCall.rr (jV (f:=g) (g:=g) ?_ ?_) gJ ?_)|(refine fun(hc:(_:Bool)=_)=>?_;try simp only [hcS]at hc))
   all_goals try exact om_
   all_goals try(exfalso;omega)
   all_goals((first|refine aB ?_|refine aA ?_);simp only [go_sem,simprocAttr,Tryz.f3])
end Go.Eng
