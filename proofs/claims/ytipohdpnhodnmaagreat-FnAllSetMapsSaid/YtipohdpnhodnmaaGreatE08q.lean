/- A small category and a set functor on it are drawn, by the reference: what is known of them. -/
import Derived.Test.YtipohdpnhodnmaaGreatE07q
set_option linter.unusedSimpArgs false
set_option linter.unusedVariables false
set_option maxRecDepth 100000
set_option maxHeartbeats 32000000
namespace Go.Eng
open Go Go.Proofs Go.Cats
attribute [local go_sem] List.set_cons_zero List.set_cons_succ
def wG (s:RnS):Cat×RnS:=if aK s 3=0 then mR (aM s 3) 2 6 else mR (aM s 3) 4 12
theorem aI9 {s:RnS} (hs:RnOk s):RnOk (wG s).2∧CatB (wG s).1:=by
 unfold wG
 split
 ·exact aD0 (aN hs) (by decide) (by decide) (by decide) (by decide)
 ·exact aD0 (aN hs) (by decide) (by decide) (by decide) (by decide)
theorem wV:aF Tryz.prog 40:=⟨_,Tryz.func40,rfl,rfl⟩
theorem aGd {s:RnS} (hs:RnOk s):Spec Tryz.prog 40 [.ptr 0 0] [(0,bB s)] (aHM 1 (wG s).1) ((0,bB (wG s).2)::aHN 1 (wG s).1):=by
 have hA:=aP (n:=3) hs
 have hA1:=aN (n:=3) hs
 have h1:=aAE (o:=2) (m:=6) hA1 (by decide) (by decide) (by decide) (by decide)
 have h2:=aAE (o:=4) (m:=12) hA1 (by decide) (by decide) (by decide) (by decide)
 have e:wG s=if aK s 3=0 then mR (aM s 3) 2 6 else mR (aM s 3) 4 12:=rfl
 rw [e]
 clear e
 generalize mR (aM s 3) 2 6=d1 at h1⊢
 generalize mR (aM s 3) 4 12=d2 at h2⊢
 refine aE (E:=TE) 1 Tryz.func40 rfl (by simp [Tryz.f40]) fun X hn hX=>?_
 by_cases h0:aK s 3=0
 ·rw [if_pos h0]
  rw [h0]at hA
  repeat'(first|refine wkQ ?_|refine Tw.f ?_ ?_|(refine kcQ aG ?_;refine kwQ (hA) [(0,0)] [] ?_)|(refine kcQ wQ ?_;refine kwQ (h1) [(0,0),(1,2),(2,3),(3,4),(4,5)] [] ?_)|(refine fun(hc:(_:Bool)=_)=>?_;try simp only [hcS]at hc))
  all_goals try exact om_
  (first|refine aB ?_|refine aA ?_);simp only [go_sem,simprocAttr,Tryz.f40]
 ·rw [if_neg h0]
  repeat'(first|((with_reducible refine(id ?_:V _ _ (Code.region 2 _ _) _ _));exfalso;exact absurd (by assumption) h0)|(with_reducible first|refine St.f ?_|refine V_c ?_|refine And.intro ?_ ?_|refine aI ?_ ?_)|((refine aQ ?_);intro K hK)|((with_reducible refine So.f ?_);intro K hK;simp(contextual:=true)only [go_sem,simprocAttr])|((with_reducible refine hK _ ?_);clear hK K)|((with_reducible refine aC 42 ?_);refine EvCall.mr (hA) aG [(0,0)] [] ?_)|((with_reducible refine aC 98 ?_);refine EvCall.mr (h2) wQ [(0,0),(1,2),(2,3),(3,4),(4,5)] [] ?_)|(refine fun(hc:(_:Bool)=_)=>?_;try simp only [hcS]at hc))
  all_goals try exact om_
  all_goals try contradiction
  (first|refine aB ?_|refine aA ?_);simp only [go_sem,simprocAttr,Tryz.f40]
abbrev aVZ (s:RnS):Rs:=⟨1, .box [.bor [(1,1),(2,1),(3,1),(4,1)] (bys s.code),iv s.at_, .v (.int .u64 s.hash)]⟩
theorem pB:aF Tryz.prog 39:=⟨_,Tryz.func39,rfl,rfl⟩
theorem aBp {s:RnS} {c:Cat} {size:Int} (hb:CatB c) (h:¬IsCat c):Spec Tryz.prog 39 [.ptr 0 0,aHM 1 c,iv size] ((0,bB s)::aHN 1 c) (.agg [iv c.ob, .sl 1, .sl 2, .sl 3, .bor [(4,1)] (aD c.co), .v (.slice none 0 0), .v (.slice none 0 0)]) ((0,bB s)::aHN 1 c):=by
 refine aE (E:=TE) 5 Tryz.func39 rfl (by simp [Tryz.f39]) fun X hn hX=>?_
 repeat'(first|(refine bH 1 (Imp.cellRd 5 4 4 _ _ _ (aD c.co) rfl (by decide) rfl rfl) ?_;simp only [go_sem,simprocAttr])|(with_reducible first|refine St.f ?_|refine V_c ?_|refine And.intro ?_ ?_|refine aI ?_ ?_)|((refine aQ ?_);intro K hK)|((with_reducible refine So.f ?_);intro K hK;simp(contextual:=true)only [go_sem,simprocAttr])|((with_reducible refine hK _ ?_);clear hK K)|((with_reducible refine aC 62 ?_);refine EvCall.rr (uK (c:=c) ?_) qD ?_)|(refine fun(hc:(_:Bool)=_)=>?_;try simp only [hcS]at hc))
 all_goals try exact om_
 all_goals try exact absurd (by assumption) h
 (first|refine aB ?_|refine aA ?_);simp only [go_sem,simprocAttr,Tryz.f39]
theorem aDg {s:RnS} {c:Cat} {size:Int} (hs:RnOk s) (hb:CatB c) (h:IsCat c) (h2:2≤size) (h16:size≤16):
  SpecE Tryz.prog 39 [.ptr 0 0,aHM 1 c,iv size] ((0,bB s)::aHN 1 c) (fun z:SF×RnS=>SFB z.1∧RnOk z.2) (fun z=>sfO 5 z.1) (fun z=>(0,aVZ z.2)::(1,⟨1, .arr (ints c.fr)⟩)::(2,⟨1, .arr (ints c.to)⟩)::(3,⟨1, .arr (ints c.id)⟩)::(4,⟨1, .arr (rdA (aD c.co))⟩)::sfW 5 z.1):=by
 have hG:=uN hs h.toShape hb h2 h16
 refine gI (E:=TE) 5 Tryz.func39 rfl (by simp [Tryz.f39]) fun X hn hX=>?_
 repeat'(first|(refine bH 1 (Imp.cellRd 5 4 4 _ _ _ (aD c.co) rfl (by decide) rfl rfl) ?_;simp only [go_sem,simprocAttr])|((with_reducible refine(id ?_:V _ _ (Code.region 3 _ _) _ _));refine fQ 3 (by rw [hn];rfl) ?_;intro K hK)|(refine jF hG wY [(0,0),(1,7),(2,8),(3,9),(4,10),(5,11),(6,12)] [1,2,3,4] (by simp only [go_sem,simprocAttr];rfl) (by simp [go_sem]) (by simp [go_sem]<;>(repeat'(first|rfl|constructor))) ?_;intro z hz;simp only [go_sem,simprocAttr])|((with_reducible refine fW ?_);intro K hK;simp(contextual:=true)only [go_sem,simprocAttr])|(with_reducible refine dN ?_)|(with_reducible first|refine St.f ?_|refine V_c ?_|refine And.intro ?_ ?_|refine aI ?_ ?_)|((refine aQ ?_);intro K hK)|((with_reducible refine So.f ?_);intro K hK;simp(contextual:=true)only [go_sem,simprocAttr])|((with_reducible refine hK _ ?_);clear hK K)|((with_reducible refine aC 62 ?_);refine EvCall.rr (uK (c:=c) ?_) qD ?_)|(refine fun(hc:(_:Bool)=_)=>?_;try simp only [hcS]at hc))
 all_goals try exact om_
 all_goals try exact absurd h (by assumption)
 obtain⟨f,t⟩:=z
 obtain⟨z1,z2,z3⟩:=hz
 simp only at z1 z2 z3
 have hN:=aP (n:=40) z3
 have hN1:=aN (n:=40) z3
 generalize aM t 40=t2 at hN hN1
 have hfb:=z1.b (by rw [z2];exact hb)
 by_cases h0:aK t 40=0
 ·rw [h0]at hN
  have hB:=uM (s:=t2) hN1 z1 (by rw [z2];exact hb)
  repeat'(first|((with_reducible refine(id ?_:V _ _ (Code.region 5 _ _) _ _));refine fQ 5 (by rw [hn];rfl) ?_;intro K hK)|(refine jF hB wW [(0,0),(1,7),(2,8),(3,9),(4,10),(5,11),(6,12),(7,14),(8,15),(9,16),(10,17),(11,18),(12,19)] [1,2,3,4] (by simp only [go_sem,simprocAttr];rfl) (by simp [go_sem]) (by simp [go_sem]<;>(repeat'(first|rfl|constructor))) ?_;intro y hy;simp only [go_sem,simprocAttr])|((with_reducible refine fW ?_);intro K hK;simp(contextual:=true)only [go_sem,simprocAttr])|(with_reducible refine dN ?_)|(with_reducible first|refine St.f ?_|refine V_c ?_|refine And.intro ?_ ?_|refine aI ?_ ?_)|((refine aQ ?_);intro K hK)|((with_reducible refine So.f ?_);intro K hK;simp(contextual:=true)only [go_sem,simprocAttr])|((with_reducible refine hK _ ?_);clear hK K)|((with_reducible refine aC 42 ?_);refine EvCall.mr (hN) aG [(0,0)] [1,2,3,4] ?_)|(refine fun(hc:(_:Bool)=_)=>?_;try simp only [hcS]at hc))
  all_goals try exact om_
  all_goals try contradiction
  refine⟨y,hy,?_⟩
  (first|refine aB ?_|refine aA ?_);simp only [go_sem,simprocAttr,Tryz.f39]
  all_goals repeat'(first|rfl|constructor)
 ·generalize aK t 40=d at hN h0
  repeat'(first|(refine bH 6 (Imp.arrAb 10 _ (aD f.shape.co) rfl rfl) ?_;simp only [go_sem,simprocAttr])|((with_reducible refine fW ?_);intro K hK;simp(contextual:=true)only [go_sem,simprocAttr])|(with_reducible refine dN ?_)|(with_reducible first|refine St.f ?_|refine V_c ?_|refine And.intro ?_ ?_|refine aI ?_ ?_)|((refine aQ ?_);intro K hK)|((with_reducible refine So.f ?_);intro K hK;simp(contextual:=true)only [go_sem,simprocAttr])|((with_reducible refine hK _ ?_);clear hK K)|((with_reducible refine aC 42 ?_);refine EvCall.mr (hN) aG [(0,0)] [1,2,3,4] ?_)|(refine fun(hc:(_:Bool)=_)=>?_;try simp only [hcS]at hc))
  all_goals try exact om_
  all_goals try contradiction
  refine⟨(f,t2),⟨hfb,hN1⟩,?_⟩
  (first|refine aB ?_|refine aA ?_);simp only [go_sem,simprocAttr,Tryz.f39]
  all_goals repeat'(first|rfl|constructor)
end Go.Eng
