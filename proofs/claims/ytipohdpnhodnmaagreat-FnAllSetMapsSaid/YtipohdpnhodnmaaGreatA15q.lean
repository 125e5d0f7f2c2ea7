/- The search of natural maps: FindSetIso and AllSetMaps, by the program and by the reference. -/
import Derived.Test.YtipohdpnhodnmaaGreatA11y
set_option linter.unusedSimpArgs false
set_option linter.unusedVariables false
set_option maxRecDepth 100000
set_option maxHeartbeats 16000000
namespace Go.Eng
open Go Go.Proofs Go.Cats
attribute [local go_sem] List.set_cons_succ List.set_cons_zero iO
theorem qB {P:Program} {F:FuncId} {args:List Sv} {y:Value} (h:Spec P F args [] (.tup [.v (.slice none 0 0), .v y]) []):Spec P F args [] (.tup [.sl 0, .v y]) [(0,⟨1, .arr (aD [])⟩)]:=by
 refine Spec.adopt h (aBf aFC) fun w S v cn h=>?_
 simp only [Sv.ok,Sv.okL]at h⊢
 obtain⟨vs,rfl,x,r,rfl,e,hr⟩:=h
 exact⟨_,rfl,_,_,rfl,⟨Nat.le_refl 1,e⟩,hr⟩
theorem aI4 {P:Program} {F:FuncId} {args:List Sv} {y:Value} (h:Spec P F args [] (.tup [.v (.slice none 0 0), .v y]) []):Spec P F args [] (.tup [.sl 0, .v y]) [(0,⟨1, .arr (aU [])⟩)]:=by
 have hL:uZ [(0,⟨1, .arr (aU [])⟩)]:=fun p hp=>by
  simp only [List.mem_singleton]at hp
  subst hp
  exact⟨_,_,Nat.one_pos,rfl⟩
 refine Spec.adopt h hL fun w S v cn h=>?_
 simp only [Sv.ok,Sv.okL]at h⊢
 obtain⟨vs,rfl,x,r,rfl,e,hr⟩:=h
 exact⟨_,rfl,_,_,rfl,⟨Nat.le_refl 1,e⟩,hr⟩
def _root_.Go.Cats.SF.bad (f g:SF) (c:Int):Prop:=(SCo f g c∧c≠0)∨(SPair f g∧12<f.elems∧c=3)
theorem aOj (f g:SF):(∃c,f.bad g c)∨(SPair f g∧f.elems≤12):=by
 by_cases h1:IsSF f∧IsSF g
 ·by_cases h2:f.shape=g.shape
  ·by_cases h3:12<f.elems
   ·exact .inl ⟨3, .inr ⟨⟨h1.1,h1.2,h2⟩,h3,rfl⟩⟩
   ·exact .inr ⟨⟨h1.1,h1.2,h2⟩,by omega⟩
  ·exact .inl ⟨5, .inl ⟨.inr (.inl ⟨h1,h2,rfl⟩),by decide⟩⟩
 ·exact .inl ⟨1, .inl ⟨.inl ⟨h1,rfl⟩,by decide⟩⟩
theorem _root_.Go.Cats.SPair.sco {f g:SF} (h:SPair f g):SCo f g 0:= .inr (.inr ⟨⟨h.src,h.tgt⟩,h.one,rfl⟩)
theorem _root_.Go.Cats.SPair.lco {f g:SF} (h:SPair f g) (k:f.elems≤12):LCo f g 0:= .inr (.inr (.inr ⟨⟨h.src,h.tgt⟩,h.one,k,rfl⟩))
theorem aL0 {f g:SF} {c:Int} (h:f.bad g c):LCo f g c∧c≠0:=by
 rcases h with⟨⟨h,rfl⟩|⟨h,k,rfl⟩|⟨h,k,rfl⟩,h0⟩|⟨h,k,rfl⟩
 ·exact⟨.inl ⟨h,rfl⟩,h0⟩
 ·exact⟨.inr (.inl ⟨h,k,rfl⟩),h0⟩
 ·exact absurd rfl h0
 ·exact⟨.inr (.inr (.inl ⟨⟨h.src,h.tgt⟩,h.one,k,rfl⟩)),by decide⟩
theorem fG:aF Tryz.prog 9:=⟨_,Tryz.func9,rfl,rfl⟩
theorem lY {f g:SF} {c:Int} (hf:SFB f) (hg:SFB g) (h:f.bad g c):Spec Tryz.prog 9 [sfV f,sfV g] [] (.tup [.v (.slice none 0 0),iv c]) []:=by
 refine aE (E:=TE) 0 Tryz.func9 rfl (by simp [Tryz.f9]) fun X hn hX=>?_
 rcases h with⟨h1,h2⟩|⟨h1,h2,rfl⟩
 ·repeat'(first|refine wkQ ?_|refine Tw.f ?_ ?_|(refine kcQ dZ ?_;refine krQ (fO (f:=f) (g:=g) (c:=c) ?_ ?_ ?_) ?_)|(refine fun(hc:(_:Bool)=_)=>?_;try simp only [hcS]at hc))
  all_goals try exact om_
  ·(first|refine aB ?_|refine aA ?_);simp only [go_sem,simprocAttr,Tryz.f9]
  all_goals omega
 ·have h3:=h1.sco
  have h4:=h1.src
  repeat'(first|refine wkQ ?_|refine Tw.f ?_ ?_|(refine kcQ dZ ?_;refine krQ (fO (f:=f) (g:=g) (c:=0) ?_ ?_ ?_) ?_)|(refine kcQ bL ?_;refine krQ (bO (f:=f) ?_) ?_)|(refine fun(hc:(_:Bool)=_)=>?_;try simp only [hcS]at hc))
  all_goals try exact om_
  all_goals try((first|refine aB ?_|refine aA ?_);simp only [go_sem,simprocAttr,Tryz.f9])
  all_goals omega
theorem cY:aF Tryz.prog 10:=⟨_,Tryz.func10,rfl,rfl⟩
theorem iC {f g:SF} {c:Int} (hf:SFB f) (hg:SFB g) (h:f.bad g c):Spec Tryz.prog 10 [sfV f,sfV g] [] (.tup [.v (.slice none 0 0),iv c]) []:=by
 refine aE (E:=TE) 0 Tryz.func10 rfl (by simp [Tryz.f10]) fun X hn hX=>?_
 obtain⟨h1,h2⟩:=aL0 h
 repeat'(first|refine wkQ ?_|refine Tw.f ?_ ?_|(refine kcQ lL ?_;refine krQ (oD (f:=f) (g:=g) (c:=c) ?_ ?_ ?_) ?_)|(refine fun(hc:(_:Bool)=_)=>?_;try simp only [hcS]at hc))
 all_goals try exact om_
 ·(first|refine aB ?_|refine aA ?_);simp only [go_sem,simprocAttr,Tryz.f10]
 all_goals omega
theorem gU:aF Tryz.prog 12:=⟨_,Tryz.func12,rfl,rfl⟩
theorem vW {f g:SF} (hf:SFB f) (hg:SFB g) (h:SPair f g) (he:f.elems≤12) (hs:f.sizes≠g.sizes):Spec Tryz.prog 9 [sfV f,sfV g] [] (.tup [.v (.slice none 0 0),iv 4]) []:=by
 have h3:=h.sco
 have h4:=h.src
 have h5:=h.tgt
 refine aE (E:=TE) 0 Tryz.func9 rfl (by simp [Tryz.f9]) fun X hn hX=>?_
 repeat'(first|refine wkQ ?_|refine Tw.f ?_ ?_|(refine kcQ dZ ?_;refine krQ (fO (f:=f) (g:=g) (c:=0) ?_ ?_ ?_) ?_)|(refine kcQ bL ?_;refine krQ (bO (f:=f) ?_) ?_)|(refine kcQ rP ?_;refine ksQ (a:=aDn (f:=f) (g:=g) (by first|omega|assumption|rfl) (by first|omega|assumption|rfl) (by first|omega|assumption|rfl)) (c:=?_))|(refine fun(hc:(_:Bool)=_)=>?_;try simp only [hcS]at hc))
 all_goals try exact om_
 all_goals try((first|refine aB ?_|refine aA ?_);simp only [go_sem,simprocAttr,Tryz.f9])
 all_goals omega
theorem sN {f g:SF} (hf:SFB f) (hg:SFB g) (h:SPair f g) (he:f.elems≤12) (hs:f.sizes=g.sizes) (hD:allM f g true=[]):Spec Tryz.prog 9 [sfV f,sfV g] [] (.tup [.v (.slice none 0 0),iv 4]) []:=by
 have h3:=h.sco
 have h4:=h.src
 have hset:=uP h hs
 rw [hD]at hset
 have hset:Spec Tryz.prog 46 [.bptr [] (sfD f), .bptr [] (sfD g)] [] (.tup [.sl 0, .v (.bool false)]) [(0,⟨1, .arr (aD [])⟩)]:=hset
 refine aE (E:=TE) 0 Tryz.func9 rfl (by simp [Tryz.f9]) fun X hn hX=>?_
 repeat'(first|refine wkQ ?_|refine Tw.f ?_ ?_|(refine kcQ dZ ?_;refine krQ (fO (f:=f) (g:=g) (c:=0) ?_ ?_ ?_) ?_)|(refine kcQ bL ?_;refine krQ (bO (f:=f) ?_) ?_)|(refine kcQ rP ?_;refine kwQ (hset) [(0,2)] [0,1] ?_)|(refine fun(hc:(_:Bool)=_)=>?_;try simp only [hcS]at hc))
 all_goals try exact om_
 all_goals try((first|refine aB ?_|refine aA ?_);simp only [go_sem,simprocAttr,Tryz.f9])
 all_goals omega
theorem uF {f g:SF} {Q:List (List Int)} {D:List (List (List Int))} (hf:SFB f) (hg:SFB g) (h:SPair f g) (he:f.elems≤12) (hs:f.sizes=g.sizes) (hD:allM f g true=Q::D):Spec Tryz.prog 9 [sfV f,sfV g] [] (.tup [.sl 0,iv 0]) [(0,⟨1, .arr (aD Q)⟩)]:=by
 have h3:=h.sco
 have h4:=h.src
 have hset:=uP h hs
 rw [hD,aQU]at hset
 have hset:Spec Tryz.prog 46 [.bptr [] (sfD f), .bptr [] (sfD g)] [] (.tup [.sl 0, .v (.bool true)]) [(0,⟨1, .arr (aD Q)⟩)]:=hset
 refine aE (E:=TE) 0 Tryz.func9 rfl (by simp [Tryz.f9]) fun X hn hX=>?_
 repeat'(first|refine wkQ ?_|refine Tw.f ?_ ?_|(refine kcQ dZ ?_;refine krQ (fO (f:=f) (g:=g) (c:=0) ?_ ?_ ?_) ?_)|(refine kcQ bL ?_;refine krQ (bO (f:=f) ?_) ?_)|(refine kcQ rP ?_;refine kwQ (hset) [(0,2)] [0,1] ?_)|(refine fun(hc:(_:Bool)=_)=>?_;try simp only [hcS]at hc))
 all_goals try exact om_
 all_goals try((first|refine aB ?_|refine aA ?_);simp only [go_sem,simprocAttr,Tryz.f9])
 all_goals omega
theorem oS {f g:SF} (hf:SFB f) (hg:SFB g) (h:SPair f g) (he:f.elems≤12) (hs:f.sizes≠g.sizes):Spec Tryz.prog 10 [sfV f,sfV g] [] (.tup [.v (.slice none 0 0),iv 4]) []:=by
 have h3:=h.lco he
 have hf2:=hf.sizes
 have hg2:=hg.sizes
 refine aE (E:=TE) 0 Tryz.func10 rfl (by simp [Tryz.f10]) fun X hn hX=>?_
 repeat'(first|refine wkQ ?_|refine Tw.f ?_ ?_|(refine kcQ lL ?_;refine krQ (oD (f:=f) (g:=g) (c:=0) ?_ ?_ ?_) ?_)|(refine kcQ dL ?_;refine krQ (gH ?_ ?_) ?_)|(refine fun(hc:(_:Bool)=_)=>?_;try simp only [hcS]at hc))
 all_goals try exact om_
 all_goals try((first|refine aB ?_|refine aA ?_);simp only [go_sem,simprocAttr,Tryz.f10])
 all_goals first|omega|exact absurd (by assumption) hs
theorem mZ {f g:SF} (hf:SFB f) (hg:SFB g) (h:SPair f g) (he:f.elems≤12) (hs:f.sizes=g.sizes) (hD:allM f g true=[]):Spec Tryz.prog 10 [sfV f,sfV g] [] (.tup [.v (.slice none 0 0),iv 4]) []:=by
 have h3:=h.lco he
 have hf2:=hf.sizes
 have hg2:=hg.sizes
 have hm:=aAT (b:=true) (m:=1) h (by decide) (by decide)
 rw [hD]at hm
 have hm:Spec Tryz.prog 49 [sfV f,sfV g, .v (.bool true),iv 1] [] (.sl 0) [(0,⟨1, .arr (aU [])⟩)]:=hm
 refine aE (E:=TE) 0 Tryz.func10 rfl (by simp [Tryz.f10]) fun X hn hX=>?_
 repeat'(first|refine wkQ ?_|refine Tw.f ?_ ?_|(refine kcQ lL ?_;refine krQ (oD (f:=f) (g:=g) (c:=0) ?_ ?_ ?_) ?_)|(refine kcQ dL ?_;refine krQ (gH ?_ ?_) ?_)|(refine kcQ wX ?_;refine kwQ (hm) [(0,2)] [] ?_)|(refine fun(hc:(_:Bool)=_)=>?_;try simp only [hcS]at hc))
 all_goals try exact om_
 all_goals try((first|refine aB ?_|refine aA ?_);simp only [go_sem,simprocAttr,Tryz.f10])
 all_goals first|omega|exact absurd hs (by assumption)|(simp at *;done)
theorem oE {f g:SF} {Q:List (List Int)} {D:List (List (List Int))} (hf:SFB f) (hg:SFB g) (h:SPair f g) (he:f.elems≤12) (hs:f.sizes=g.sizes) (hD:allM f g true=Q::D):Spec Tryz.prog 10 [sfV f,sfV g] [] (.tup [.bor [(0,1)] (aD Q),iv 0]) [(0,⟨1, .arr (aU [Q])⟩)]:=by
 have h3:=h.lco he
 have hf2:=hf.sizes
 have hg2:=hg.sizes
 have hm:=aAT (b:=true) (m:=1) h (by decide) (by decide)
 rw [hD]at hm
 have hm:Spec Tryz.prog 49 [sfV f,sfV g, .v (.bool true),iv 1] [] (.sl 0) [(0,⟨1, .arr (aU [Q])⟩)]:=hm
 refine aE (E:=TE) 0 Tryz.func10 rfl (by simp [Tryz.f10]) fun X hn hX=>?_
 repeat'(first|refine wkQ ?_|refine Tw.f ?_ ?_|(refine kcQ lL ?_;refine krQ (oD (f:=f) (g:=g) (c:=0) ?_ ?_ ?_) ?_)|(refine kcQ dL ?_;refine krQ (gH ?_ ?_) ?_)|(refine kcQ wX ?_;refine kwQ (hm) [(0,2)] [] ?_)|(refine fun(hc:(_:Bool)=_)=>?_;try simp only [hcS]at hc))
 all_goals try exact om_
 all_goals try((first|refine aB ?_|refine aA ?_);simp only [go_sem,simprocAttr,Tryz.f10])
 all_goals first|omega|exact absurd hs (by assumption)|(simp at *;done)
theorem sM {f g:SF} (hf:SFB f) (hg:SFB g) (h:SPair f g) (he:f.elems≤12) (hD:200<(allM f g false).length):Spec Tryz.prog 12 [sfV f,sfV g] [] (.tup [.v (.slice none 0 0),iv 3]) []:=by
 have h3:=h.sco
 have h4:=h.src
 have hset:=rG (M:=200) (by decide) h
 rw [aGO _ _ (by decide),List.nil_append,decide_eq_false (by omega)]at hset
 have hset:Spec Tryz.prog 50 [.bptr [] (sfD f), .bptr [] (sfD g),iv 200] [] (.tup [.sl 0, .v (.bool false)]) [(0,⟨1, .arr (aU ((allM f g false).take 201))⟩)]:=hset
 refine aE (E:=TE) 0 Tryz.func12 rfl (by simp [Tryz.f12]) fun X hn hX=>?_
 repeat'(first|refine wkQ ?_|refine Tw.f ?_ ?_|(refine kcQ dZ ?_;refine krQ (fO (f:=f) (g:=g) (c:=0) ?_ ?_ ?_) ?_)|(refine kcQ bL ?_;refine krQ (bO (f:=f) ?_) ?_)|(refine kcQ oZ ?_;refine kwQ (hset) [(0,2)] [0,1] ?_)|(refine fun(hc:(_:Bool)=_)=>?_;try simp only [hcS]at hc))
 all_goals try exact om_
 all_goals try((first|refine aB ?_|refine aA ?_);simp only [go_sem,simprocAttr,Tryz.f12])
 all_goals omega
theorem lV {f g:SF} (hf:SFB f) (hg:SFB g) (h:SPair f g) (he:f.elems≤12) (hD:(allM f g false).length≤200):Spec Tryz.prog 12 [sfV f,sfV g] [] (.tup [.sl 0,iv 0]) [(0,⟨1, .arr (aU (allM f g false))⟩)]:=by
 have h3:=h.sco
 have h4:=h.src
 have hset:=rG (M:=200) (by decide) h
 rw [aGO _ _ (by decide),List.nil_append,decide_eq_true (by omega),List.take_of_length_le (by omega)]at hset
 have hset:Spec Tryz.prog 50 [.bptr [] (sfD f), .bptr [] (sfD g),iv 200] [] (.tup [.sl 0, .v (.bool true)]) [(0,⟨1, .arr (aU (allM f g false))⟩)]:=hset
 refine aE (E:=TE) 0 Tryz.func12 rfl (by simp [Tryz.f12]) fun X hn hX=>?_
 repeat'(first|refine wkQ ?_|refine Tw.f ?_ ?_|(refine kcQ dZ ?_;refine krQ (fO (f:=f) (g:=g) (c:=0) ?_ ?_ ?_) ?_)|(refine kcQ bL ?_;refine krQ (bO (f:=f) ?_) ?_)|(refine kcQ oZ ?_;refine kwQ (hset) [(0,2)] [0,1] ?_)|(refine fun(hc:(_:Bool)=_)=>?_;try simp only [hcS]at hc))
 all_goals try exact om_
 all_goals try((first|refine aB ?_|refine aA ?_);simp only [go_sem,simprocAttr,Tryz.f12])
 all_goals omega
end Go.Eng
