/- Several texts in one: G01, G02, G03, G04. -/
import Derived.Test.YtipohdpnhodnmaaGreatKdx
import Derived.Test.YtipohdpnhodnmaaGreatTyq
import Derived.ChangeKeysEq
import Derived.KernelRfl
set_option linter.unusedSimpArgs false
set_option linter.unusedVariables false
set_option maxRecDepth 100000
set_option maxHeartbeats 8000000
section
namespace Go.Eng
open Go Go.Proofs Go.Cats
theorem aCk:TE.P.follows .mixedOrders=true:=rfl
theorem fX:aF Tryz.prog 137:=⟨_,Tryz.func137,rfl,rfl⟩
theorem iL {n lo hi:Int}:Spec Tryz.prog 137 [iv n,iv lo,iv hi] [] (bv (dec (lo≤n∧n≤hi))) []:=by
 refine aD (E:=TE) 0 Tryz.func137 rfl (by simp [Tryz.f137]) fun X hn hX=>?_
 repeat'(first|refine wkQ ?_|refine Tw.f ?_ ?_|(refine fun(hc:(_:Bool)=_)=>?_;try simp only [hcS]at hc))
 all_goals((first|refine aB ?_|refine aA ?_);simp only [go_sem,simprocAttr,Tryz.f137])
 ·rw [jC,Bool.decide_and];simp [hc]
 ·rw [mF];omega
theorem eV:aF Tryz.prog 151:=⟨_,Tryz.func151,rfl,rfl⟩
theorem gB {l:List Int} {n:Int} (hn':inR (n-1)) (hl:l.length≤1048576):Spec Tryz.prog 151 [.bor [] (ints l),iv n] [] (bv (dec (Within l n))) []:=by
 refine aD (E:=TE) 0 Tryz.func151 rfl (by simp [Tryz.f151]) fun X hn hX=>?_
 repeat'(first|refine wkQ ?_|refine Tw.f ?_ ?_|(refine fun(hc:(_:Bool)=_)=>?_;try simp only [hcS]at hc))
 refine aG (G:={i:Nat//i≤l.length∧(∀j,j<i→0≤l.getD j 0∧l.getD j 0<n)}) (fun⟨i,_⟩=>[(9,iv i)]) [1,7,8] (fun⟨i,_⟩=>[]) [] (fun zz=>l.length-zz.1) ⟨0,Nat.zero_le _,by omega⟩ ?_ ?_
 ·exact Imp.au hX
 rintro⟨i,hii,hwi⟩
 simp only [go_sem,simprocAttr]
 repeat'(first|refine wkQ ?_|refine Tw.f ?_ ?_|(refine kcQ fX ?_;refine krQ (iL) ?_)|(refine fun(hc:(_:Bool)=_)=>?_;try simp only [hcS]at hc))
 all_goals try(unfold inR at hn';omega)
 ·(first|refine aB ?_|refine aA ?_);simp only [go_sem,simprocAttr,Tryz.f151]
  rw [mF]
  intro h
  have:=h i (by omega)
  omega
 ·refine⟨⟨i+1,by omega,(by exact bW hwi (by omega))⟩,by simp only;omega,Imp.ao hX⟩
 ·(first|refine aB ?_|refine aA ?_);simp only [go_sem,simprocAttr,Tryz.f151]
  rw [lE]
  intro j hj
  exact hwi j (by omega)
theorem eB:aF Tryz.prog 195:=⟨_,Tryz.func195,rfl,rfl⟩
theorem fK {c:Cat} {f:Int} (h0:0≤f) (h1:f<c.fr.length) (h2:f<c.to.length):Spec Tryz.prog 195 [.bptr [] (dJ c),iv f] [] (.agg [iv (c.F f),iv (c.T f)]) []:=by
 refine aD (E:=TE) 0 Tryz.func195 rfl (by simp [Tryz.f195]) fun X hn hX=>?_
 repeat'(first|refine wkQ ?_|refine Tw.f ?_ ?_|(refine fun(hc:(_:Bool)=_)=>?_;try simp only [hcS]at hc))
 all_goals try omega
 (first|refine aB ?_|refine aA ?_);simp only [go_sem,simprocAttr,Tryz.f195]
theorem bJ:aF Tryz.prog 84:=⟨_,Tryz.func84,rfl,rfl⟩
theorem bS {c:Cat}:Spec Tryz.prog 84 [.bptr [] (dJ c)] [] (iv c.fr.length) []:=by
 refine aD (E:=TE) 0 Tryz.func84 rfl (by simp [Tryz.f84]) fun X hn hX=>?_
 repeat'(first|refine wkQ ?_|refine Tw.f ?_ ?_|(refine fun(hc:(_:Bool)=_)=>?_;try simp only [hcS]at hc))
 (first|refine aB ?_|refine aA ?_);simp only [go_sem,simprocAttr,Tryz.f84]
theorem bZ:aF Tryz.prog 132:=⟨_,Tryz.func132,rfl,rfl⟩
theorem cN {c:Cat} {f g:Int} (h0:0≤f) (h1:f<c.co.length) (h2:0≤g) (h3:g<(c.co.getD f.toNat []).length):Spec Tryz.prog 132 [.bptr [] (dJ c),iv f,iv g] [] (iv (c.C f g)) []:=by
 refine aD (E:=TE) 0 Tryz.func132 rfl (by simp [Tryz.f132]) fun X hn hX=>?_
 repeat'(first|refine wkQ ?_|refine Tw.f ?_ ?_|(refine fun(hc:(_:Bool)=_)=>?_;try simp only [hcS]at hc))
 all_goals try omega
 (first|refine aB ?_|refine aA ?_);simp only [go_sem,simprocAttr,Tryz.f132]
theorem fI:aF Tryz.prog 126:=⟨_,Tryz.func126,rfl,rfl⟩
theorem fO {c:Cat} {x y:Int} (hl:c.fr.length≤1048576) (ht:c.to.length=c.fr.length):Spec Tryz.prog 126 [.bptr [] (dJ c),iv x,iv y] [] (.sl 0) [(0,⟨1, .arr (ints (c.hom x y))⟩)]:=by
 refine aD (E:=TE) 0 Tryz.func126 rfl (by simp [Tryz.f126]) fun X hn hX=>?_
 repeat'(first|refine wkQ ?_|refine Tw.f ?_ ?_|(refine fun(hc:(_:Bool)=_)=>?_;try simp only [hcS]at hc))
 all_goals try omega
 refine aG (G:={i:Nat//i≤c.fr.length∧(True)}) (fun⟨i,_⟩=>[(15,iv i),(7, .sl 0)]) [0,1,2,6,14] (fun⟨i,_⟩=>[(0,⟨1, .arr (ints (c.homI x y i))⟩)]) [0] (fun zz=>c.fr.length-zz.1) ⟨0,Nat.zero_le _,by first|trivial|simp⟩ ?_ ?_
 ·exact Imp.au hX
 rintro⟨i,hii,hwi⟩
 simp only [go_sem,simprocAttr]
 have hlen:=c.homI_len x y i
 repeat'(first|refine wkQ ?_|refine Tw.f ?_ ?_|(refine fun(hc:(_:Bool)=_)=>?_;try simp only [hcS]at hc))
 all_goals try omega
 ·refine⟨⟨i+1,by omega,(by trivial)⟩,by simp only;omega,Imp.auto hX (by simp only [go_sem,simprocAttr,Cat.homI_succ, *])⟩
 ·refine⟨⟨i+1,by omega,(by trivial)⟩,by simp only;omega,Imp.auto hX (by simp only [go_sem,simprocAttr,Cat.homI_succ, *])⟩
 ·refine⟨⟨i+1,by omega,(by trivial)⟩,by simp only;omega,Imp.auto hX (by simp only [go_sem,simprocAttr,Cat.homI_succ, *])⟩
 ·(first|refine aB ?_|refine aA ?_);simp only [go_sem,simprocAttr,Tryz.f126]
  have:i=c.fr.length:=by omega
  subst this
  simp [Cat.hom]
end Go.Eng
end
section
namespace Go.Eng
open Go Go.Proofs Go.Cats
theorem aGb:EqP2 TE.P 256:=aLW Tryz.underlying256 (by decide) (by decide) Tryz.underlying2 (by first|exact Tryz.stoodInHeld256|kernel_rfl) (by first|exact Tryz.eqGuardType256|kernel_rfl) fun xs off w v h=>run_part_plain (P:=Tryz.prog) w (by kernel_rfl) h
theorem nY:aF Tryz.prog 133:=⟨_,Tryz.func133,rfl,rfl⟩
theorem pR {c:Cat} (hb:CatB c):Spec Tryz.prog 133 [.bptr [] (dJ c)] [] (bv (dec (Shape c))) []:=by
 refine aD (E:=TE) 0 Tryz.func133 rfl (by simp [Tryz.f133]) fun X hn hX=>?_
 obtain⟨b1,b2,b3,b4,b5,b6,b7⟩:=hb
 repeat'(first|(with_reducible first|refine St.f ?_|refine V_c ?_|refine eDn ?_|refine And.intro ?_ ?_|refine aI ?_ ?_|refine aN ?_)|((refine aQ ?_);intro K hK)|((with_reducible refine So.f ?_);intro K hK;simp(contextual:=true)only [go_sem,simprocAttr])|((with_reducible refine hK _ ?_);clear hK K)|((with_reducible refine aE 84 ?_);refine EvCall.rr (bS) bJ ?_)|((with_reducible refine aE 137 ?_);refine EvCall.rr (iL) fX ?_)|((with_reducible refine aE 151 ?_);refine EvCall.rr (gB ?_ ?_) eV ?_)|((with_reducible refine aE 195 ?_);refine EvCall.rr (fK ?_ ?_ ?_) eB ?_)|(refine fun(hc:(_:Bool)=_)=>?_;try simp only [hcS]at hc))
 all_goals try omega
 all_goals try((first|refine aB ?_|refine aA ?_);simp only [go_sem,simprocAttr,Tryz.f133];exact cW (fun s=>by obtain⟨s1,s2,s3,s4,s5,s6,s7,s8,s9,s10,s11⟩:=s;first|omega|contradiction|simp_all))
 have hI:Within c.id c.fr.length:=by assumption
 have hF:Within c.fr c.ob:=by assumption
 have hT:Within c.to c.ob:=by assumption
 refine aG (G:={i:Nat//i≤c.id.length∧(∀x,x<i→c.F (c.id.getD x 0)=x∧c.T (c.id.getD x 0)=x)}) (fun⟨i,_⟩=>[(88,iv i)]) [0,3,86,87] (fun⟨i,_⟩=>[]) [] (fun zz=>c.id.length-zz.1) ⟨0,Nat.zero_le _,by omega⟩ ?_ ?_
 ·exact Imp.au hX
 rintro⟨i,hii,hwi⟩
 simp only [go_sem,simprocAttr]
 have hIi:=hI i
 repeat'(first|(with_reducible first|refine St.f ?_|refine V_c ?_|refine eDn ?_|refine And.intro ?_ ?_|refine aI ?_ ?_|refine aN ?_)|((refine aQ ?_);intro K hK)|((with_reducible refine So.f ?_);intro K hK;simp(contextual:=true)only [go_sem,simprocAttr])|((with_reducible refine hK _ ?_);clear hK K)|((with_reducible refine aE 84 ?_);refine EvCall.rr (bS) bJ ?_)|((with_reducible refine aE 137 ?_);refine EvCall.rr (iL) fX ?_)|((with_reducible refine aE 151 ?_);refine EvCall.rr (gB ?_ ?_) eV ?_)|((with_reducible refine aE 195 ?_);refine EvCall.rr (fK ?_ ?_ ?_) eB ?_)|(refine aDy aGb (by simp only [go_sem,simprocAttr];rfl) (by simp only [go_sem,simprocAttr];rfl) ?_;simp only [go_sem,simprocAttr])|(refine fun(hc:(_:Bool)=_)=>?_;try simp only [hcS]at hc))
 all_goals try omega
 ·(first|refine aB ?_|refine aA ?_);simp only [go_sem,simprocAttr,Tryz.f133]
  exact cW (fun s=>by have h:=s.ide i (by omega);((try simp only [Cat.F,Cat.T,Cat.I,Cat.C,Fun.O,Fun.A,Cat.Entry,Int.toNat_natCast]at *);omega))
 ·refine⟨⟨i+1,by omega,(by exact bW hwi hc)⟩,by simp only;omega,Imp.ao hX⟩
 have hide:∀x,x<c.id.length→c.F (c.id.getD x 0)=x∧c.T (c.id.getD x 0)=x:=fun x hx=>hwi x (by omega)
 clear hwi hIi
 refine aG (G:={f:Nat//f≤c.co.length∧(∀k,k<f→(c.co.getD k []).length=c.fr.length∧∀g,g<c.fr.length→c.Entry k g)}) (fun⟨f,_⟩=>[(106,iv f)]) [0,3,104,105] (fun⟨f,_⟩=>[]) [] (fun zz=>c.co.length-zz.1) ⟨0,Nat.zero_le _,by omega⟩ ?_ ?_
 ·exact Imp.au hX
 rintro⟨f,hif,hwf⟩
 simp only [go_sem,simprocAttr]
 have b7f:=b7 f
 repeat'(first|(with_reducible first|refine St.f ?_|refine V_c ?_|refine eDn ?_|refine And.intro ?_ ?_|refine aI ?_ ?_|refine aN ?_)|((refine aQ ?_);intro K hK)|((with_reducible refine So.f ?_);intro K hK;simp(contextual:=true)only [go_sem,simprocAttr])|((with_reducible refine hK _ ?_);clear hK K)|((with_reducible refine aE 84 ?_);refine EvCall.rr (bS) bJ ?_)|((with_reducible refine aE 137 ?_);refine EvCall.rr (iL) fX ?_)|((with_reducible refine aE 151 ?_);refine EvCall.rr (gB ?_ ?_) eV ?_)|((with_reducible refine aE 195 ?_);refine EvCall.rr (fK ?_ ?_ ?_) eB ?_)|(refine fun(hc:(_:Bool)=_)=>?_;try simp only [hcS]at hc))
 all_goals try omega
 ·(first|refine aB ?_|refine aA ?_);simp only [go_sem,simprocAttr,Tryz.f133]
  exact cW (fun s=>by have h:=(s.coe f (by omega)).1;omega)
 refine aG (G:={g:Nat//g≤(c.co.getD f []).length∧(∀k,k<g→c.Entry f k)}) (fun⟨g,_⟩=>[(117,iv g)]) [0,3,6,104,105,106,115,116] (fun⟨g,_⟩=>[]) [] (fun zz=>(c.co.getD f []).length-zz.1) ⟨0,Nat.zero_le _,by omega⟩ ?_ ?_
 ·exact Imp.au hX
 rintro⟨g,hig,hwg⟩
 simp only [go_sem,simprocAttr]
 repeat'(first|(with_reducible first|refine St.f ?_|refine V_c ?_|refine eDn ?_|refine And.intro ?_ ?_|refine aI ?_ ?_|refine aN ?_)|((refine aQ ?_);intro K hK)|((with_reducible refine So.f ?_);intro K hK;simp(contextual:=true)only [go_sem,simprocAttr])|((with_reducible refine hK _ ?_);clear hK K)|((with_reducible refine aE 84 ?_);refine EvCall.rr (bS) bJ ?_)|((with_reducible refine aE 137 ?_);refine EvCall.rr (iL) fX ?_)|((with_reducible refine aE 151 ?_);refine EvCall.rr (gB ?_ ?_) eV ?_)|((with_reducible refine aE 195 ?_);refine EvCall.rr (fK ?_ ?_ ?_) eB ?_)|(refine aDy aGb (by simp only [go_sem,simprocAttr];rfl) (by simp only [go_sem,simprocAttr];rfl) ?_;simp only [go_sem,simprocAttr])|(refine fun(hc:(_:Bool)=_)=>?_;try simp only [hcS]at hc))
 all_goals try omega
 ·(first|refine aB ?_|refine aA ?_);simp only [go_sem,simprocAttr,Tryz.f133]
  exact cW (fun s=>by have h:=(s.coe f (by omega)).2 g (by omega);((try simp only [Cat.F,Cat.T,Cat.I,Cat.C,Fun.O,Fun.A,Cat.Entry,Int.toNat_natCast]at *);omega))
 ·refine⟨⟨g+1,by omega,(by exact bW hwg (by((try simp only [Cat.F,Cat.T,Cat.I,Cat.C,Fun.O,Fun.A,Cat.Entry,Int.toNat_natCast]at *);omega)))⟩,by simp only;omega,Imp.ao hX⟩
 ·(first|refine aB ?_|refine aA ?_);simp only [go_sem,simprocAttr,Tryz.f133]
  exact cW (fun s=>by have h:=(s.coe f (by omega)).2 g (by omega);((try simp only [Cat.F,Cat.T,Cat.I,Cat.C,Fun.O,Fun.A,Cat.Entry,Int.toNat_natCast]at *);omega))
 ·refine⟨⟨g+1,by omega,(by exact bW hwg (by((try simp only [Cat.F,Cat.T,Cat.I,Cat.C,Fun.O,Fun.A,Cat.Entry,Int.toNat_natCast]at *);omega)))⟩,by simp only;omega,Imp.ao hX⟩
 ·(first|refine aB ?_|refine aA ?_);simp only [go_sem,simprocAttr,Tryz.f133]
  exact cW (fun s=>by have h:=(s.coe f (by omega)).2 g (by omega);((try simp only [Cat.F,Cat.T,Cat.I,Cat.C,Fun.O,Fun.A,Cat.Entry,Int.toNat_natCast]at *);omega))
 ·refine⟨⟨f+1,by omega,(by exact bW hwf ⟨by omega,fun k hk=>hwg k (by omega)⟩)⟩,by simp only;omega,Imp.ao hX⟩
 ·(first|refine aB ?_|refine aA ?_);simp only [go_sem,simprocAttr,Tryz.f133]
  exact qF ⟨by omega,by omega,by omega,by omega,hF,hT,by assumption,hI,by omega,hide,fun k hk=>hwf k (by omega)⟩
end Go.Eng
end
section
namespace Go.Eng
open Go Go.Proofs Go.Cats
theorem qG:aF Tryz.prog 134:=⟨_,Tryz.func134,rfl,rfl⟩
theorem sQ {c:Cat} (s:Shape c):Spec Tryz.prog 134 [.bptr [] (dJ c)] [] (.tup [iv c.fault.1,iv c.fault.2.1,iv c.fault.2.2.1,iv c.fault.2.2.2]) []:=by
 refine aD (E:=TE) 0 Tryz.func134 rfl (by simp [Tryz.f134]) fun X hn hX=>?_
 have ⟨s1,s2,s3,s4,s5,s6,s7,s8,s9,s10,s11⟩:=s
 repeat'(first|refine wkQ ?_|refine Tw.f ?_ ?_|(refine kcQ bJ ?_;refine krQ (bS) ?_)|(refine fun(hc:(_:Bool)=_)=>?_;try simp only [hcS]at hc))
 refine aG (G:={f:Nat//f≤c.fr.length∧(aW f c.fault1=none)}) (fun⟨f,_⟩=>[(7,iv f)]) [0,6] (fun⟨f,_⟩=>[]) [] (fun zz=>c.fr.length-zz.1) ⟨0,Nat.zero_le _,by rfl⟩ ?_ ?_
 ·exact Imp.au hX
 rintro⟨f,hif,hwf⟩
 simp only [go_sem,simprocAttr]
 have hF:=s5 f
 have hT:=s6 f
 have hI1:=s8 (c.fr.getD f 0).toNat
 have hI2:=s8 (c.to.getD f 0).toNat
 have hr1:=fun h=>(s11 (c.id.getD (c.fr.getD f 0).toNat 0).toNat h).1
 have hr2:=fun h=>(s11 f h).1
 repeat'(first|refine wkQ ?_|refine Tw.f ?_ ?_|(refine kcQ bZ ?_;refine krQ (cN ?_ ?_ ?_ ?_) ?_)|(refine fun(hc:(_:Bool)=_)=>?_;try simp only [hcS]at hc))
 all_goals try((try simp only [Cat.F,Cat.T,Cat.I,Cat.C,Fun.O,Fun.A,Cat.Entry,Int.toNat_natCast]at *);omega)
 ·(first|refine aB ?_|refine aA ?_);simp only [go_sem,simprocAttr,Tryz.f134]
  rw [Cat.fault_1 hwf (by omega) (Cat.fault1_t (.inr hc))]
 ·refine⟨⟨f+1,by omega,(by exact aX hwf (Cat.fault1_f (by assumption) hc))⟩,by simp only;omega,Imp.ao hX⟩
 ·(first|refine aB ?_|refine aA ?_);simp only [go_sem,simprocAttr,Tryz.f134]
  rw [Cat.fault_1 hwf (by omega) (Cat.fault1_t (.inl hc))]
 have h1:aW c.fr.length c.fault1=none:=by
  have:f=c.fr.length:=by omega
  rw [←this];exact hwf
 clear hwf hF hT hI1 hI2 hr1 hr2
 refine aG (G:={f:Nat//f≤c.fr.length∧(aW f (fun f=>aW c.fr.length fun g=>c.fault2g f g)=none)}) (fun⟨f,_⟩=>[(8,iv f)]) [0,6] (fun⟨f,_⟩=>[]) [] (fun zz=>c.fr.length-zz.1) ⟨0,Nat.zero_le _,by rfl⟩ ?_ ?_
 ·exact Imp.au hX
 rintro⟨f,hif,hwf⟩
 simp only [go_sem,simprocAttr]
 repeat'(first|refine wkQ ?_|refine Tw.f ?_ ?_|(refine fun(hc:(_:Bool)=_)=>?_;try simp only [hcS]at hc))
 all_goals try((try simp only [Cat.F,Cat.T,Cat.I,Cat.C,Fun.O,Fun.A,Cat.Entry,Int.toNat_natCast]at *);omega)
 refine aG (G:={g:Nat//g≤c.fr.length∧(aW g (fun g=>c.fault2g f g)=none)}) (fun⟨g,_⟩=>[(9,iv g)]) [0,6,8] (fun⟨g,_⟩=>[]) [] (fun zz=>c.fr.length-zz.1) ⟨0,Nat.zero_le _,by rfl⟩ ?_ ?_
 ·exact Imp.au hX
 rintro⟨g,hig,hwg⟩
 simp only [go_sem,simprocAttr]
 have hr1:=fun h=>(s11 f h).1
 have hr2:=fun h=>(s11 f h).2 g
 have hr3:=fun h=>(s11 g h).1
 have hr4:=fun h=>(s11 ((c.co.getD f []).getD g 0).toNat h).1
 repeat'(first|refine wkQ ?_|refine Tw.f ?_ ?_|(refine kcQ bZ ?_;refine krQ (cN ?_ ?_ ?_ ?_) ?_)|(refine fun(hc:(_:Bool)=_)=>?_;try simp only [hcS]at hc))
 all_goals try((try simp only [Cat.F,Cat.T,Cat.I,Cat.C,Fun.O,Fun.A,Cat.Entry,Int.toNat_natCast]at *);omega)
 ·refine⟨⟨g+1,by omega,(by exact aX hwg (Cat.fault2g_f hc))⟩,by simp only;omega,Imp.ao hX⟩
 refine aG (G:={h:Nat//h≤c.fr.length∧(aW h (fun h=>c.fault2 f g h)=none)}) (fun⟨h,_⟩=>[(10,iv h)]) [0,6,8,9] (fun⟨h,_⟩=>[]) [] (fun zz=>c.fr.length-zz.1) ⟨0,Nat.zero_le _,by rfl⟩ ?_ ?_
 ·exact Imp.au hX
 rintro⟨h,hih,hwh⟩
 simp only [go_sem,simprocAttr]
 have hr5:=fun q=>(s11 g q).2 h
 repeat'(first|refine wkQ ?_|refine Tw.f ?_ ?_|(refine kcQ bZ ?_;refine krQ (cN ?_ ?_ ?_ ?_) ?_)|(refine fun(hc:(_:Bool)=_)=>?_;try simp only [hcS]at hc))
 all_goals try((try simp only [Cat.F,Cat.T,Cat.I,Cat.C,Fun.O,Fun.A,Cat.Entry,Int.toNat_natCast]at *);omega)
 ·(first|refine aB ?_|refine aA ?_);simp only [go_sem,simprocAttr,Tryz.f134]
  rw [Cat.fault_2 h1 hwf (by omega) hwg (by omega) (by omega) hwh (by omega) (Cat.fault2_t (by assumption) hc)]
 ·refine⟨⟨h+1,by omega,(by exact aX hwh (Cat.fault2_f fun _=>hc))⟩,by simp only;omega,Imp.ao hX⟩
 ·refine⟨⟨h+1,by omega,(by exact aX hwh (Cat.fault2_f fun _=>by omega))⟩,by simp only;omega,Imp.ao hX⟩
 ·refine⟨⟨g+1,by omega,(by exact aX hwg (by rw [Cat.fault2g_t (by omega)];exact bK hwh hih (by omega)))⟩,by simp only;omega,Imp.ao hX⟩
 ·refine⟨⟨f+1,by omega,(by exact aX hwf (bK hwg hig (by omega)))⟩,by simp only;omega,Imp.ao hX⟩
 ·(first|refine aB ?_|refine aA ?_);simp only [go_sem,simprocAttr,Tryz.f134]
  rw [Cat.fault_0 h1 (bK hwf hif (by omega))]
theorem fW:aF Tryz.prog 68:=⟨_,Tryz.func68,rfl,rfl⟩
theorem gP {c:Cat} (hb:CatB c):Spec Tryz.prog 68 [.bptr [] (dJ c)] [] (bv (dec (IsCat c))) []:=by
 refine aD (E:=TE) 0 Tryz.func68 rfl (by simp [Tryz.f68]) fun X hn hX=>?_
 repeat'(first|refine wkQ ?_|refine Tw.f ?_ ?_|(refine kcQ nY ?_;refine krQ (pR ?_) ?_)|(refine kcQ qG ?_;refine krQ (sQ ?_) ?_)|(refine fun(hc:(_:Bool)=_)=>?_;try simp only [hcS]at hc))
 all_goals try exact om_
 ·(first|refine aB ?_|refine aA ?_);simp only [go_sem,simprocAttr,Tryz.f68]
  exact cW (fun s=>hc s.toShape)
 ·(first|refine aB ?_|refine aA ?_);simp only [go_sem,simprocAttr,Tryz.f68]
  rw [←jC,cB hc.fault_zero]
end Go.Eng
end
section
namespace Go.Eng
open Go Go.Proofs Go.Cats
def cmp:List Int→List Int→Int
 |[],[]=>0
 |[],_::_=> -1
 |_::_,[]=>1
 |a::l,b::m=>if a=b then cmp l m else if a<b then-1 else 1
theorem aDc:∀(a b:List Int),cmp a b=0↔a=b
 |[],[]=>by simp [cmp]
 |[],_::_=>by simp [cmp]
 |_::_,[]=>by simp [cmp]
 |a::l,b::m=>by
  simp only [cmp,List.cons.injEq]
  split
  ·rename_i h;rw [aDc l m];exact⟨fun k=>⟨h,k⟩,fun k=>k.2⟩
  ·rename_i h;split<;>simp [h]
theorem mC:∀(a b:List Int) (i:Nat),a.take i=b.take i→i≤a.length→i≤b.length→cmp a b=cmp (a.drop i) (b.drop i)
 |_,_,0,_,_,_=>rfl
 |[],_,i+1,_,h,_=>by simp at h
 |_::_,[],i+1,_,_,h=>by simp at h
 |a::l,b::m,i+1,h,k1,k2=>by
  simp only [List.take_succ_cons,List.cons.injEq]at h
  simp only [cmp,h.1,if_true,List.drop_succ_cons]
  exact mC l m i h.2 (by simpa using k1) (by simpa using k2)
theorem jN (l:List Int) (i:Nat) (h:i<l.length):l.drop i=l.getD i 0::l.drop (i+1):=by
 rw [gL h];exact List.drop_eq_getElem_cons h
theorem aCS {a b:List Int} {i:Nat} (h:a.take i=b.take i) (ha:i<a.length) (hb:i<b.length) (e:a.getD i 0=b.getD i 0):a.take (i+1)=b.take (i+1):=by
 rw [gL ha,gL hb]at e
 rw [List.take_succ_eq_append_getElem ha,List.take_succ_eq_append_getElem hb,h,e]
theorem aC2:aF Tryz.prog 150:=⟨_,Tryz.func150,rfl,rfl⟩
theorem aFv {a b:List Int} (ha:a.length≤1048576) (hb:b.length≤1048576):Spec Tryz.prog 150 [.bor [] (ints a), .bor [] (ints b)] [] (iv (cmp a b)) []:=by
 refine aD (E:=TE) 0 Tryz.func150 rfl (by simp [Tryz.f150]) fun X hn hX=>?_
 repeat'(first|refine wkQ ?_|refine Tw.f ?_ ?_|(refine fun(hc:(_:Bool)=_)=>?_;try simp only [hcS]at hc))
 all_goals try exact om_
 refine aG (G:={i:Nat//i≤a.length∧(i≤b.length∧a.take i=b.take i)}) (fun⟨i,_⟩=>[(8,iv i)]) [0,1,7] (fun⟨i,_⟩=>[]) [] (fun zz=>a.length-zz.1) ⟨0,Nat.zero_le _,by simp⟩ ?_ ?_
 ·exact Imp.au hX
 rintro⟨i,hii,hwi⟩
 simp only [go_sem,simprocAttr]
 repeat'(first|refine wkQ ?_|refine Tw.f ?_ ?_|(refine fun(hc:(_:Bool)=_)=>?_;try simp only [hcS]at hc))
 all_goals try exact om_
 ·(first|refine aB ?_|refine aA ?_);simp only [go_sem,simprocAttr,Tryz.f150]
  rw [mC a b i hwi.2 hii hwi.1,jN a i (by omega),List.drop_eq_nil_of_le (by omega:b.length≤i)];rfl
 ·(first|refine aB ?_|refine aA ?_);simp only [go_sem,simprocAttr,Tryz.f150]
  rw [mC a b i hwi.2 hii hwi.1,jN a i (by omega),jN b i (by omega)];simp only [cmp];rw [if_neg (by assumption),if_pos hc]
 ·(first|refine aB ?_|refine aA ?_);simp only [go_sem,simprocAttr,Tryz.f150]
  rw [mC a b i hwi.2 hii hwi.1,jN a i (by omega),jN b i (by omega)];simp only [cmp];rw [if_neg (by assumption),if_neg (by omega)]
 ·refine⟨⟨i+1,by omega,(by exact⟨by omega,aCS hwi.2 (by omega) (by omega) hc⟩)⟩,by simp only;omega,Imp.ao hX⟩
 ·(first|refine aB ?_|refine aA ?_);simp only [go_sem,simprocAttr,Tryz.f150]
  rw [mC a b i hwi.2 hii hwi.1,List.drop_eq_nil_of_le (by omega:a.length≤i),jN b i (by omega)];rfl
 ·(first|refine aB ?_|refine aA ?_);simp only [go_sem,simprocAttr,Tryz.f150]
  rw [mC a b i hwi.2 hii hwi.1,List.drop_eq_nil_of_le (by omega:a.length≤i),List.drop_eq_nil_of_le (by omega:b.length≤i)];rfl
theorem aC8:aF Tryz.prog 105:=⟨_,Tryz.func105,rfl,rfl⟩
theorem aGM {a b:List Int} (ha:a.length≤1048576) (hb:b.length≤1048576):Spec Tryz.prog 105 [.bor [] (ints a), .bor [] (ints b)] [] (bv (dec (a=b))) []:=by
 refine aD (E:=TE) 0 Tryz.func105 rfl (by simp [Tryz.f105]) fun X hn hX=>?_
 repeat'(first|refine wkQ ?_|refine Tw.f ?_ ?_|(refine kcQ aC2 ?_;refine krQ (aFv ?_ ?_) ?_)|(refine fun(hc:(_:Bool)=_)=>?_;try simp only [hcS]at hc))
 all_goals try exact om_
 (first|refine aB ?_|refine aA ?_);simp only [go_sem,simprocAttr,Tryz.f105]
 rw [←jC,cB (aDc a b)]
theorem tM:aF Tryz.prog 104:=⟨_,Tryz.func104,rfl,rfl⟩
theorem wA {c d:Cat} (hc0:CatB c) (hd0:CatB d):Spec Tryz.prog 104 [.bptr [] (dJ c), .bptr [] (dJ d)] [] (bv (dec (c=d))) []:=by
 refine aD (E:=TE) 0 Tryz.func104 rfl (by simp [Tryz.f104]) fun X hn hX=>?_
 obtain⟨b1,b2,b3,b4,b5,b6,b7⟩:=hc0
 obtain⟨d1,d2,d3,d4,d5,d6,d7⟩:=hd0
 repeat'(first|refine wkQ ?_|refine Tw.f ?_ ?_|(refine kcQ aC8 ?_;refine krQ (aGM ?_ ?_) ?_)|(refine fun(hc:(_:Bool)=_)=>?_;try simp only [hcS]at hc))
 all_goals try exact om_
 all_goals try((first|refine aB ?_|refine aA ?_);simp only [go_sem,simprocAttr,Tryz.f104];exact cW (fun s=>by subst s;first|contradiction|omega))
 refine aG (G:={i:Nat//i≤c.co.length∧(c.co.take i=d.co.take i)}) (fun⟨i,_⟩=>[(69,iv i)]) [0,1,68] (fun⟨i,_⟩=>[]) [] (fun zz=>c.co.length-zz.1) ⟨0,Nat.zero_le _,by simp⟩ ?_ ?_
 ·exact Imp.au hX
 rintro⟨i,hii,hwi⟩
 simp only [go_sem,simprocAttr]
 have h7:=b7 i
 have h8:=d7 i
 repeat'(first|refine wkQ ?_|refine Tw.f ?_ ?_|(refine kcQ aC8 ?_;refine krQ (aGM ?_ ?_) ?_)|(refine fun(hc:(_:Bool)=_)=>?_;try simp only [hcS]at hc))
 all_goals try exact om_
 ·(first|refine aB ?_|refine aA ?_);simp only [go_sem,simprocAttr,Tryz.f104]
  exact cW (fun s=>by subst s;exact hc rfl)
 ·refine⟨⟨i+1,by omega,(by exact mO hwi (by omega) (by omega) hc)⟩,by simp only;omega,Imp.ao hX⟩
 ·(first|refine aB ?_|refine aA ?_);simp only [go_sem,simprocAttr,Tryz.f104]
  exact qF (Cat.eq (by assumption) (by assumption) (by assumption) (by assumption) (tF hwi (by omega) (by omega)))
theorem jM:aF Tryz.prog 135:=⟨_,Tryz.func135,rfl,rfl⟩
theorem mN {l:List Int} (hl:l.length≤1048576):Spec Tryz.prog 135 [.bor [] (ints l)] [] (.sl 0) [(0,⟨1, .arr (ints l)⟩)]:=by
 refine aD (E:=TE) 0 Tryz.func135 rfl (by simp [Tryz.f135]) fun X hn hX=>?_
 repeat'(first|refine wkQ ?_|refine Tw.f ?_ ?_|(refine fun(hc:(_:Bool)=_)=>?_;try simp only [hcS]at hc))
 all_goals try exact om_
 (first|refine aB ?_|refine aA ?_);simp only [go_sem,simprocAttr,Tryz.f135]
theorem qK:aF Tryz.prog 108:=⟨_,Tryz.func108,rfl,rfl⟩
theorem uD {l:List (List Int)} (hl:l.length≤1048576) (hr:∀i,i<l.length→(l.getD i []).length≤1048576):Spec Tryz.prog 108 [.bor [] (aC l)] [] (.sl 0) [(0,⟨1, .arr (aC l)⟩)]:=by
 refine aD (E:=TE) 0 Tryz.func108 rfl (by simp [Tryz.f108]) fun X hn hX=>?_
 repeat'(first|refine wkQ ?_|refine Tw.f ?_ ?_|(refine fun(hc:(_:Bool)=_)=>?_;try simp only [hcS]at hc))
 all_goals try exact om_
 refine aG (G:={i:Nat//i≤l.length∧(True)}) (fun⟨i,_⟩=>[(11,iv i),(3, .sl 0)]) [2,9,10] (fun⟨i,_⟩=>[(0,⟨1, .arr (aC (l.take i))⟩)]) [0] (fun zz=>l.length-zz.1) ⟨0,Nat.zero_le _,by first|trivial|simp⟩ ?_ ?_
 ·exact Imp.au hX
 rintro⟨i,hii,hwi⟩
 simp only [go_sem,simprocAttr]
 have h1:=hr i
 have h2:(l.take i).length≤i:=by simp;omega
 repeat'(first|refine wkQ ?_|refine Tw.f ?_ ?_|(refine kcQ jM ?_;refine krQ (mN ?_) ?_)|(refine fun(hc:(_:Bool)=_)=>?_;try simp only [hcS]at hc))
 all_goals try exact om_
 ·refine⟨⟨i+1,by omega,(by trivial)⟩,by simp only;omega,Imp.auto hX (by simp only [go_sem,simprocAttr,aBO (d:=[]) (show i<l.length by omega)])⟩
 ·(first|refine aB ?_|refine aA ?_);simp only [go_sem,simprocAttr,Tryz.f108]
  rw [List.take_of_length_le (by omega)]
end Go.Eng
end
