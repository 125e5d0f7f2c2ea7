/- Several texts in one: G01, G02, G03, G04. -/
import Derived.Test.YthgijhnmcglppaaGreatKdx
import Derived.Test.YthgijhnmcglppaaGreatTyq
import Derived.ChangeKeysEq
import Derived.KernelRfl
set_option linter.unusedSimpArgs false
set_option linter.unusedVariables false
set_option maxRecDepth 100000
set_option maxHeartbeats 8000000
section
namespace Go.Eng
open Go Go.Proofs Go.Cats
theorem aDb:TE.P.follows .mixedOrders=true:=rfl
theorem dQ:aE Tryz.prog 91:=⟨_,Tryz.func91,rfl,rfl⟩
theorem fF {n lo hi:Int}:Spec Tryz.prog 91 [iv n,iv lo,iv hi] [] (bv (dec (lo≤n∧n≤hi))) []:=by
 refine aD (E:=TE) 0 Tryz.func91 rfl (by simp [Tryz.f91]) fun X hn hX=>?_
 repeat'(first|refine wkQ ?_|refine Tw.f ?_ ?_|(refine fun(hc:(_:Bool)=_)=>?_;try simp only [hcS]at hc))
 all_goals((first|refine aB ?_|refine aA ?_);simp only [go_sem,simprocAttr,Tryz.f91])
 ·rw [jC,Bool.decide_and];simp [hc]
 ·rw [pZ];omega
theorem dW:aE Tryz.prog 207:=⟨_,Tryz.func207,rfl,rfl⟩
theorem fM {l:List Int} {n:Int} (hn':inR (n-1)) (hl:l.length≤1048576):Spec Tryz.prog 207 [.bor [] (ints l),iv n] [] (bv (dec (Within l n))) []:=by
 refine aD (E:=TE) 0 Tryz.func207 rfl (by simp [Tryz.f207]) fun X hn hX=>?_
 repeat'(first|refine wkQ ?_|refine Tw.f ?_ ?_|(refine fun(hc:(_:Bool)=_)=>?_;try simp only [hcS]at hc))
 refine aH (G:={i:Nat//i≤l.length∧(∀j,j<i→0≤l.getD j 0∧l.getD j 0<n)}) (fun⟨i,_⟩=>[(9,iv i)]) [1,7,8] (fun⟨i,_⟩=>[]) [] (fun zz=>l.length-zz.1) ⟨0,Nat.zero_le _,by omega⟩ ?_ ?_
 ·exact Imp.au hX
 rintro⟨i,hii,hwi⟩
 simp only [go_sem,simprocAttr]
 repeat'(first|refine wkQ ?_|refine Tw.f ?_ ?_|(refine kcQ dQ ?_;refine krQ (fF) ?_)|(refine fun(hc:(_:Bool)=_)=>?_;try simp only [hcS]at hc))
 all_goals try(unfold inR at hn';omega)
 ·(first|refine aB ?_|refine aA ?_);simp only [go_sem,simprocAttr,Tryz.f207]
  rw [pZ]
  intro h
  have:=h i (by omega)
  omega
 ·refine⟨⟨i+1,by omega,(by exact bU hwi (by omega))⟩,by simp only;omega,Imp.ao hX⟩
 ·(first|refine aB ?_|refine aA ?_);simp only [go_sem,simprocAttr,Tryz.f207]
  rw [mG]
  intro j hj
  exact hwi j (by omega)
theorem eU:aE Tryz.prog 276:=⟨_,Tryz.func276,rfl,rfl⟩
theorem fJ {c:Cat} {f:Int} (h0:0≤f) (h1:f<c.fr.length) (h2:f<c.to.length):Spec Tryz.prog 276 [.bptr [] (fP c),iv f] [] (.agg [iv (c.F f),iv (c.T f)]) []:=by
 refine aD (E:=TE) 0 Tryz.func276 rfl (by simp [Tryz.f276]) fun X hn hX=>?_
 repeat'(first|refine wkQ ?_|refine Tw.f ?_ ?_|(refine fun(hc:(_:Bool)=_)=>?_;try simp only [hcS]at hc))
 all_goals try omega
 (first|refine aB ?_|refine aA ?_);simp only [go_sem,simprocAttr,Tryz.f276]
theorem bR:aE Tryz.prog 82:=⟨_,Tryz.func82,rfl,rfl⟩
theorem bX {c:Cat}:Spec Tryz.prog 82 [.bptr [] (fP c)] [] (iv c.fr.length) []:=by
 refine aD (E:=TE) 0 Tryz.func82 rfl (by simp [Tryz.f82]) fun X hn hX=>?_
 repeat'(first|refine wkQ ?_|refine Tw.f ?_ ?_|(refine fun(hc:(_:Bool)=_)=>?_;try simp only [hcS]at hc))
 (first|refine aB ?_|refine aA ?_);simp only [go_sem,simprocAttr,Tryz.f82]
theorem eV:aE Tryz.prog 209:=⟨_,Tryz.func209,rfl,rfl⟩
theorem fK {c:Cat} {f g:Int} (h0:0≤f) (h1:f<c.co.length) (h2:0≤g) (h3:g<(c.co.getD f.toNat []).length):Spec Tryz.prog 209 [.bptr [] (fP c),iv f,iv g] [] (iv (c.C f g)) []:=by
 refine aD (E:=TE) 0 Tryz.func209 rfl (by simp [Tryz.f209]) fun X hn hX=>?_
 repeat'(first|refine wkQ ?_|refine Tw.f ?_ ?_|(refine fun(hc:(_:Bool)=_)=>?_;try simp only [hcS]at hc))
 all_goals try omega
 (first|refine aB ?_|refine aA ?_);simp only [go_sem,simprocAttr,Tryz.f209]
theorem iC:aE Tryz.prog 124:=⟨_,Tryz.func124,rfl,rfl⟩
theorem jD {c:Cat} {x y:Int} (hl:c.fr.length≤1048576) (ht:c.to.length=c.fr.length):Spec Tryz.prog 124 [.bptr [] (fP c),iv x,iv y] [] (.sl 0) [(0,⟨1, .arr (ints (c.hom x y))⟩)]:=by
 refine aD (E:=TE) 0 Tryz.func124 rfl (by simp [Tryz.f124]) fun X hn hX=>?_
 repeat'(first|refine wkQ ?_|refine Tw.f ?_ ?_|(refine fun(hc:(_:Bool)=_)=>?_;try simp only [hcS]at hc))
 all_goals try omega
 refine aH (G:={i:Nat//i≤c.fr.length∧(True)}) (fun⟨i,_⟩=>[(15,iv i),(7, .sl 0)]) [0,1,2,6,14] (fun⟨i,_⟩=>[(0,⟨1, .arr (ints (c.homI x y i))⟩)]) [0] (fun zz=>c.fr.length-zz.1) ⟨0,Nat.zero_le _,by first|trivial|simp⟩ ?_ ?_
 ·exact Imp.au hX
 rintro⟨i,hii,hwi⟩
 simp only [go_sem,simprocAttr]
 have hlen:=c.homI_len x y i
 repeat'(first|refine wkQ ?_|refine Tw.f ?_ ?_|(refine fun(hc:(_:Bool)=_)=>?_;try simp only [hcS]at hc))
 all_goals try omega
 ·refine⟨⟨i+1,by omega,(by trivial)⟩,by simp only;omega,Imp.auto hX (by simp only [go_sem,simprocAttr,Cat.homI_succ, *])⟩
 ·refine⟨⟨i+1,by omega,(by trivial)⟩,by simp only;omega,Imp.auto hX (by simp only [go_sem,simprocAttr,Cat.homI_succ, *])⟩
 ·refine⟨⟨i+1,by omega,(by trivial)⟩,by simp only;omega,Imp.auto hX (by simp only [go_sem,simprocAttr,Cat.homI_succ, *])⟩
 ·(first|refine aB ?_|refine aA ?_);simp only [go_sem,simprocAttr,Tryz.f124]
  have:i=c.fr.length:=by omega
  subst this
  simp [Cat.hom]
end Go.Eng
end
section
namespace Go.Eng
open Go Go.Proofs Go.Cats
theorem aFF:EqP2 TE.P 316:=aKN Tryz.underlying316 (by decide) (by decide) Tryz.underlying2 (by first|exact Tryz.stoodInHeld316|kernel_rfl) (by first|exact Tryz.eqGuardType316|kernel_rfl) fun xs off w v h=>run_part_plain (P:=Tryz.prog) w (by kernel_rfl) h
theorem oA:aE Tryz.prog 196:=⟨_,Tryz.func196,rfl,rfl⟩
theorem pU {c:Cat} (hb:CatB c):Spec Tryz.prog 196 [.bptr [] (fP c)] [] (bv (dec (Shape c))) []:=by
 refine aD (E:=TE) 0 Tryz.func196 rfl (by simp [Tryz.f196]) fun X hn hX=>?_
 obtain⟨b1,b2,b3,b4,b5,b6,b7⟩:=hb
 repeat'(first|(with_reducible first|refine St.f ?_|refine V_c ?_|refine eDn ?_|refine And.intro ?_ ?_|refine aJ ?_ ?_|refine aQ ?_)|((refine aT ?_);intro K hK)|((with_reducible refine So.f ?_);intro K hK;simp(contextual:=true)only [go_sem,simprocAttr])|((with_reducible refine hK _ ?_);clear hK K)|((with_reducible refine aG 82 ?_);refine EvCall.rr (bX) bR ?_)|((with_reducible refine aG 91 ?_);refine EvCall.rr (fF) dQ ?_)|((with_reducible refine aG 207 ?_);refine EvCall.rr (fM ?_ ?_) dW ?_)|((with_reducible refine aG 276 ?_);refine EvCall.rr (fJ ?_ ?_ ?_) eU ?_)|(refine fun(hc:(_:Bool)=_)=>?_;try simp only [hcS]at hc))
 all_goals try omega
 all_goals try((first|refine aB ?_|refine aA ?_);simp only [go_sem,simprocAttr,Tryz.f196];exact cK (fun s=>by obtain⟨s1,s2,s3,s4,s5,s6,s7,s8,s9,s10,s11⟩:=s;first|omega|contradiction|simp_all))
 have hI:Within c.id c.fr.length:=by assumption
 have hF:Within c.fr c.ob:=by assumption
 have hT:Within c.to c.ob:=by assumption
 refine aH (G:={i:Nat//i≤c.id.length∧(∀x,x<i→c.F (c.id.getD x 0)=x∧c.T (c.id.getD x 0)=x)}) (fun⟨i,_⟩=>[(88,iv i)]) [0,3,86,87] (fun⟨i,_⟩=>[]) [] (fun zz=>c.id.length-zz.1) ⟨0,Nat.zero_le _,by omega⟩ ?_ ?_
 ·exact Imp.au hX
 rintro⟨i,hii,hwi⟩
 simp only [go_sem,simprocAttr]
 have hIi:=hI i
 repeat'(first|(with_reducible first|refine St.f ?_|refine V_c ?_|refine eDn ?_|refine And.intro ?_ ?_|refine aJ ?_ ?_|refine aQ ?_)|((refine aT ?_);intro K hK)|((with_reducible refine So.f ?_);intro K hK;simp(contextual:=true)only [go_sem,simprocAttr])|((with_reducible refine hK _ ?_);clear hK K)|((with_reducible refine aG 82 ?_);refine EvCall.rr (bX) bR ?_)|((with_reducible refine aG 91 ?_);refine EvCall.rr (fF) dQ ?_)|((with_reducible refine aG 207 ?_);refine EvCall.rr (fM ?_ ?_) dW ?_)|((with_reducible refine aG 276 ?_);refine EvCall.rr (fJ ?_ ?_ ?_) eU ?_)|(refine aDf aFF (by simp only [go_sem,simprocAttr];rfl) (by simp only [go_sem,simprocAttr];rfl) ?_;simp only [go_sem,simprocAttr])|(refine fun(hc:(_:Bool)=_)=>?_;try simp only [hcS]at hc))
 all_goals try omega
 ·(first|refine aB ?_|refine aA ?_);simp only [go_sem,simprocAttr,Tryz.f196]
  exact cK (fun s=>by have h:=s.ide i (by omega);((try simp only [Cat.F,Cat.T,Cat.I,Cat.C,Fun.O,Fun.A,Cat.Entry,Int.toNat_natCast]at *);omega))
 ·refine⟨⟨i+1,by omega,(by exact bU hwi hc)⟩,by simp only;omega,Imp.ao hX⟩
 have hide:∀x,x<c.id.length→c.F (c.id.getD x 0)=x∧c.T (c.id.getD x 0)=x:=fun x hx=>hwi x (by omega)
 clear hwi hIi
 refine aH (G:={f:Nat//f≤c.co.length∧(∀k,k<f→(c.co.getD k []).length=c.fr.length∧∀g,g<c.fr.length→c.Entry k g)}) (fun⟨f,_⟩=>[(106,iv f)]) [0,3,104,105] (fun⟨f,_⟩=>[]) [] (fun zz=>c.co.length-zz.1) ⟨0,Nat.zero_le _,by omega⟩ ?_ ?_
 ·exact Imp.au hX
 rintro⟨f,hif,hwf⟩
 simp only [go_sem,simprocAttr]
 have b7f:=b7 f
 repeat'(first|(with_reducible first|refine St.f ?_|refine V_c ?_|refine eDn ?_|refine And.intro ?_ ?_|refine aJ ?_ ?_|refine aQ ?_)|((refine aT ?_);intro K hK)|((with_reducible refine So.f ?_);intro K hK;simp(contextual:=true)only [go_sem,simprocAttr])|((with_reducible refine hK _ ?_);clear hK K)|((with_reducible refine aG 82 ?_);refine EvCall.rr (bX) bR ?_)|((with_reducible refine aG 91 ?_);refine EvCall.rr (fF) dQ ?_)|((with_reducible refine aG 207 ?_);refine EvCall.rr (fM ?_ ?_) dW ?_)|((with_reducible refine aG 276 ?_);refine EvCall.rr (fJ ?_ ?_ ?_) eU ?_)|(refine fun(hc:(_:Bool)=_)=>?_;try simp only [hcS]at hc))
 all_goals try omega
 ·(first|refine aB ?_|refine aA ?_);simp only [go_sem,simprocAttr,Tryz.f196]
  exact cK (fun s=>by have h:=(s.coe f (by omega)).1;omega)
 refine aH (G:={g:Nat//g≤(c.co.getD f []).length∧(∀k,k<g→c.Entry f k)}) (fun⟨g,_⟩=>[(117,iv g)]) [0,3,6,104,105,106,115,116] (fun⟨g,_⟩=>[]) [] (fun zz=>(c.co.getD f []).length-zz.1) ⟨0,Nat.zero_le _,by omega⟩ ?_ ?_
 ·exact Imp.au hX
 rintro⟨g,hig,hwg⟩
 simp only [go_sem,simprocAttr]
 repeat'(first|(with_reducible first|refine St.f ?_|refine V_c ?_|refine eDn ?_|refine And.intro ?_ ?_|refine aJ ?_ ?_|refine aQ ?_)|((refine aT ?_);intro K hK)|((with_reducible refine So.f ?_);intro K hK;simp(contextual:=true)only [go_sem,simprocAttr])|((with_reducible refine hK _ ?_);clear hK K)|((with_reducible refine aG 82 ?_);refine EvCall.rr (bX) bR ?_)|((with_reducible refine aG 91 ?_);refine EvCall.rr (fF) dQ ?_)|((with_reducible refine aG 207 ?_);refine EvCall.rr (fM ?_ ?_) dW ?_)|((with_reducible refine aG 276 ?_);refine EvCall.rr (fJ ?_ ?_ ?_) eU ?_)|(refine aDf aFF (by simp only [go_sem,simprocAttr];rfl) (by simp only [go_sem,simprocAttr];rfl) ?_;simp only [go_sem,simprocAttr])|(refine fun(hc:(_:Bool)=_)=>?_;try simp only [hcS]at hc))
 all_goals try omega
 ·(first|refine aB ?_|refine aA ?_);simp only [go_sem,simprocAttr,Tryz.f196]
  exact cK (fun s=>by have h:=(s.coe f (by omega)).2 g (by omega);((try simp only [Cat.F,Cat.T,Cat.I,Cat.C,Fun.O,Fun.A,Cat.Entry,Int.toNat_natCast]at *);omega))
 ·refine⟨⟨g+1,by omega,(by exact bU hwg (by((try simp only [Cat.F,Cat.T,Cat.I,Cat.C,Fun.O,Fun.A,Cat.Entry,Int.toNat_natCast]at *);omega)))⟩,by simp only;omega,Imp.ao hX⟩
 ·(first|refine aB ?_|refine aA ?_);simp only [go_sem,simprocAttr,Tryz.f196]
  exact cK (fun s=>by have h:=(s.coe f (by omega)).2 g (by omega);((try simp only [Cat.F,Cat.T,Cat.I,Cat.C,Fun.O,Fun.A,Cat.Entry,Int.toNat_natCast]at *);omega))
 ·refine⟨⟨g+1,by omega,(by exact bU hwg (by((try simp only [Cat.F,Cat.T,Cat.I,Cat.C,Fun.O,Fun.A,Cat.Entry,Int.toNat_natCast]at *);omega)))⟩,by simp only;omega,Imp.ao hX⟩
 ·(first|refine aB ?_|refine aA ?_);simp only [go_sem,simprocAttr,Tryz.f196]
  exact cK (fun s=>by have h:=(s.coe f (by omega)).2 g (by omega);((try simp only [Cat.F,Cat.T,Cat.I,Cat.C,Fun.O,Fun.A,Cat.Entry,Int.toNat_natCast]at *);omega))
 ·refine⟨⟨f+1,by omega,(by exact bU hwf ⟨by omega,fun k hk=>hwg k (by omega)⟩)⟩,by simp only;omega,Imp.ao hX⟩
 ·(first|refine aB ?_|refine aA ?_);simp only [go_sem,simprocAttr,Tryz.f196]
  exact rK ⟨by omega,by omega,by omega,by omega,hF,hT,by assumption,hI,by omega,hide,fun k hk=>hwf k (by omega)⟩
end Go.Eng
end
section
namespace Go.Eng
open Go Go.Proofs Go.Cats
theorem qG:aE Tryz.prog 197:=⟨_,Tryz.func197,rfl,rfl⟩
theorem sV {c:Cat} (s:Shape c):Spec Tryz.prog 197 [.bptr [] (fP c)] [] (.tup [iv c.fault.1,iv c.fault.2.1,iv c.fault.2.2.1,iv c.fault.2.2.2]) []:=by
 refine aD (E:=TE) 0 Tryz.func197 rfl (by simp [Tryz.f197]) fun X hn hX=>?_
 have ⟨s1,s2,s3,s4,s5,s6,s7,s8,s9,s10,s11⟩:=s
 repeat'(first|refine wkQ ?_|refine Tw.f ?_ ?_|(refine kcQ bR ?_;refine krQ (bX) ?_)|(refine fun(hc:(_:Bool)=_)=>?_;try simp only [hcS]at hc))
 refine aH (G:={f:Nat//f≤c.fr.length∧(aW f c.fault1=none)}) (fun⟨f,_⟩=>[(7,iv f)]) [0,6] (fun⟨f,_⟩=>[]) [] (fun zz=>c.fr.length-zz.1) ⟨0,Nat.zero_le _,by rfl⟩ ?_ ?_
 ·exact Imp.au hX
 rintro⟨f,hif,hwf⟩
 simp only [go_sem,simprocAttr]
 have hF:=s5 f
 have hT:=s6 f
 have hI1:=s8 (c.fr.getD f 0).toNat
 have hI2:=s8 (c.to.getD f 0).toNat
 have hr1:=fun h=>(s11 (c.id.getD (c.fr.getD f 0).toNat 0).toNat h).1
 have hr2:=fun h=>(s11 f h).1
 repeat'(first|refine wkQ ?_|refine Tw.f ?_ ?_|(refine kcQ eV ?_;refine krQ (fK ?_ ?_ ?_ ?_) ?_)|(refine fun(hc:(_:Bool)=_)=>?_;try simp only [hcS]at hc))
 all_goals try((try simp only [Cat.F,Cat.T,Cat.I,Cat.C,Fun.O,Fun.A,Cat.Entry,Int.toNat_natCast]at *);omega)
 ·(first|refine aB ?_|refine aA ?_);simp only [go_sem,simprocAttr,Tryz.f197]
  rw [Cat.fault_1 hwf (by omega) (Cat.fault1_t (.inr hc))]
 ·refine⟨⟨f+1,by omega,(by exact aY hwf (Cat.fault1_f (by assumption) hc))⟩,by simp only;omega,Imp.ao hX⟩
 ·(first|refine aB ?_|refine aA ?_);simp only [go_sem,simprocAttr,Tryz.f197]
  rw [Cat.fault_1 hwf (by omega) (Cat.fault1_t (.inl hc))]
 have h1:aW c.fr.length c.fault1=none:=by
  have:f=c.fr.length:=by omega
  rw [←this];exact hwf
 clear hwf hF hT hI1 hI2 hr1 hr2
 refine aH (G:={f:Nat//f≤c.fr.length∧(aW f (fun f=>aW c.fr.length fun g=>c.fault2g f g)=none)}) (fun⟨f,_⟩=>[(8,iv f)]) [0,6] (fun⟨f,_⟩=>[]) [] (fun zz=>c.fr.length-zz.1) ⟨0,Nat.zero_le _,by rfl⟩ ?_ ?_
 ·exact Imp.au hX
 rintro⟨f,hif,hwf⟩
 simp only [go_sem,simprocAttr]
 repeat'(first|refine wkQ ?_|refine Tw.f ?_ ?_|(refine fun(hc:(_:Bool)=_)=>?_;try simp only [hcS]at hc))
 all_goals try((try simp only [Cat.F,Cat.T,Cat.I,Cat.C,Fun.O,Fun.A,Cat.Entry,Int.toNat_natCast]at *);omega)
 refine aH (G:={g:Nat//g≤c.fr.length∧(aW g (fun g=>c.fault2g f g)=none)}) (fun⟨g,_⟩=>[(9,iv g)]) [0,6,8] (fun⟨g,_⟩=>[]) [] (fun zz=>c.fr.length-zz.1) ⟨0,Nat.zero_le _,by rfl⟩ ?_ ?_
 ·exact Imp.au hX
 rintro⟨g,hig,hwg⟩
 simp only [go_sem,simprocAttr]
 have hr1:=fun h=>(s11 f h).1
 have hr2:=fun h=>(s11 f h).2 g
 have hr3:=fun h=>(s11 g h).1
 have hr4:=fun h=>(s11 ((c.co.getD f []).getD g 0).toNat h).1
 repeat'(first|refine wkQ ?_|refine Tw.f ?_ ?_|(refine kcQ eV ?_;refine krQ (fK ?_ ?_ ?_ ?_) ?_)|(refine fun(hc:(_:Bool)=_)=>?_;try simp only [hcS]at hc))
 all_goals try((try simp only [Cat.F,Cat.T,Cat.I,Cat.C,Fun.O,Fun.A,Cat.Entry,Int.toNat_natCast]at *);omega)
 ·refine⟨⟨g+1,by omega,(by exact aY hwg (Cat.fault2g_f hc))⟩,by simp only;omega,Imp.ao hX⟩
 refine aH (G:={h:Nat//h≤c.fr.length∧(aW h (fun h=>c.fault2 f g h)=none)}) (fun⟨h,_⟩=>[(10,iv h)]) [0,6,8,9] (fun⟨h,_⟩=>[]) [] (fun zz=>c.fr.length-zz.1) ⟨0,Nat.zero_le _,by rfl⟩ ?_ ?_
 ·exact Imp.au hX
 rintro⟨h,hih,hwh⟩
 simp only [go_sem,simprocAttr]
 have hr5:=fun q=>(s11 g q).2 h
 repeat'(first|refine wkQ ?_|refine Tw.f ?_ ?_|(refine kcQ eV ?_;refine krQ (fK ?_ ?_ ?_ ?_) ?_)|(refine fun(hc:(_:Bool)=_)=>?_;try simp only [hcS]at hc))
 all_goals try((try simp only [Cat.F,Cat.T,Cat.I,Cat.C,Fun.O,Fun.A,Cat.Entry,Int.toNat_natCast]at *);omega)
 ·(first|refine aB ?_|refine aA ?_);simp only [go_sem,simprocAttr,Tryz.f197]
  rw [Cat.fault_2 h1 hwf (by omega) hwg (by omega) (by omega) hwh (by omega) (Cat.fault2_t (by assumption) hc)]
 ·refine⟨⟨h+1,by omega,(by exact aY hwh (Cat.fault2_f fun _=>hc))⟩,by simp only;omega,Imp.ao hX⟩
 ·refine⟨⟨h+1,by omega,(by exact aY hwh (Cat.fault2_f fun _=>by omega))⟩,by simp only;omega,Imp.ao hX⟩
 ·refine⟨⟨g+1,by omega,(by exact aY hwg (by rw [Cat.fault2g_t (by omega)];exact bI hwh hih (by omega)))⟩,by simp only;omega,Imp.ao hX⟩
 ·refine⟨⟨f+1,by omega,(by exact aY hwf (bI hwg hig (by omega)))⟩,by simp only;omega,Imp.ao hX⟩
 ·(first|refine aB ?_|refine aA ?_);simp only [go_sem,simprocAttr,Tryz.f197]
  rw [Cat.fault_0 h1 (bI hwf hif (by omega))]
theorem cI:aE Tryz.prog 95:=⟨_,Tryz.func95,rfl,rfl⟩
theorem cQ {c:Cat} (hb:CatB c):Spec Tryz.prog 95 [.bptr [] (fP c)] [] (bv (dec (IsCat c))) []:=by
 refine aD (E:=TE) 0 Tryz.func95 rfl (by simp [Tryz.f95]) fun X hn hX=>?_
 repeat'(first|refine wkQ ?_|refine Tw.f ?_ ?_|(refine kcQ oA ?_;refine krQ (pU ?_) ?_)|(refine kcQ qG ?_;refine krQ (sV ?_) ?_)|(refine fun(hc:(_:Bool)=_)=>?_;try simp only [hcS]at hc))
 all_goals try exact om_
 ·(first|refine aB ?_|refine aA ?_);simp only [go_sem,simprocAttr,Tryz.f95]
  exact cK (fun s=>hc s.toShape)
 ·(first|refine aB ?_|refine aA ?_);simp only [go_sem,simprocAttr,Tryz.f95]
  rw [←jC,bW hc.fault_zero]
end Go.Eng
end
section
namespace Go.Eng
open Go Go.Proofs Go.Cats
def cmp:List Int→List Int→Int
 |[],[]=>0
 |[],_::_=> -1
 |_::_,[]=>1
 |a::l,b::m=>if a=b then cmp l m else if a<b then-1 else 1
theorem aCT:∀(a b:List Int),cmp a b=0↔a=b
 |[],[]=>by simp [cmp]
 |[],_::_=>by simp [cmp]
 |_::_,[]=>by simp [cmp]
 |a::l,b::m=>by
  simp only [cmp,List.cons.injEq]
  split
  ·rename_i h;rw [aCT l m];exact⟨fun k=>⟨h,k⟩,fun k=>k.2⟩
  ·rename_i h;split<;>simp [h]
theorem mD:∀(a b:List Int) (i:Nat),a.take i=b.take i→i≤a.length→i≤b.length→cmp a b=cmp (a.drop i) (b.drop i)
 |_,_,0,_,_,_=>rfl
 |[],_,i+1,_,h,_=>by simp at h
 |_::_,[],i+1,_,_,h=>by simp at h
 |a::l,b::m,i+1,h,k1,k2=>by
  simp only [List.take_succ_cons,List.cons.injEq]at h
  simp only [cmp,h.1,if_true,List.drop_succ_cons]
  exact mD l m i h.2 (by simpa using k1) (by simpa using k2)
theorem jO (l:List Int) (i:Nat) (h:i<l.length):l.drop i=l.getD i 0::l.drop (i+1):=by
 rw [oF h];exact List.drop_eq_getElem_cons h
theorem aCC {a b:List Int} {i:Nat} (h:a.take i=b.take i) (ha:i<a.length) (hb:i<b.length) (e:a.getD i 0=b.getD i 0):a.take (i+1)=b.take (i+1):=by
 rw [oF ha,oF hb]at e
 rw [List.take_succ_eq_append_getElem ha,List.take_succ_eq_append_getElem hb,h,e]
theorem aCK:aE Tryz.prog 264:=⟨_,Tryz.func264,rfl,rfl⟩
theorem aE5 {a b:List Int} (ha:a.length≤1048576) (hb:b.length≤1048576):Spec Tryz.prog 264 [.bor [] (ints a), .bor [] (ints b)] [] (iv (cmp a b)) []:=by
 refine aD (E:=TE) 0 Tryz.func264 rfl (by simp [Tryz.f264]) fun X hn hX=>?_
 repeat'(first|refine wkQ ?_|refine Tw.f ?_ ?_|(refine fun(hc:(_:Bool)=_)=>?_;try simp only [hcS]at hc))
 all_goals try exact om_
 refine aH (G:={i:Nat//i≤a.length∧(i≤b.length∧a.take i=b.take i)}) (fun⟨i,_⟩=>[(8,iv i)]) [0,1,7] (fun⟨i,_⟩=>[]) [] (fun zz=>a.length-zz.1) ⟨0,Nat.zero_le _,by simp⟩ ?_ ?_
 ·exact Imp.au hX
 rintro⟨i,hii,hwi⟩
 simp only [go_sem,simprocAttr]
 repeat'(first|refine wkQ ?_|refine Tw.f ?_ ?_|(refine fun(hc:(_:Bool)=_)=>?_;try simp only [hcS]at hc))
 all_goals try exact om_
 ·(first|refine aB ?_|refine aA ?_);simp only [go_sem,simprocAttr,Tryz.f264]
  rw [mD a b i hwi.2 hii hwi.1,jO a i (by omega),List.drop_eq_nil_of_le (by omega:b.length≤i)];rfl
 ·(first|refine aB ?_|refine aA ?_);simp only [go_sem,simprocAttr,Tryz.f264]
  rw [mD a b i hwi.2 hii hwi.1,jO a i (by omega),jO b i (by omega)];simp only [cmp];rw [if_neg (by assumption),if_pos hc]
 ·(first|refine aB ?_|refine aA ?_);simp only [go_sem,simprocAttr,Tryz.f264]
  rw [mD a b i hwi.2 hii hwi.1,jO a i (by omega),jO b i (by omega)];simp only [cmp];rw [if_neg (by assumption),if_neg (by omega)]
 ·refine⟨⟨i+1,by omega,(by exact⟨by omega,aCC hwi.2 (by omega) (by omega) hc⟩)⟩,by simp only;omega,Imp.ao hX⟩
 ·(first|refine aB ?_|refine aA ?_);simp only [go_sem,simprocAttr,Tryz.f264]
  rw [mD a b i hwi.2 hii hwi.1,List.drop_eq_nil_of_le (by omega:a.length≤i),jO b i (by omega)];rfl
 ·(first|refine aB ?_|refine aA ?_);simp only [go_sem,simprocAttr,Tryz.f264]
  rw [mD a b i hwi.2 hii hwi.1,List.drop_eq_nil_of_le (by omega:a.length≤i),List.drop_eq_nil_of_le (by omega:b.length≤i)];rfl
theorem rQ:aE Tryz.prog 195:=⟨_,Tryz.func195,rfl,rfl⟩
theorem xC {a b:List Int} (ha:a.length≤1048576) (hb:b.length≤1048576):Spec Tryz.prog 195 [.bor [] (ints a), .bor [] (ints b)] [] (bv (dec (a=b))) []:=by
 refine aD (E:=TE) 0 Tryz.func195 rfl (by simp [Tryz.f195]) fun X hn hX=>?_
 repeat'(first|refine wkQ ?_|refine Tw.f ?_ ?_|(refine kcQ aCK ?_;refine krQ (aE5 ?_ ?_) ?_)|(refine fun(hc:(_:Bool)=_)=>?_;try simp only [hcS]at hc))
 all_goals try exact om_
 (first|refine aB ?_|refine aA ?_);simp only [go_sem,simprocAttr,Tryz.f195]
 rw [←jC,bW (aCT a b)]
theorem fH:aE Tryz.prog 93:=⟨_,Tryz.func93,rfl,rfl⟩
theorem fU {c d:Cat} (hc0:CatB c) (hd0:CatB d):Spec Tryz.prog 93 [.bptr [] (fP c), .bptr [] (fP d)] [] (bv (dec (c=d))) []:=by
 refine aD (E:=TE) 0 Tryz.func93 rfl (by simp [Tryz.f93]) fun X hn hX=>?_
 obtain⟨b1,b2,b3,b4,b5,b6,b7⟩:=hc0
 obtain⟨d1,d2,d3,d4,d5,d6,d7⟩:=hd0
 repeat'(first|refine wkQ ?_|refine Tw.f ?_ ?_|(refine kcQ rQ ?_;refine krQ (xC ?_ ?_) ?_)|(refine fun(hc:(_:Bool)=_)=>?_;try simp only [hcS]at hc))
 all_goals try exact om_
 all_goals try((first|refine aB ?_|refine aA ?_);simp only [go_sem,simprocAttr,Tryz.f93];exact cK (fun s=>by subst s;first|contradiction|omega))
 refine aH (G:={i:Nat//i≤c.co.length∧(c.co.take i=d.co.take i)}) (fun⟨i,_⟩=>[(69,iv i)]) [0,1,68] (fun⟨i,_⟩=>[]) [] (fun zz=>c.co.length-zz.1) ⟨0,Nat.zero_le _,by simp⟩ ?_ ?_
 ·exact Imp.au hX
 rintro⟨i,hii,hwi⟩
 simp only [go_sem,simprocAttr]
 have h7:=b7 i
 have h8:=d7 i
 repeat'(first|refine wkQ ?_|refine Tw.f ?_ ?_|(refine kcQ rQ ?_;refine krQ (xC ?_ ?_) ?_)|(refine fun(hc:(_:Bool)=_)=>?_;try simp only [hcS]at hc))
 all_goals try exact om_
 ·(first|refine aB ?_|refine aA ?_);simp only [go_sem,simprocAttr,Tryz.f93]
  exact cK (fun s=>by subst s;exact hc rfl)
 ·refine⟨⟨i+1,by omega,(by exact jV hwi (by omega) (by omega) hc)⟩,by simp only;omega,Imp.ao hX⟩
 ·(first|refine aB ?_|refine aA ?_);simp only [go_sem,simprocAttr,Tryz.f93]
  exact rK (Cat.eq (by assumption) (by assumption) (by assumption) (by assumption) (oY hwi (by omega) (by omega)))
theorem tN:aE Tryz.prog 184:=⟨_,Tryz.func184,rfl,rfl⟩
theorem zM {l:List Int} (hl:l.length≤1048576):Spec Tryz.prog 184 [.bor [] (ints l)] [] (.sl 0) [(0,⟨1, .arr (ints l)⟩)]:=by
 refine aD (E:=TE) 0 Tryz.func184 rfl (by simp [Tryz.f184]) fun X hn hX=>?_
 repeat'(first|refine wkQ ?_|refine Tw.f ?_ ?_|(refine fun(hc:(_:Bool)=_)=>?_;try simp only [hcS]at hc))
 all_goals try exact om_
 (first|refine aB ?_|refine aA ?_);simp only [go_sem,simprocAttr,Tryz.f184]
theorem mR:aE Tryz.prog 211:=⟨_,Tryz.func211,rfl,rfl⟩
theorem pM {l:List (List Int)} (hl:l.length≤1048576) (hr:∀i,i<l.length→(l.getD i []).length≤1048576):Spec Tryz.prog 211 [.bor [] (aC l)] [] (.sl 0) [(0,⟨1, .arr (aC l)⟩)]:=by
 refine aD (E:=TE) 0 Tryz.func211 rfl (by simp [Tryz.f211]) fun X hn hX=>?_
 repeat'(first|refine wkQ ?_|refine Tw.f ?_ ?_|(refine fun(hc:(_:Bool)=_)=>?_;try simp only [hcS]at hc))
 all_goals try exact om_
 refine aH (G:={i:Nat//i≤l.length∧(True)}) (fun⟨i,_⟩=>[(11,iv i),(3, .sl 0)]) [2,9,10] (fun⟨i,_⟩=>[(0,⟨1, .arr (aC (l.take i))⟩)]) [0] (fun zz=>l.length-zz.1) ⟨0,Nat.zero_le _,by first|trivial|simp⟩ ?_ ?_
 ·exact Imp.au hX
 rintro⟨i,hii,hwi⟩
 simp only [go_sem,simprocAttr]
 have h1:=hr i
 have h2:(l.take i).length≤i:=by simp;omega
 repeat'(first|refine wkQ ?_|refine Tw.f ?_ ?_|(refine kcQ tN ?_;refine krQ (zM ?_) ?_)|(refine fun(hc:(_:Bool)=_)=>?_;try simp only [hcS]at hc))
 all_goals try exact om_
 ·refine⟨⟨i+1,by omega,(by trivial)⟩,by simp only;omega,Imp.auto hX (by simp only [go_sem,simprocAttr,aBw (d:=[]) (show i<l.length by omega)])⟩
 ·(first|refine aB ?_|refine aA ?_);simp only [go_sem,simprocAttr,Tryz.f211]
  rw [List.take_of_length_le (by omega)]
end Go.Eng
end
