/- Several texts in one: G08, G09, G10. -/
import Derived.Test.YthgijhnmcglppaaGreatKgx
set_option linter.unusedSimpArgs false
set_option linter.unusedVariables false
set_option maxRecDepth 100000
set_option maxHeartbeats 8000000
section
namespace Go.Eng
open Go Go.Proofs Go.Cats
theorem aJP:aD Tryz.prog 270:=⟨_,Tryz.func270,rfl,rfl⟩
theorem aNJ {n lo hi:Int}:Spec Tryz.prog 270 [iv n,iv lo,iv hi] [] (bv (dec (lo≤n∧n≤hi))) []:=by
 refine aC (E:=TE) 0 Tryz.func270 rfl (by simp [Tryz.f270]) fun X hn hX=>?_
 repeat'(first|refine wkQ ?_|refine Tw.f ?_ ?_|(refine fun(hc:(_:Bool)=_)=>?_;try simp only [hcS]at hc))
 all_goals((first|refine aB ?_|refine aA ?_);simp only [go_sem,simprocAttr,Tryz.f270])
 ·rw [nZ,Bool.decide_and];simp [hc]
 ·rw [iZ];omega
theorem aBw:aD Tryz.prog 244:=⟨_,Tryz.func244,rfl,rfl⟩
theorem aEe {n:Int} {l:List Int} (hl:l.length≤1048576):Spec Tryz.prog 244 [iv n, .bor [] (ints l)] [] (bv (dec (Within l n))) []:=by
 refine aC (E:=TE) 0 Tryz.func244 rfl (by simp [Tryz.f244]) fun X hn hX=>?_
 repeat'(first|refine wkQ ?_|refine Tw.f ?_ ?_|(refine fun(hc:(_:Bool)=_)=>?_;try simp only [hcS]at hc))
 refine aG (G:={i:Nat//i≤l.length∧(∀j,j<i→0≤l.getD j 0∧l.getD j 0<n)}) (fun⟨i,_⟩=>[(5,iv i)]) [0,1] (fun⟨i,_⟩=>[]) [] (fun zz=>l.length-zz.1) ⟨0,Nat.zero_le _,by omega⟩ ?_ ?_
 ·exact Imp.au hX
 rintro⟨i,hii,hwi⟩
 simp only [go_sem,simprocAttr]
 repeat'(first|refine wkQ ?_|refine Tw.f ?_ ?_|(refine fun(hc:(_:Bool)=_)=>?_;try simp only [hcS]at hc))
 all_goals try exact om_
 all_goals try((first|refine aB ?_|refine aA ?_);simp only [go_sem,simprocAttr,Tryz.f244];exact cD (fun h=>by have:=h i (by omega);omega))
 ·refine⟨⟨i+1,by omega,(by exact bB hwi (by omega))⟩,by simp only;omega,Imp.ao hX⟩
 ·(first|refine aB ?_|refine aA ?_);simp only [go_sem,simprocAttr,Tryz.f244]
  exact nD (fun j hj=>hwi j (by omega))
theorem aFG:aD Tryz.prog 271:=⟨_,Tryz.func271,rfl,rfl⟩
theorem aH6 {l:List Int} {k n:Int} (hl:l.length≤1048576):Spec Tryz.prog 271 [.bor [] (ints l),iv k,iv n] [] (bv (dec ((l.length:Int)=k∧Within l n))) []:=by
 refine aC (E:=TE) 0 Tryz.func271 rfl (by simp [Tryz.f271]) fun X hn hX=>?_
 repeat'(first|refine wkQ ?_|refine Tw.f ?_ ?_|(refine kcQ aBw ?_;refine krQ (aEe ?_) ?_)|(refine fun(hc:(_:Bool)=_)=>?_;try simp only [hcS]at hc))
 all_goals try exact om_
 ·(first|refine aB ?_|refine aA ?_);simp only [go_sem,simprocAttr,Tryz.f271]
  exact congrArg (fun b=>Sv.v (.bool b)) (bU ⟨fun h=>⟨hc,h⟩,fun h=>h.2⟩)
 ·(first|refine aB ?_|refine aA ?_);simp only [go_sem,simprocAttr,Tryz.f271]
  exact cD (fun h=>hc h.1)
theorem aFC:aD Tryz.prog 185:=⟨_,Tryz.func185,rfl,rfl⟩
theorem aH1 {c:Cat} (hb:CatB c):Spec Tryz.prog 185 [cK c] [] (bv (dec (Shape c))) []:=by
 refine aC (E:=TE) 0 Tryz.func185 rfl (by simp [Tryz.f185]) fun X hn hX=>?_
 obtain⟨b1,b2,b3,b4,b5,b6,b7⟩:=hb
 repeat'(first|refine wkQ ?_|refine Tw.f ?_ ?_|(refine kcQ aJP ?_;refine krQ (aNJ) ?_)|(refine kcQ aBw ?_;refine krQ (aEe ?_) ?_)|(refine kcQ aFG ?_;refine krQ (aH6 ?_) ?_)|(refine fun(hc:(_:Bool)=_)=>?_;try simp only [hcS]at hc))
 all_goals try exact om_
 all_goals try((first|refine aB ?_|refine aA ?_);simp only [go_sem,simprocAttr,Tryz.f185];exact cD (fun s=>by obtain⟨s1,s2,s3,s4,s5,s6,s7,s8,s9,s10,s11⟩:=s;first|omega|contradiction|(rename_i q _;exact q ⟨by omega,by assumption⟩)|(rename_i q _ _;exact q ⟨by omega,by assumption⟩)|simp_all))
 have hI:Within c.id c.fr.length:=by assumption
 have hF:Within c.fr c.ob:=by rename_i q _ _ _ _;first|exact q.2|simp_all
 have hT:Within c.to c.ob:=by simp_all
 refine aG (G:={i:Nat//i≤c.id.length∧(∀x,x<i→c.F (c.id.getD x 0)=x∧c.T (c.id.getD x 0)=x)}) (fun⟨i,_⟩=>[(4,iv i)]) [1,3] (fun⟨i,_⟩=>[]) [] (fun zz=>c.id.length-zz.1) ⟨0,Nat.zero_le _,by omega⟩ ?_ ?_
 ·exact Imp.au hX
 rintro⟨i,hii,hwi⟩
 simp only [go_sem,simprocAttr]
 have hIi:=hI i
 repeat'(first|refine wkQ ?_|refine Tw.f ?_ ?_|(refine fun(hc:(_:Bool)=_)=>?_;try simp only [hcS]at hc))
 all_goals try exact om_
 ·(first|refine aB ?_|refine aA ?_);simp only [go_sem,simprocAttr,Tryz.f185]
  exact cD (fun s=>by have h:=s.ide i (by omega);((try simp only [Cat.F,Cat.T,Cat.I,Cat.C,Fun.O,Fun.A,Cat.Entry,Int.toNat_natCast]at *);omega))
 ·refine⟨⟨i+1,by omega,(by exact bB hwi (by((try simp only [Cat.F,Cat.T,Cat.I,Cat.C,Fun.O,Fun.A,Cat.Entry,Int.toNat_natCast]at *);omega)))⟩,by simp only;omega,Imp.ao hX⟩
 ·(first|refine aB ?_|refine aA ?_);simp only [go_sem,simprocAttr,Tryz.f185]
  exact cD (fun s=>by have h:=s.ide i (by omega);((try simp only [Cat.F,Cat.T,Cat.I,Cat.C,Fun.O,Fun.A,Cat.Entry,Int.toNat_natCast]at *);omega))
 have hide:∀x,x<c.id.length→c.F (c.id.getD x 0)=x∧c.T (c.id.getD x 0)=x:=fun x hx=>hwi x (by omega)
 clear hwi hIi
 refine aG (G:={f:Nat//f≤c.co.length∧(∀k,k<f→(c.co.getD k []).length=c.fr.length∧∀g,g<c.fr.length→c.Entry k g)}) (fun⟨f,_⟩=>[(5,iv f)]) [1,3] (fun⟨f,_⟩=>[]) [] (fun zz=>c.co.length-zz.1) ⟨0,Nat.zero_le _,by omega⟩ ?_ ?_
 ·exact Imp.au hX
 rintro⟨f,hif,hwf⟩
 simp only [go_sem,simprocAttr]
 have b7f:=b7 f
 repeat'(first|refine wkQ ?_|refine Tw.f ?_ ?_|(refine fun(hc:(_:Bool)=_)=>?_;try simp only [hcS]at hc))
 all_goals try exact om_
 ·(first|refine aB ?_|refine aA ?_);simp only [go_sem,simprocAttr,Tryz.f185]
  exact cD (fun s=>by have h:=(s.coe f (by omega)).1;omega)
 refine aG (G:={g:Nat//g≤c.fr.length∧(∀k,k<g→c.Entry f k)}) (fun⟨g,_⟩=>[(6,iv g)]) [1,3,5] (fun⟨g,_⟩=>[]) [] (fun zz=>c.fr.length-zz.1) ⟨0,Nat.zero_le _,by omega⟩ ?_ ?_
 ·exact Imp.au hX
 rintro⟨g,hig,hwg⟩
 simp only [go_sem,simprocAttr]
 repeat'(first|refine wkQ ?_|refine Tw.f ?_ ?_|(refine fun(hc:(_:Bool)=_)=>?_;try simp only [hcS]at hc))
 all_goals try exact om_
 all_goals try((first|refine aB ?_|refine aA ?_);simp only [go_sem,simprocAttr,Tryz.f185];exact cD (fun s=>by have h:=(s.coe f (by omega)).2 g (by omega);((try simp only [Cat.F,Cat.T,Cat.I,Cat.C,Fun.O,Fun.A,Cat.Entry,Int.toNat_natCast]at *);omega)))
 ·refine⟨⟨g+1,by omega,(by exact bB hwg (by((try simp only [Cat.F,Cat.T,Cat.I,Cat.C,Fun.O,Fun.A,Cat.Entry,Int.toNat_natCast]at *);omega)))⟩,by simp only;omega,Imp.ao hX⟩
 ·refine⟨⟨g+1,by omega,(by exact bB hwg (by((try simp only [Cat.F,Cat.T,Cat.I,Cat.C,Fun.O,Fun.A,Cat.Entry,Int.toNat_natCast]at *);omega)))⟩,by simp only;omega,Imp.ao hX⟩
 ·refine⟨⟨f+1,by omega,(by exact bB hwf ⟨by omega,fun k hk=>hwg k (by omega)⟩)⟩,by simp only;omega,Imp.ao hX⟩
 ·(first|refine aB ?_|refine aA ?_);simp only [go_sem,simprocAttr,Tryz.f185]
  exact nD ⟨by omega,by omega,by omega,by omega,hF,hT,by assumption,hI,by omega,hide,fun k hk=>hwf k (by omega)⟩
end Go.Eng
end
section
namespace Go.Eng
open Go Go.Proofs Go.Cats
theorem aEy:aD Tryz.prog 186:=⟨_,Tryz.func186,rfl,rfl⟩
theorem aGR {c:Cat} (s:Shape c):Spec Tryz.prog 186 [cK c] [] (.tup [iv c.fault.1,iv c.fault.2.1,iv c.fault.2.2.1,iv c.fault.2.2.2]) []:=by
 refine aC (E:=TE) 0 Tryz.func186 rfl (by simp [Tryz.f186]) fun X hn hX=>?_
 have ⟨s1,s2,s3,s4,s5,s6,s7,s8,s9,s10,s11⟩:=s
 repeat'(first|refine wkQ ?_|refine Tw.f ?_ ?_|(refine fun(hc:(_:Bool)=_)=>?_;try simp only [hcS]at hc))
 all_goals try exact om_
 refine aG (G:={f:Nat//f≤c.fr.length∧(aZ f c.fault1=none)}) (fun⟨f,_⟩=>[(7,iv f)]) [1,6] (fun⟨f,_⟩=>[]) [] (fun zz=>c.fr.length-zz.1) ⟨0,Nat.zero_le _,by rfl⟩ ?_ ?_
 ·exact Imp.au hX
 rintro⟨f,hif,hwf⟩
 simp only [go_sem,simprocAttr]
 have hF:=s5 f
 have hT:=s6 f
 have hI1:=s8 (c.fr.getD f 0).toNat
 have hI2:=s8 (c.to.getD f 0).toNat
 have hr1:=fun h=>(s11 (c.id.getD (c.fr.getD f 0).toNat 0).toNat h).1
 have hr2:=fun h=>(s11 f h).1
 repeat'(first|refine wkQ ?_|refine Tw.f ?_ ?_|(refine fun(hc:(_:Bool)=_)=>?_;try simp only [hcS]at hc))
 all_goals try exact om_
 ·(first|refine aB ?_|refine aA ?_);simp only [go_sem,simprocAttr,Tryz.f186]
  rw [Cat.fault_1 hwf (by omega) (Cat.fault1_t (.inr hc))]
 ·refine⟨⟨f+1,by omega,(by exact bJ hwf (Cat.fault1_f (by assumption) hc))⟩,by simp only;omega,Imp.ao hX⟩
 ·(first|refine aB ?_|refine aA ?_);simp only [go_sem,simprocAttr,Tryz.f186]
  rw [Cat.fault_1 hwf (by omega) (Cat.fault1_t (.inl hc))]
 have h1:aZ c.fr.length c.fault1=none:=cX hwf hif (by omega)
 clear hwf hF hT hI1 hI2 hr1 hr2
 refine aG (G:={f:Nat//f≤c.fr.length∧(aZ f (fun f=>aZ c.fr.length fun g=>c.fault2g f g)=none)}) (fun⟨f,_⟩=>[(8,iv f)]) [1,6] (fun⟨f,_⟩=>[]) [] (fun zz=>c.fr.length-zz.1) ⟨0,Nat.zero_le _,by rfl⟩ ?_ ?_
 ·exact Imp.au hX
 rintro⟨f,hif,hwf⟩
 simp only [go_sem,simprocAttr]
 repeat'(first|refine wkQ ?_|refine Tw.f ?_ ?_|(refine fun(hc:(_:Bool)=_)=>?_;try simp only [hcS]at hc))
 all_goals try exact om_
 refine aG (G:={g:Nat//g≤c.fr.length∧(aZ g (fun g=>c.fault2g f g)=none)}) (fun⟨g,_⟩=>[(9,iv g)]) [1,6,8] (fun⟨g,_⟩=>[]) [] (fun zz=>c.fr.length-zz.1) ⟨0,Nat.zero_le _,by rfl⟩ ?_ ?_
 ·exact Imp.au hX
 rintro⟨g,hig,hwg⟩
 simp only [go_sem,simprocAttr]
 have hr1:=fun h=>(s11 f h).1
 have hr2:=fun h=>(s11 f h).2 g
 have hr3:=fun h=>(s11 g h).1
 have hr4:=fun h=>(s11 ((c.co.getD f []).getD g 0).toNat h).1
 repeat'(first|refine wkQ ?_|refine Tw.f ?_ ?_|(refine fun(hc:(_:Bool)=_)=>?_;try simp only [hcS]at hc))
 all_goals try exact om_
 ·refine⟨⟨g+1,by omega,(by exact bJ hwg (Cat.fault2g_f (by((try simp only [Cat.F,Cat.T,Cat.I,Cat.C,Fun.O,Fun.A,Cat.Entry,Int.toNat_natCast]at *);omega))))⟩,by simp only;omega,Imp.ao hX⟩
 have hn0:¬c.C f g<0:=by((try simp only [Cat.F,Cat.T,Cat.I,Cat.C,Fun.O,Fun.A,Cat.Entry,Int.toNat_natCast]at *);omega)
 refine aG (G:={h:Nat//h≤c.fr.length∧(aZ h (fun h=>c.fault2 f g h)=none)}) (fun⟨h,_⟩=>[(10,iv h)]) [1,6,8,9] (fun⟨h,_⟩=>[]) [] (fun zz=>c.fr.length-zz.1) ⟨0,Nat.zero_le _,by rfl⟩ ?_ ?_
 ·exact Imp.au hX
 rintro⟨h,hih,hwh⟩
 simp only [go_sem,simprocAttr]
 have hr5:=fun q=>(s11 g q).2 h
 repeat'(first|refine wkQ ?_|refine Tw.f ?_ ?_|(refine fun(hc:(_:Bool)=_)=>?_;try simp only [hcS]at hc))
 all_goals try exact om_
 ·(first|refine aB ?_|refine aA ?_);simp only [go_sem,simprocAttr,Tryz.f186]
  rw [Cat.fault_2 h1 hwf (by omega) hwg (by omega) hn0 hwh (by omega) (Cat.fault2_t (by((try simp only [Cat.F,Cat.T,Cat.I,Cat.C,Fun.O,Fun.A,Cat.Entry,Int.toNat_natCast]at *);omega)) hc)]
 ·refine⟨⟨h+1,by omega,(by exact bJ hwh (Cat.fault2_f fun _=>hc))⟩,by simp only;omega,Imp.ao hX⟩
 ·refine⟨⟨h+1,by omega,(by exact bJ hwh (Cat.fault2_f fun _=>by((try simp only [Cat.F,Cat.T,Cat.I,Cat.C,Fun.O,Fun.A,Cat.Entry,Int.toNat_natCast]at *);omega)))⟩,by simp only;omega,Imp.ao hX⟩
 ·refine⟨⟨g+1,by omega,(by exact bJ hwg (by rw [Cat.fault2g_t hn0];exact cX hwh hih (by omega)))⟩,by simp only;omega,Imp.ao hX⟩
 ·refine⟨⟨f+1,by omega,(by exact bJ hwf (cX hwg hig (by omega)))⟩,by simp only;omega,Imp.ao hX⟩
 ·(first|refine aB ?_|refine aA ?_);simp only [go_sem,simprocAttr,Tryz.f186]
  rw [Cat.fault_0 h1 (cX hwf hif (by omega))]
theorem iY:aD Tryz.prog 85:=⟨_,Tryz.func85,rfl,rfl⟩
theorem rZ {c:Cat} (hb:CatB c):Spec Tryz.prog 85 [cK c] [] (bv (dec (IsCat c))) []:=by
 refine aC (E:=TE) 0 Tryz.func85 rfl (by simp [Tryz.f85]) fun X hn hX=>?_
 repeat'(first|refine wkQ ?_|refine Tw.f ?_ ?_|(refine kcQ aFC ?_;refine krQ (aH1 ?_) ?_)|(refine kcQ aEy ?_;refine krQ (aGR ?_) ?_)|(refine fun(hc:(_:Bool)=_)=>?_;try simp only [hcS]at hc))
 all_goals try exact om_
 ·(first|refine aB ?_|refine aA ?_);simp only [go_sem,simprocAttr,Tryz.f85]
  exact cD (fun s=>hc s.toShape)
 ·(first|refine aB ?_|refine aA ?_);simp only [go_sem,simprocAttr,Tryz.f85]
  rw [←nZ,bU hc.fault_zero]
theorem kS:aD Tryz.prog 144:=⟨_,Tryz.func144,rfl,rfl⟩
theorem vH {a b:List Int} (ha:a.length≤1048576) (hb:b.length≤1048576):Spec Tryz.prog 144 [.bor [] (ints a), .bor [] (ints b)] [] (bv (dec (a=b))) []:=by
 refine aC (E:=TE) 0 Tryz.func144 rfl (by simp [Tryz.f144]) fun X hn hX=>?_
 repeat'(first|refine wkQ ?_|refine Tw.f ?_ ?_|(refine fun(hc:(_:Bool)=_)=>?_;try simp only [hcS]at hc))
 all_goals try exact om_
 ·(first|refine aB ?_|refine aA ?_);simp only [go_sem,simprocAttr,Tryz.f144]
  exact cD (fun e=>by subst e;omega)
 refine aG (G:={i:Nat//i≤a.length∧(a.take i=b.take i)}) (fun⟨i,_⟩=>[(5,iv i)]) [0,1] (fun⟨i,_⟩=>[]) [] (fun zz=>a.length-zz.1) ⟨0,Nat.zero_le _,by simp⟩ ?_ ?_
 ·exact Imp.au hX
 rintro⟨i,hii,hwi⟩
 simp only [go_sem,simprocAttr]
 repeat'(first|refine wkQ ?_|refine Tw.f ?_ ?_|(refine fun(hc:(_:Bool)=_)=>?_;try simp only [hcS]at hc))
 all_goals try exact om_
 ·(first|refine aB ?_|refine aA ?_);simp only [go_sem,simprocAttr,Tryz.f144]
  exact cD (fun e=>by subst e;exact hc rfl)
 ·refine⟨⟨i+1,by omega,(by exact kN hwi (by omega) (by omega) hc)⟩,by simp only;omega,Imp.ao hX⟩
 ·(first|refine aB ?_|refine aA ?_);simp only [go_sem,simprocAttr,Tryz.f144]
  exact nD (sM hwi (by omega) (by omega))
end Go.Eng
end
section
namespace Go.Eng
open Go Go.Proofs Go.Cats
end Go.Eng
end
