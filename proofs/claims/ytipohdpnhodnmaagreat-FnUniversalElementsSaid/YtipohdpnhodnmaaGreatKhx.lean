/- Several texts in one: G08, G09, G10. -/
import Derived.Test.YtipohdpnhodnmaaGreatKgx
set_option linter.unusedSimpArgs false
set_option linter.unusedVariables false
set_option maxRecDepth 100000
set_option maxHeartbeats 8000000
section
namespace Go.Eng
open Go Go.Proofs Go.Cats
theorem aBa:aF Tryz.prog 179:=⟨_,Tryz.func179,rfl,rfl⟩
theorem aD9 {n lo hi:Int}:Spec Tryz.prog 179 [iv n,iv lo,iv hi] [] (bv (dec (lo≤n∧n≤hi))) []:=by
 refine aD (E:=TE) 0 Tryz.func179 rfl (by simp [Tryz.f179]) fun X hn hX=>?_
 repeat'(first|refine wkQ ?_|refine Tw.f ?_ ?_|(refine fun(hc:(_:Bool)=_)=>?_;try simp only [hcS]at hc))
 all_goals((first|refine aB ?_|refine aA ?_);simp only [go_sem,simprocAttr,Tryz.f179])
 ·rw [jC,Bool.decide_and];simp [hc]
 ·rw [mF];omega
theorem qL:aF Tryz.prog 160:=⟨_,Tryz.func160,rfl,rfl⟩
theorem uF {n:Int} {l:List Int} (hl:l.length≤1048576):Spec Tryz.prog 160 [iv n, .bor [] (ints l)] [] (bv (dec (Within l n))) []:=by
 refine aD (E:=TE) 0 Tryz.func160 rfl (by simp [Tryz.f160]) fun X hn hX=>?_
 repeat'(first|refine wkQ ?_|refine Tw.f ?_ ?_|(refine fun(hc:(_:Bool)=_)=>?_;try simp only [hcS]at hc))
 refine aG (G:={i:Nat//i≤l.length∧(∀j,j<i→0≤l.getD j 0∧l.getD j 0<n)}) (fun⟨i,_⟩=>[(5,iv i)]) [0,1] (fun⟨i,_⟩=>[]) [] (fun zz=>l.length-zz.1) ⟨0,Nat.zero_le _,by omega⟩ ?_ ?_
 ·exact Imp.au hX
 rintro⟨i,hii,hwi⟩
 simp only [go_sem,simprocAttr]
 repeat'(first|refine wkQ ?_|refine Tw.f ?_ ?_|(refine fun(hc:(_:Bool)=_)=>?_;try simp only [hcS]at hc))
 all_goals try exact om_
 all_goals try((first|refine aB ?_|refine aA ?_);simp only [go_sem,simprocAttr,Tryz.f160];exact cW (fun h=>by have:=h i (by omega);omega))
 ·refine⟨⟨i+1,by omega,(by exact bW hwi (by omega))⟩,by simp only;omega,Imp.ao hX⟩
 ·(first|refine aB ?_|refine aA ?_);simp only [go_sem,simprocAttr,Tryz.f160]
  exact qF (fun j hj=>hwi j (by omega))
theorem aC3:aF Tryz.prog 191:=⟨_,Tryz.func191,rfl,rfl⟩
theorem aFx {l:List Int} {k n:Int} (hl:l.length≤1048576):Spec Tryz.prog 191 [.bor [] (ints l),iv k,iv n] [] (bv (dec ((l.length:Int)=k∧Within l n))) []:=by
 refine aD (E:=TE) 0 Tryz.func191 rfl (by simp [Tryz.f191]) fun X hn hX=>?_
 repeat'(first|refine wkQ ?_|refine Tw.f ?_ ?_|(refine kcQ qL ?_;refine krQ (uF ?_) ?_)|(refine fun(hc:(_:Bool)=_)=>?_;try simp only [hcS]at hc))
 all_goals try exact om_
 ·(first|refine aB ?_|refine aA ?_);simp only [go_sem,simprocAttr,Tryz.f191]
  exact congrArg (fun b=>Sv.v (.bool b)) (cB ⟨fun h=>⟨hc,h⟩,fun h=>h.2⟩)
 ·(first|refine aB ?_|refine aA ?_);simp only [go_sem,simprocAttr,Tryz.f191]
  exact cW (fun h=>hc h.1)
theorem uP:aF Tryz.prog 121:=⟨_,Tryz.func121,rfl,rfl⟩
theorem zR {c:Cat} (hb:CatB c):Spec Tryz.prog 121 [jX c] [] (bv (dec (Shape c))) []:=by
 refine aD (E:=TE) 0 Tryz.func121 rfl (by simp [Tryz.f121]) fun X hn hX=>?_
 obtain⟨b1,b2,b3,b4,b5,b6,b7⟩:=hb
 repeat'(first|refine wkQ ?_|refine Tw.f ?_ ?_|(refine kcQ aBa ?_;refine krQ (aD9) ?_)|(refine kcQ qL ?_;refine krQ (uF ?_) ?_)|(refine kcQ aC3 ?_;refine krQ (aFx ?_) ?_)|(refine fun(hc:(_:Bool)=_)=>?_;try simp only [hcS]at hc))
 all_goals try exact om_
 all_goals try((first|refine aB ?_|refine aA ?_);simp only [go_sem,simprocAttr,Tryz.f121];exact cW (fun s=>by obtain⟨s1,s2,s3,s4,s5,s6,s7,s8,s9,s10,s11⟩:=s;first|omega|contradiction|(rename_i q _;exact q ⟨by omega,by assumption⟩)|(rename_i q _ _;exact q ⟨by omega,by assumption⟩)|simp_all))
 have hI:Within c.id c.fr.length:=by assumption
 have hF:Within c.fr c.ob:=by rename_i q _ _ _ _;first|exact q.2|simp_all
 have hT:Within c.to c.ob:=by simp_all
 refine aG (G:={i:Nat//i≤c.id.length∧(∀x,x<i→c.F (c.id.getD x 0)=x∧c.T (c.id.getD x 0)=x)}) (fun⟨i,_⟩=>[(4,iv i)]) [1,3] (fun⟨i,_⟩=>[]) [] (fun zz=>c.id.length-zz.1) ⟨0,Nat.zero_le _,by omega⟩ ?_ ?_
 ·exact Imp.au hX
 rintro⟨i,hii,hwi⟩
 simp only [go_sem,simprocAttr]
 have hIi:=hI i
 repeat'(first|refine wkQ ?_|refine Tw.f ?_ ?_|(refine fun(hc:(_:Bool)=_)=>?_;try simp only [hcS]at hc))
 all_goals try exact om_
 ·(first|refine aB ?_|refine aA ?_);simp only [go_sem,simprocAttr,Tryz.f121]
  exact cW (fun s=>by have h:=s.ide i (by omega);((try simp only [Cat.F,Cat.T,Cat.I,Cat.C,Fun.O,Fun.A,Cat.Entry,Int.toNat_natCast]at *);omega))
 ·refine⟨⟨i+1,by omega,(by exact bW hwi (by((try simp only [Cat.F,Cat.T,Cat.I,Cat.C,Fun.O,Fun.A,Cat.Entry,Int.toNat_natCast]at *);omega)))⟩,by simp only;omega,Imp.ao hX⟩
 ·(first|refine aB ?_|refine aA ?_);simp only [go_sem,simprocAttr,Tryz.f121]
  exact cW (fun s=>by have h:=s.ide i (by omega);((try simp only [Cat.F,Cat.T,Cat.I,Cat.C,Fun.O,Fun.A,Cat.Entry,Int.toNat_natCast]at *);omega))
 have hide:∀x,x<c.id.length→c.F (c.id.getD x 0)=x∧c.T (c.id.getD x 0)=x:=fun x hx=>hwi x (by omega)
 clear hwi hIi
 refine aG (G:={f:Nat//f≤c.co.length∧(∀k,k<f→(c.co.getD k []).length=c.fr.length∧∀g,g<c.fr.length→c.Entry k g)}) (fun⟨f,_⟩=>[(5,iv f)]) [1,3] (fun⟨f,_⟩=>[]) [] (fun zz=>c.co.length-zz.1) ⟨0,Nat.zero_le _,by omega⟩ ?_ ?_
 ·exact Imp.au hX
 rintro⟨f,hif,hwf⟩
 simp only [go_sem,simprocAttr]
 have b7f:=b7 f
 repeat'(first|refine wkQ ?_|refine Tw.f ?_ ?_|(refine fun(hc:(_:Bool)=_)=>?_;try simp only [hcS]at hc))
 all_goals try exact om_
 ·(first|refine aB ?_|refine aA ?_);simp only [go_sem,simprocAttr,Tryz.f121]
  exact cW (fun s=>by have h:=(s.coe f (by omega)).1;omega)
 refine aG (G:={g:Nat//g≤c.fr.length∧(∀k,k<g→c.Entry f k)}) (fun⟨g,_⟩=>[(6,iv g)]) [1,3,5] (fun⟨g,_⟩=>[]) [] (fun zz=>c.fr.length-zz.1) ⟨0,Nat.zero_le _,by omega⟩ ?_ ?_
 ·exact Imp.au hX
 rintro⟨g,hig,hwg⟩
 simp only [go_sem,simprocAttr]
 repeat'(first|refine wkQ ?_|refine Tw.f ?_ ?_|(refine fun(hc:(_:Bool)=_)=>?_;try simp only [hcS]at hc))
 all_goals try exact om_
 all_goals try((first|refine aB ?_|refine aA ?_);simp only [go_sem,simprocAttr,Tryz.f121];exact cW (fun s=>by have h:=(s.coe f (by omega)).2 g (by omega);((try simp only [Cat.F,Cat.T,Cat.I,Cat.C,Fun.O,Fun.A,Cat.Entry,Int.toNat_natCast]at *);omega)))
 ·refine⟨⟨g+1,by omega,(by exact bW hwg (by((try simp only [Cat.F,Cat.T,Cat.I,Cat.C,Fun.O,Fun.A,Cat.Entry,Int.toNat_natCast]at *);omega)))⟩,by simp only;omega,Imp.ao hX⟩
 ·refine⟨⟨g+1,by omega,(by exact bW hwg (by((try simp only [Cat.F,Cat.T,Cat.I,Cat.C,Fun.O,Fun.A,Cat.Entry,Int.toNat_natCast]at *);omega)))⟩,by simp only;omega,Imp.ao hX⟩
 ·refine⟨⟨f+1,by omega,(by exact bW hwf ⟨by omega,fun k hk=>hwg k (by omega)⟩)⟩,by simp only;omega,Imp.ao hX⟩
 ·(first|refine aB ?_|refine aA ?_);simp only [go_sem,simprocAttr,Tryz.f121]
  exact qF ⟨by omega,by omega,by omega,by omega,hF,hT,by assumption,hI,by omega,hide,fun k hk=>hwf k (by omega)⟩
end Go.Eng
end
section
namespace Go.Eng
open Go Go.Proofs Go.Cats
theorem rQ:aF Tryz.prog 122:=⟨_,Tryz.func122,rfl,rfl⟩
theorem vJ {c:Cat} (s:Shape c):Spec Tryz.prog 122 [jX c] [] (.tup [iv c.fault.1,iv c.fault.2.1,iv c.fault.2.2.1,iv c.fault.2.2.2]) []:=by
 refine aD (E:=TE) 0 Tryz.func122 rfl (by simp [Tryz.f122]) fun X hn hX=>?_
 have ⟨s1,s2,s3,s4,s5,s6,s7,s8,s9,s10,s11⟩:=s
 repeat'(first|refine wkQ ?_|refine Tw.f ?_ ?_|(refine fun(hc:(_:Bool)=_)=>?_;try simp only [hcS]at hc))
 all_goals try exact om_
 refine aG (G:={f:Nat//f≤c.fr.length∧(aW f c.fault1=none)}) (fun⟨f,_⟩=>[(7,iv f)]) [1,6] (fun⟨f,_⟩=>[]) [] (fun zz=>c.fr.length-zz.1) ⟨0,Nat.zero_le _,by rfl⟩ ?_ ?_
 ·exact Imp.au hX
 rintro⟨f,hif,hwf⟩
 simp only [go_sem,simprocAttr]
 have hF:=s5 f
 have hT:=s6 f
 have hI1:=s8 (c.fr.getD f 0).toNat
 have hI2:=s8 (c.to.getD f 0).toNat
 have hr1:=fun h=>(s11 (c.id.getD (c.fr.getD f 0).toNat 0).toNat h).1
 have hr2:=fun h=>(s11 f h).1
 repeat'(first|refine wkQ ?_|refine Tw.f ?_ ?_|(refine fun(hc:(_:Bool)=_)=>?_;try simp only [hcS]at hc))
 all_goals try exact om_
 ·(first|refine aB ?_|refine aA ?_);simp only [go_sem,simprocAttr,Tryz.f122]
  rw [Cat.fault_1 hwf (by omega) (Cat.fault1_t (.inr hc))]
 ·refine⟨⟨f+1,by omega,(by exact aX hwf (Cat.fault1_f (by assumption) hc))⟩,by simp only;omega,Imp.ao hX⟩
 ·(first|refine aB ?_|refine aA ?_);simp only [go_sem,simprocAttr,Tryz.f122]
  rw [Cat.fault_1 hwf (by omega) (Cat.fault1_t (.inl hc))]
 have h1:aW c.fr.length c.fault1=none:=bK hwf hif (by omega)
 clear hwf hF hT hI1 hI2 hr1 hr2
 refine aG (G:={f:Nat//f≤c.fr.length∧(aW f (fun f=>aW c.fr.length fun g=>c.fault2g f g)=none)}) (fun⟨f,_⟩=>[(8,iv f)]) [1,6] (fun⟨f,_⟩=>[]) [] (fun zz=>c.fr.length-zz.1) ⟨0,Nat.zero_le _,by rfl⟩ ?_ ?_
 ·exact Imp.au hX
 rintro⟨f,hif,hwf⟩
 simp only [go_sem,simprocAttr]
 repeat'(first|refine wkQ ?_|refine Tw.f ?_ ?_|(refine fun(hc:(_:Bool)=_)=>?_;try simp only [hcS]at hc))
 all_goals try exact om_
 refine aG (G:={g:Nat//g≤c.fr.length∧(aW g (fun g=>c.fault2g f g)=none)}) (fun⟨g,_⟩=>[(9,iv g)]) [1,6,8] (fun⟨g,_⟩=>[]) [] (fun zz=>c.fr.length-zz.1) ⟨0,Nat.zero_le _,by rfl⟩ ?_ ?_
 ·exact Imp.au hX
 rintro⟨g,hig,hwg⟩
 simp only [go_sem,simprocAttr]
 have hr1:=fun h=>(s11 f h).1
 have hr2:=fun h=>(s11 f h).2 g
 have hr3:=fun h=>(s11 g h).1
 have hr4:=fun h=>(s11 ((c.co.getD f []).getD g 0).toNat h).1
 repeat'(first|refine wkQ ?_|refine Tw.f ?_ ?_|(refine fun(hc:(_:Bool)=_)=>?_;try simp only [hcS]at hc))
 all_goals try exact om_
 ·refine⟨⟨g+1,by omega,(by exact aX hwg (Cat.fault2g_f (by((try simp only [Cat.F,Cat.T,Cat.I,Cat.C,Fun.O,Fun.A,Cat.Entry,Int.toNat_natCast]at *);omega))))⟩,by simp only;omega,Imp.ao hX⟩
 have hn0:¬c.C f g<0:=by((try simp only [Cat.F,Cat.T,Cat.I,Cat.C,Fun.O,Fun.A,Cat.Entry,Int.toNat_natCast]at *);omega)
 refine aG (G:={h:Nat//h≤c.fr.length∧(aW h (fun h=>c.fault2 f g h)=none)}) (fun⟨h,_⟩=>[(10,iv h)]) [1,6,8,9] (fun⟨h,_⟩=>[]) [] (fun zz=>c.fr.length-zz.1) ⟨0,Nat.zero_le _,by rfl⟩ ?_ ?_
 ·exact Imp.au hX
 rintro⟨h,hih,hwh⟩
 simp only [go_sem,simprocAttr]
 have hr5:=fun q=>(s11 g q).2 h
 repeat'(first|refine wkQ ?_|refine Tw.f ?_ ?_|(refine fun(hc:(_:Bool)=_)=>?_;try simp only [hcS]at hc))
 all_goals try exact om_
 ·(first|refine aB ?_|refine aA ?_);simp only [go_sem,simprocAttr,Tryz.f122]
  rw [Cat.fault_2 h1 hwf (by omega) hwg (by omega) hn0 hwh (by omega) (Cat.fault2_t (by((try simp only [Cat.F,Cat.T,Cat.I,Cat.C,Fun.O,Fun.A,Cat.Entry,Int.toNat_natCast]at *);omega)) hc)]
 ·refine⟨⟨h+1,by omega,(by exact aX hwh (Cat.fault2_f fun _=>hc))⟩,by simp only;omega,Imp.ao hX⟩
 ·refine⟨⟨h+1,by omega,(by exact aX hwh (Cat.fault2_f fun _=>by((try simp only [Cat.F,Cat.T,Cat.I,Cat.C,Fun.O,Fun.A,Cat.Entry,Int.toNat_natCast]at *);omega)))⟩,by simp only;omega,Imp.ao hX⟩
 ·refine⟨⟨g+1,by omega,(by exact aX hwg (by rw [Cat.fault2g_t hn0];exact bK hwh hih (by omega)))⟩,by simp only;omega,Imp.ao hX⟩
 ·refine⟨⟨f+1,by omega,(by exact aX hwf (bK hwg hig (by omega)))⟩,by simp only;omega,Imp.ao hX⟩
 ·(first|refine aB ?_|refine aA ?_);simp only [go_sem,simprocAttr,Tryz.f122]
  rw [Cat.fault_0 h1 (bK hwf hif (by omega))]
theorem gZ:aF Tryz.prog 62:=⟨_,Tryz.func62,rfl,rfl⟩
theorem aAm {c:Cat} (hb:CatB c):Spec Tryz.prog 62 [jX c] [] (bv (dec (IsCat c))) []:=by
 refine aD (E:=TE) 0 Tryz.func62 rfl (by simp [Tryz.f62]) fun X hn hX=>?_
 repeat'(first|refine wkQ ?_|refine Tw.f ?_ ?_|(refine kcQ uP ?_;refine krQ (zR ?_) ?_)|(refine kcQ rQ ?_;refine krQ (vJ ?_) ?_)|(refine fun(hc:(_:Bool)=_)=>?_;try simp only [hcS]at hc))
 all_goals try exact om_
 ·(first|refine aB ?_|refine aA ?_);simp only [go_sem,simprocAttr,Tryz.f62]
  exact cW (fun s=>hc s.toShape)
 ·(first|refine aB ?_|refine aA ?_);simp only [go_sem,simprocAttr,Tryz.f62]
  rw [←jC,cB hc.fault_zero]
theorem lC:aF Tryz.prog 48:=⟨_,Tryz.func48,rfl,rfl⟩
theorem zY {a b:List Int} (ha:a.length≤1048576) (hb:b.length≤1048576):Spec Tryz.prog 48 [.bor [] (ints a), .bor [] (ints b)] [] (bv (dec (a=b))) []:=by
 refine aD (E:=TE) 0 Tryz.func48 rfl (by simp [Tryz.f48]) fun X hn hX=>?_
 repeat'(first|refine wkQ ?_|refine Tw.f ?_ ?_|(refine fun(hc:(_:Bool)=_)=>?_;try simp only [hcS]at hc))
 all_goals try exact om_
 ·(first|refine aB ?_|refine aA ?_);simp only [go_sem,simprocAttr,Tryz.f48]
  exact cW (fun e=>by subst e;omega)
 refine aG (G:={i:Nat//i≤a.length∧(a.take i=b.take i)}) (fun⟨i,_⟩=>[(5,iv i)]) [0,1] (fun⟨i,_⟩=>[]) [] (fun zz=>a.length-zz.1) ⟨0,Nat.zero_le _,by simp⟩ ?_ ?_
 ·exact Imp.au hX
 rintro⟨i,hii,hwi⟩
 simp only [go_sem,simprocAttr]
 repeat'(first|refine wkQ ?_|refine Tw.f ?_ ?_|(refine fun(hc:(_:Bool)=_)=>?_;try simp only [hcS]at hc))
 all_goals try exact om_
 ·(first|refine aB ?_|refine aA ?_);simp only [go_sem,simprocAttr,Tryz.f48]
  exact cW (fun e=>by subst e;exact hc rfl)
 ·refine⟨⟨i+1,by omega,(by exact mO hwi (by omega) (by omega) hc)⟩,by simp only;omega,Imp.ao hX⟩
 ·(first|refine aB ?_|refine aA ?_);simp only [go_sem,simprocAttr,Tryz.f48]
  exact qF (tF hwi (by omega) (by omega))
end Go.Eng
end
section
namespace Go.Eng
open Go Go.Proofs Go.Cats
theorem aB8:aF Tryz.prog 99:=⟨_,Tryz.func99,rfl,rfl⟩
theorem aEe {f:SF} (hb:SFB f):Spec Tryz.prog 99 [sfV f] [] (bv (dec (SFShape f))) []:=by
 refine aD (E:=TE) 0 Tryz.func99 rfl (by simp [Tryz.f99]) fun X hn hX=>?_
 obtain⟨b1,b2,b3,b4⟩:=hb
 repeat'(first|refine wkQ ?_|refine Tw.f ?_ ?_|(refine kcQ gZ ?_;refine krQ (aAm ?_) ?_)|(refine fun(hc:(_:Bool)=_)=>?_;try simp only [hcS]at hc))
 all_goals try exact om_
 all_goals try((first|refine aB ?_|refine aA ?_);simp only [go_sem,simprocAttr,Tryz.f99];exact cW (fun s=>by obtain⟨s1,s2,s3,s4,s5⟩:=s;first|omega|contradiction))
 have hC:IsCat f.shape:=by assumption
 obtain⟨s1,s2,s3,s4,s5,s6,s7,s8,s9,s10,s11⟩:=hC.toShape
 refine aG (G:={i:Nat//i≤f.sizes.length∧(∀a,a<i→0≤f.sizes.getD a 0∧f.sizes.getD a 0<17)}) (fun⟨i,_⟩=>[(3,iv i)]) [1] (fun⟨i,_⟩=>[]) [] (fun zz=>f.sizes.length-zz.1) ⟨0,Nat.zero_le _,by omega⟩ ?_ ?_
 ·exact Imp.au hX
 rintro⟨i,hii,hwi⟩
 simp only [go_sem,simprocAttr]
 repeat'(first|refine wkQ ?_|refine Tw.f ?_ ?_|(refine kcQ aBa ?_;refine krQ (aD9) ?_)|(refine fun(hc:(_:Bool)=_)=>?_;try simp only [hcS]at hc))
 all_goals try exact om_
 ·(first|refine aB ?_|refine aA ?_);simp only [go_sem,simprocAttr,Tryz.f99]
  exact cW (fun s=>by have:=s.szw i (by omega);omega)
 ·refine⟨⟨i+1,by omega,(by exact bW hwi (by omega))⟩,by simp only;omega,Imp.ao hX⟩
 have hS:Within f.sizes 17:=fun a ha=>hwi a (by omega)
 clear hwi
 refine aG (G:={i:Nat//i≤f.acts.length∧(∀a,a<i→((f.acts.getD a []).length:Int)=f.sizes.getD (f.shape.fr.getD a 0).toNat 0∧Within (f.acts.getD a []) (f.sizes.getD (f.shape.to.getD a 0).toNat 0))}) (fun⟨i,_⟩=>[(4,iv i)]) [1] (fun⟨i,_⟩=>[]) [] (fun zz=>f.acts.length-zz.1) ⟨0,Nat.zero_le _,by omega⟩ ?_ ?_
 ·exact Imp.au hX
 rintro⟨i,hii,hwi⟩
 simp only [go_sem,simprocAttr]
 have h1:=s5 i
 have h2:=s6 i
 have h4:=b4 i
 repeat'(first|refine wkQ ?_|refine Tw.f ?_ ?_|(refine kcQ qL ?_;refine krQ (uF ?_) ?_)|(refine fun(hc:(_:Bool)=_)=>?_;try simp only [hcS]at hc))
 all_goals try exact om_
 all_goals try((first|refine aB ?_|refine aA ?_);simp only [go_sem,simprocAttr,Tryz.f99];exact cW (fun s=>by have:=s.act i (by omega);first|omega|exact hc this.2))
 ·refine⟨⟨i+1,by omega,(by exact bW hwi ⟨by assumption,hc⟩)⟩,by simp only;omega,Imp.ao hX⟩
 ·(first|refine aB ?_|refine aA ?_);simp only [go_sem,simprocAttr,Tryz.f99]
  exact qF ⟨hC,by assumption,hS,by omega,fun a ha=>hwi a (by omega)⟩
theorem aB6:aF Tryz.prog 100:=⟨_,Tryz.func100,rfl,rfl⟩
theorem aEc {f:SF} (s:SFShape f):Spec Tryz.prog 100 [sfV f] [] (.tup [iv f.fault.1,iv f.fault.2.1,iv f.fault.2.2.1,iv f.fault.2.2.2]) []:=by
 refine aD (E:=TE) 0 Tryz.func100 rfl (by simp [Tryz.f100]) fun X hn hX=>?_
 obtain⟨hC,hz1,hS,hz2,hA⟩:=s
 obtain⟨s1,s2,s3,s4,s5,s6,s7,s8,s9,s10,s11⟩:=hC.toShape
 have hid:∀x,x<f.shape.id.length→((f.acts.getD (f.shape.id.getD x 0).toNat []).length:Int)=f.sizes.getD x 0:=fun x hx=>by
  have h1:=s8 x hx
  have h2:=(hA (f.shape.id.getD x 0).toNat (by omega)).1
  have h3:=(s10 x hx).1
  simp only [Cat.F]at h3
  rw [h3]at h2
  simpa using h2
 repeat'(first|refine wkQ ?_|refine Tw.f ?_ ?_|(refine fun(hc:(_:Bool)=_)=>?_;try simp only [hcS]at hc))
 all_goals try exact om_
 refine aG (G:={x:Nat//x≤f.shape.id.length∧(aW x f.fault1x=none)}) (fun⟨x,_⟩=>[(7,iv x)]) [1,6] (fun⟨x,_⟩=>[]) [] (fun zz=>f.shape.id.length-zz.1) ⟨0,Nat.zero_le _,by rfl⟩ ?_ ?_
 ·exact Imp.au hX
 rintro⟨x,hix,hwx⟩
 simp only [go_sem,simprocAttr]
 have h1:=s8 x
 have h2:=hid x
 have h3:=hS x
 repeat'(first|refine wkQ ?_|refine Tw.f ?_ ?_|(refine fun(hc:(_:Bool)=_)=>?_;try simp only [hcS]at hc))
 all_goals try exact om_
 refine aG (G:={e:Nat//e≤(f.acts.getD (f.shape.id.getD x 0).toNat []).length∧((aW e fun e=>f.fault1 x e)=none)}) (fun⟨e,_⟩=>[(8,iv e)]) [1,6,7] (fun⟨e,_⟩=>[]) [] (fun zz=>(f.acts.getD (f.shape.id.getD x 0).toNat []).length-zz.1) ⟨0,Nat.zero_le _,by rfl⟩ ?_ ?_
 ·exact Imp.au hX
 rintro⟨e,hie,hwe⟩
 simp only [go_sem,simprocAttr]
 repeat'(first|refine wkQ ?_|refine Tw.f ?_ ?_|(refine fun(hc:(_:Bool)=_)=>?_;try simp only [hcS]at hc))
 all_goals try exact om_
 ·(first|refine aB ?_|refine aA ?_);simp only [go_sem,simprocAttr,Tryz.f100]
  rw [SF.fault_1 hwx (by omega) hwe (by omega) (SF.fault1_t hc)]
 ·refine⟨⟨e+1,by omega,(by exact aX hwe (SF.fault1_f (by omega)))⟩,by simp only;omega,Imp.ao hX⟩
 ·refine⟨⟨x+1,by omega,(by exact aX hwx (bK hwe hie (by omega)))⟩,by simp only;omega,Imp.ao hX⟩
 have h0:aW f.shape.id.length f.fault1x=none:=bK hwx hix (by omega)
 clear hwx h1 h2 h3
 refine aG (G:={a:Nat//a≤f.shape.co.length∧(aW a f.fault2a=none)}) (fun⟨a,_⟩=>[(9,iv a)]) [1,6] (fun⟨a,_⟩=>[]) [] (fun zz=>f.shape.co.length-zz.1) ⟨0,Nat.zero_le _,by rfl⟩ ?_ ?_
 ·exact Imp.au hX
 rintro⟨a,hia,hwa⟩
 simp only [go_sem,simprocAttr]
 have h1:=fun h=>(s11 a h).1
 have h3:=fun h=>(hA a h).1
 have h4:=s6 a
 have h5:=s5 a
 repeat'(first|refine wkQ ?_|refine Tw.f ?_ ?_|(refine fun(hc:(_:Bool)=_)=>?_;try simp only [hcS]at hc))
 all_goals try exact om_
 have h1:=h1 (by omega)
 refine aG (G:={b:Nat//b≤(f.shape.co.getD a []).length∧((aW b fun b=>f.fault2b a b)=none)}) (fun⟨b,_⟩=>[(10,iv b)]) [1,6,9] (fun⟨b,_⟩=>[]) [] (fun zz=>(f.shape.co.getD a []).length-zz.1) ⟨0,Nat.zero_le _,by rfl⟩ ?_ ?_
 ·exact Imp.au hX
 rintro⟨b,hib,hwb⟩
 simp only [go_sem,simprocAttr]
 have g1:=fun h=>(s11 a h).2 b
 have g2:=s5 b
 repeat'(first|refine wkQ ?_|refine Tw.f ?_ ?_|(refine fun(hc:(_:Bool)=_)=>?_;try simp only [hcS]at hc))
 all_goals try exact om_
 ·refine⟨⟨b+1,by omega,(by exact aX hwb (SF.fault2b_f (by have:=g1 (by omega) (by omega);((try simp only [Cat.F,Cat.T,Cat.I,Cat.C,Fun.O,Fun.A,Cat.Entry,Int.toNat_natCast]at *);omega))))⟩,by simp only;omega,Imp.ao hX⟩
 have hb2:a<f.shape.fr.length:=by omega
 have hb3:b<f.shape.fr.length:=by omega
 have hE:=g1 hb2 hb3
 simp only [Cat.Entry,Cat.F,Cat.T,Cat.C,Int.toNat_natCast]at hE
 have hb1:0≤(f.shape.co.getD a []).getD b 0:=by omega
 have k1:=hA ((f.shape.co.getD a []).getD b 0).toNat (by omega)
 have k2:=hA b (by omega)
 have k3:=hA a (by omega)
 have k4:(f.acts.getD ((f.shape.co.getD a []).getD b 0).toNat []).length=(f.acts.getD a []).length:=by
  rcases hE with⟨_,q1,q2,_⟩|⟨_,q⟩
  ·rw [q2]at k1;omega
  ·omega
 clear g1 g2 k1
 have k6:=hS (f.shape.fr.getD a 0).toNat (by omega)
 refine aG (G:={e:Nat//e≤(f.acts.getD a []).length∧((aW e fun e=>f.fault2 a b e)=none)}) (fun⟨e,_⟩=>[(11,iv e)]) [1,6,9,10] (fun⟨e,_⟩=>[]) [] (fun zz=>(f.acts.getD a []).length-zz.1) ⟨0,Nat.zero_le _,by rfl⟩ ?_ ?_
 ·exact Imp.au hX
 rintro⟨e,hie,hwe⟩
 simp only [go_sem,simprocAttr]
 have m1:=k3.2 e
 rw [show f.shape.to.getD a 0=f.shape.fr.getD b 0 by assumption]at m1
 have m2:=k2.1
 repeat'(first|refine wkQ ?_|refine Tw.f ?_ ?_|(refine fun(hc:(_:Bool)=_)=>?_;try simp only [hcS]at hc))
 all_goals try exact om_
 ·(first|refine aB ?_|refine aA ?_);simp only [go_sem,simprocAttr,Tryz.f100]
  rw [SF.fault_2 h0 hwa (by omega) hwb (by omega) (by omega) hwe (by omega) (SF.fault2_t hc)]
 ·refine⟨⟨e+1,by omega,(by exact aX hwe (SF.fault2_f hc))⟩,by simp only;omega,Imp.ao hX⟩
 ·refine⟨⟨b+1,by omega,(by exact aX hwb (by rw [SF.fault2b_t (by omega)];exact bK hwe hie (by omega)))⟩,by simp only;omega,Imp.ao hX⟩
 ·refine⟨⟨a+1,by omega,(by exact aX hwa (bK hwb hib (by omega)))⟩,by simp only;omega,Imp.ao hX⟩
 ·(first|refine aB ?_|refine aA ?_);simp only [go_sem,simprocAttr,Tryz.f100]
  rw [SF.fault_0 h0 (bK hwa hia (by omega))]
theorem aBb:aF Tryz.prog 41:=⟨_,Tryz.func41,rfl,rfl⟩
theorem aEd {f:SF} (hb:SFB f):Spec Tryz.prog 41 [sfV f] [] (bv (dec (IsSF f))) []:=by
 refine aD (E:=TE) 0 Tryz.func41 rfl (by simp [Tryz.f41]) fun X hn hX=>?_
 repeat'(first|refine wkQ ?_|refine Tw.f ?_ ?_|(refine kcQ aB8 ?_;refine krQ (aEe ?_) ?_)|(refine kcQ aB6 ?_;refine krQ (aEc ?_) ?_)|(refine fun(hc:(_:Bool)=_)=>?_;try simp only [hcS]at hc))
 all_goals try exact om_
 ·(first|refine aB ?_|refine aA ?_);simp only [go_sem,simprocAttr,Tryz.f41]
  exact cW (fun s=>hc s.toSFShape)
 ·(first|refine aB ?_|refine aA ?_);simp only [go_sem,simprocAttr,Tryz.f41]
  rw [←jC,cB hc.fault_zero]
end Go.Eng
end
