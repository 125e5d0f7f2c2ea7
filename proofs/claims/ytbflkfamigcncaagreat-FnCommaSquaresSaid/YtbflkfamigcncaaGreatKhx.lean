/- Several texts in one: G08, G09, G10. -/
import Derived.Test.YtbflkfamigcncaaGreatKgx
set_option linter.unusedSimpArgs false
set_option linter.unusedVariables false
set_option maxRecDepth 100000
set_option maxHeartbeats 8000000
section
namespace Go.Eng
open Go Go.Proofs Go.Cats
theorem aGW:aF Tryz.prog 211:=⟨_,Tryz.func211,rfl,rfl⟩
theorem aKc {n lo hi:Int}:Spec Tryz.prog 211 [iv n,iv lo,iv hi] [] (bv (dec (lo≤n∧n≤hi))) []:=by
 refine aD (E:=TE) 0 Tryz.func211 rfl (by simp [Tryz.f211]) fun X hn hX=>?_
 repeat'(first|refine wkQ ?_|refine Tw.f ?_ ?_|(refine fun(hc:(_:Bool)=_)=>?_;try simp only [hcS]at hc))
 all_goals((first|refine aB ?_|refine aA ?_);simp only [go_sem,simprocAttr,Tryz.f211])
 ·rw [pK,Bool.decide_and];simp [hc]
 ·rw [kY];omega
theorem sC:aF Tryz.prog 205:=⟨_,Tryz.func205,rfl,rfl⟩
theorem wV {n:Int} {l:List Int} (hl:l.length≤1048576):Spec Tryz.prog 205 [iv n, .bor [] (ints l)] [] (bv (dec (Within l n))) []:=by
 refine aD (E:=TE) 0 Tryz.func205 rfl (by simp [Tryz.f205]) fun X hn hX=>?_
 repeat'(first|refine wkQ ?_|refine Tw.f ?_ ?_|(refine fun(hc:(_:Bool)=_)=>?_;try simp only [hcS]at hc))
 refine aH (G:={i:Nat//i≤l.length∧(∀j,j<i→0≤l.getD j 0∧l.getD j 0<n)}) (fun⟨i,_⟩=>[(5,iv i)]) [0,1] (fun⟨i,_⟩=>[]) [] (fun zz=>l.length-zz.1) ⟨0,Nat.zero_le _,by omega⟩ ?_ ?_
 ·exact Imp.au hX
 rintro⟨i,hii,hwi⟩
 simp only [go_sem,simprocAttr]
 repeat'(first|refine wkQ ?_|refine Tw.f ?_ ?_|(refine fun(hc:(_:Bool)=_)=>?_;try simp only [hcS]at hc))
 all_goals try exact om_
 all_goals try((first|refine aB ?_|refine aA ?_);simp only [go_sem,simprocAttr,Tryz.f205];exact eD (fun h=>by have:=h i (by omega);omega))
 ·refine⟨⟨i+1,by omega,(by exact bU hwi (by omega))⟩,by simp only;omega,Imp.ao hX⟩
 ·(first|refine aB ?_|refine aA ?_);simp only [go_sem,simprocAttr,Tryz.f205]
  exact xZ (fun j hj=>hwi j (by omega))
theorem aDB:aF Tryz.prog 212:=⟨_,Tryz.func212,rfl,rfl⟩
theorem aFx {l:List Int} {k n:Int} (hl:l.length≤1048576):Spec Tryz.prog 212 [.bor [] (ints l),iv k,iv n] [] (bv (dec ((l.length:Int)=k∧Within l n))) []:=by
 refine aD (E:=TE) 0 Tryz.func212 rfl (by simp [Tryz.f212]) fun X hn hX=>?_
 repeat'(first|refine wkQ ?_|refine Tw.f ?_ ?_|(refine kcQ sC ?_;refine krQ (wV ?_) ?_)|(refine fun(hc:(_:Bool)=_)=>?_;try simp only [hcS]at hc))
 all_goals try exact om_
 ·(first|refine aB ?_|refine aA ?_);simp only [go_sem,simprocAttr,Tryz.f212]
  exact congrArg (fun b=>Sv.v (.bool b)) (fL ⟨fun h=>⟨hc,h⟩,fun h=>h.2⟩)
 ·(first|refine aB ?_|refine aA ?_);simp only [go_sem,simprocAttr,Tryz.f212]
  exact eD (fun h=>hc h.1)
theorem aDx:aF Tryz.prog 151:=⟨_,Tryz.func151,rfl,rfl⟩
theorem aFr {c:Cat} (hb:CatB c):Spec Tryz.prog 151 [dN c] [] (bv (dec (Shape c))) []:=by
 refine aD (E:=TE) 0 Tryz.func151 rfl (by simp [Tryz.f151]) fun X hn hX=>?_
 obtain⟨b1,b2,b3,b4,b5,b6,b7⟩:=hb
 repeat'(first|refine wkQ ?_|refine Tw.f ?_ ?_|(refine kcQ aGW ?_;refine krQ (aKc) ?_)|(refine kcQ sC ?_;refine krQ (wV ?_) ?_)|(refine kcQ aDB ?_;refine krQ (aFx ?_) ?_)|(refine fun(hc:(_:Bool)=_)=>?_;try simp only [hcS]at hc))
 all_goals try exact om_
 all_goals try((first|refine aB ?_|refine aA ?_);simp only [go_sem,simprocAttr,Tryz.f151];exact eD (fun s=>by obtain⟨s1,s2,s3,s4,s5,s6,s7,s8,s9,s10,s11⟩:=s;first|omega|contradiction|(rename_i q _;exact q ⟨by omega,by assumption⟩)|(rename_i q _ _;exact q ⟨by omega,by assumption⟩)|simp_all))
 have hI:Within c.id c.fr.length:=by assumption
 have hF:Within c.fr c.ob:=by rename_i q _ _ _ _;first|exact q.2|simp_all
 have hT:Within c.to c.ob:=by simp_all
 refine aH (G:={i:Nat//i≤c.id.length∧(∀x,x<i→c.F (c.id.getD x 0)=x∧c.T (c.id.getD x 0)=x)}) (fun⟨i,_⟩=>[(4,iv i)]) [1,3] (fun⟨i,_⟩=>[]) [] (fun zz=>c.id.length-zz.1) ⟨0,Nat.zero_le _,by omega⟩ ?_ ?_
 ·exact Imp.au hX
 rintro⟨i,hii,hwi⟩
 simp only [go_sem,simprocAttr]
 have hIi:=hI i
 repeat'(first|refine wkQ ?_|refine Tw.f ?_ ?_|(refine fun(hc:(_:Bool)=_)=>?_;try simp only [hcS]at hc))
 all_goals try exact om_
 ·(first|refine aB ?_|refine aA ?_);simp only [go_sem,simprocAttr,Tryz.f151]
  exact eD (fun s=>by have h:=s.ide i (by omega);((try simp only [Cat.F,Cat.T,Cat.I,Cat.C,Fun.O,Fun.A,Cat.Entry,Int.toNat_natCast]at *);omega))
 ·refine⟨⟨i+1,by omega,(by exact bU hwi (by((try simp only [Cat.F,Cat.T,Cat.I,Cat.C,Fun.O,Fun.A,Cat.Entry,Int.toNat_natCast]at *);omega)))⟩,by simp only;omega,Imp.ao hX⟩
 ·(first|refine aB ?_|refine aA ?_);simp only [go_sem,simprocAttr,Tryz.f151]
  exact eD (fun s=>by have h:=s.ide i (by omega);((try simp only [Cat.F,Cat.T,Cat.I,Cat.C,Fun.O,Fun.A,Cat.Entry,Int.toNat_natCast]at *);omega))
 have hide:∀x,x<c.id.length→c.F (c.id.getD x 0)=x∧c.T (c.id.getD x 0)=x:=fun x hx=>hwi x (by omega)
 clear hwi hIi
 refine aH (G:={f:Nat//f≤c.co.length∧(∀k,k<f→(c.co.getD k []).length=c.fr.length∧∀g,g<c.fr.length→c.Entry k g)}) (fun⟨f,_⟩=>[(5,iv f)]) [1,3] (fun⟨f,_⟩=>[]) [] (fun zz=>c.co.length-zz.1) ⟨0,Nat.zero_le _,by omega⟩ ?_ ?_
 ·exact Imp.au hX
 rintro⟨f,hif,hwf⟩
 simp only [go_sem,simprocAttr]
 have b7f:=b7 f
 repeat'(first|refine wkQ ?_|refine Tw.f ?_ ?_|(refine fun(hc:(_:Bool)=_)=>?_;try simp only [hcS]at hc))
 all_goals try exact om_
 ·(first|refine aB ?_|refine aA ?_);simp only [go_sem,simprocAttr,Tryz.f151]
  exact eD (fun s=>by have h:=(s.coe f (by omega)).1;omega)
 refine aH (G:={g:Nat//g≤c.fr.length∧(∀k,k<g→c.Entry f k)}) (fun⟨g,_⟩=>[(6,iv g)]) [1,3,5] (fun⟨g,_⟩=>[]) [] (fun zz=>c.fr.length-zz.1) ⟨0,Nat.zero_le _,by omega⟩ ?_ ?_
 ·exact Imp.au hX
 rintro⟨g,hig,hwg⟩
 simp only [go_sem,simprocAttr]
 repeat'(first|refine wkQ ?_|refine Tw.f ?_ ?_|(refine fun(hc:(_:Bool)=_)=>?_;try simp only [hcS]at hc))
 all_goals try exact om_
 all_goals try((first|refine aB ?_|refine aA ?_);simp only [go_sem,simprocAttr,Tryz.f151];exact eD (fun s=>by have h:=(s.coe f (by omega)).2 g (by omega);((try simp only [Cat.F,Cat.T,Cat.I,Cat.C,Fun.O,Fun.A,Cat.Entry,Int.toNat_natCast]at *);omega)))
 ·refine⟨⟨g+1,by omega,(by exact bU hwg (by((try simp only [Cat.F,Cat.T,Cat.I,Cat.C,Fun.O,Fun.A,Cat.Entry,Int.toNat_natCast]at *);omega)))⟩,by simp only;omega,Imp.ao hX⟩
 ·refine⟨⟨g+1,by omega,(by exact bU hwg (by((try simp only [Cat.F,Cat.T,Cat.I,Cat.C,Fun.O,Fun.A,Cat.Entry,Int.toNat_natCast]at *);omega)))⟩,by simp only;omega,Imp.ao hX⟩
 ·refine⟨⟨f+1,by omega,(by exact bU hwf ⟨by omega,fun k hk=>hwg k (by omega)⟩)⟩,by simp only;omega,Imp.ao hX⟩
 ·(first|refine aB ?_|refine aA ?_);simp only [go_sem,simprocAttr,Tryz.f151]
  exact xZ ⟨by omega,by omega,by omega,by omega,hF,hT,by assumption,hI,by omega,hide,fun k hk=>hwf k (by omega)⟩
end Go.Eng
end
section
namespace Go.Eng
open Go Go.Proofs Go.Cats
theorem aCI:aF Tryz.prog 152:=⟨_,Tryz.func152,rfl,rfl⟩
theorem aEp {c:Cat} (s:Shape c):Spec Tryz.prog 152 [dN c] [] (.tup [iv c.fault.1,iv c.fault.2.1,iv c.fault.2.2.1,iv c.fault.2.2.2]) []:=by
 refine aD (E:=TE) 0 Tryz.func152 rfl (by simp [Tryz.f152]) fun X hn hX=>?_
 have ⟨s1,s2,s3,s4,s5,s6,s7,s8,s9,s10,s11⟩:=s
 repeat'(first|refine wkQ ?_|refine Tw.f ?_ ?_|(refine fun(hc:(_:Bool)=_)=>?_;try simp only [hcS]at hc))
 all_goals try exact om_
 refine aH (G:={f:Nat//f≤c.fr.length∧(bS f c.fault1=none)}) (fun⟨f,_⟩=>[(7,iv f)]) [1,6] (fun⟨f,_⟩=>[]) [] (fun zz=>c.fr.length-zz.1) ⟨0,Nat.zero_le _,by rfl⟩ ?_ ?_
 ·exact Imp.au hX
 rintro⟨f,hif,hwf⟩
 simp only [go_sem,simprocAttr]
 have hF:=s5 f
 have hT:=s6 f
 have hI1:=s8 (c.fr.getD f 0).toNat
 have hI2:=s8 (c.to.getD f 0).toNat
 have hr1:=fun h=>(s11 (c.id.getD (c.fr.getD f 0).toNat 0).toNat h).1
 have hr2:=fun h=>(s11 f h).1
 repeat'(first|refine wkQ ?_|refine Tw.f ?_ ?_|(refine fun(hc:(_:Bool)=_)=>?_;try simp only [hcS]at hc))
 all_goals try exact om_
 ·(first|refine aB ?_|refine aA ?_);simp only [go_sem,simprocAttr,Tryz.f152]
  rw [Cat.fault_1 hwf (by omega) (Cat.fault1_t (.inr hc))]
 ·refine⟨⟨f+1,by omega,(by exact dO hwf (Cat.fault1_f (by assumption) hc))⟩,by simp only;omega,Imp.ao hX⟩
 ·(first|refine aB ?_|refine aA ?_);simp only [go_sem,simprocAttr,Tryz.f152]
  rw [Cat.fault_1 hwf (by omega) (Cat.fault1_t (.inl hc))]
 have h1:bS c.fr.length c.fault1=none:=jR hwf hif (by omega)
 clear hwf hF hT hI1 hI2 hr1 hr2
 refine aH (G:={f:Nat//f≤c.fr.length∧(bS f (fun f=>bS c.fr.length fun g=>c.fault2g f g)=none)}) (fun⟨f,_⟩=>[(8,iv f)]) [1,6] (fun⟨f,_⟩=>[]) [] (fun zz=>c.fr.length-zz.1) ⟨0,Nat.zero_le _,by rfl⟩ ?_ ?_
 ·exact Imp.au hX
 rintro⟨f,hif,hwf⟩
 simp only [go_sem,simprocAttr]
 repeat'(first|refine wkQ ?_|refine Tw.f ?_ ?_|(refine fun(hc:(_:Bool)=_)=>?_;try simp only [hcS]at hc))
 all_goals try exact om_
 refine aH (G:={g:Nat//g≤c.fr.length∧(bS g (fun g=>c.fault2g f g)=none)}) (fun⟨g,_⟩=>[(9,iv g)]) [1,6,8] (fun⟨g,_⟩=>[]) [] (fun zz=>c.fr.length-zz.1) ⟨0,Nat.zero_le _,by rfl⟩ ?_ ?_
 ·exact Imp.au hX
 rintro⟨g,hig,hwg⟩
 simp only [go_sem,simprocAttr]
 have hr1:=fun h=>(s11 f h).1
 have hr2:=fun h=>(s11 f h).2 g
 have hr3:=fun h=>(s11 g h).1
 have hr4:=fun h=>(s11 ((c.co.getD f []).getD g 0).toNat h).1
 repeat'(first|refine wkQ ?_|refine Tw.f ?_ ?_|(refine fun(hc:(_:Bool)=_)=>?_;try simp only [hcS]at hc))
 all_goals try exact om_
 ·refine⟨⟨g+1,by omega,(by exact dO hwg (Cat.fault2g_f (by((try simp only [Cat.F,Cat.T,Cat.I,Cat.C,Fun.O,Fun.A,Cat.Entry,Int.toNat_natCast]at *);omega))))⟩,by simp only;omega,Imp.ao hX⟩
 have hn0:¬c.C f g<0:=by((try simp only [Cat.F,Cat.T,Cat.I,Cat.C,Fun.O,Fun.A,Cat.Entry,Int.toNat_natCast]at *);omega)
 refine aH (G:={h:Nat//h≤c.fr.length∧(bS h (fun h=>c.fault2 f g h)=none)}) (fun⟨h,_⟩=>[(10,iv h)]) [1,6,8,9] (fun⟨h,_⟩=>[]) [] (fun zz=>c.fr.length-zz.1) ⟨0,Nat.zero_le _,by rfl⟩ ?_ ?_
 ·exact Imp.au hX
 rintro⟨h,hih,hwh⟩
 simp only [go_sem,simprocAttr]
 have hr5:=fun q=>(s11 g q).2 h
 repeat'(first|refine wkQ ?_|refine Tw.f ?_ ?_|(refine fun(hc:(_:Bool)=_)=>?_;try simp only [hcS]at hc))
 all_goals try exact om_
 ·(first|refine aB ?_|refine aA ?_);simp only [go_sem,simprocAttr,Tryz.f152]
  rw [Cat.fault_2 h1 hwf (by omega) hwg (by omega) hn0 hwh (by omega) (Cat.fault2_t (by((try simp only [Cat.F,Cat.T,Cat.I,Cat.C,Fun.O,Fun.A,Cat.Entry,Int.toNat_natCast]at *);omega)) hc)]
 ·refine⟨⟨h+1,by omega,(by exact dO hwh (Cat.fault2_f fun _=>hc))⟩,by simp only;omega,Imp.ao hX⟩
 ·refine⟨⟨h+1,by omega,(by exact dO hwh (Cat.fault2_f fun _=>by((try simp only [Cat.F,Cat.T,Cat.I,Cat.C,Fun.O,Fun.A,Cat.Entry,Int.toNat_natCast]at *);omega)))⟩,by simp only;omega,Imp.ao hX⟩
 ·refine⟨⟨g+1,by omega,(by exact dO hwg (by rw [Cat.fault2g_t hn0];exact jR hwh hih (by omega)))⟩,by simp only;omega,Imp.ao hX⟩
 ·refine⟨⟨f+1,by omega,(by exact dO hwf (jR hwg hig (by omega)))⟩,by simp only;omega,Imp.ao hX⟩
 ·(first|refine aB ?_|refine aA ?_);simp only [go_sem,simprocAttr,Tryz.f152]
  rw [Cat.fault_0 h1 (jR hwf hif (by omega))]
theorem aGX:aF Tryz.prog 78:=⟨_,Tryz.func78,rfl,rfl⟩
theorem aKd {c:Cat} (hb:CatB c):Spec Tryz.prog 78 [dN c] [] (bv (dec (IsCat c))) []:=by
 refine aD (E:=TE) 0 Tryz.func78 rfl (by simp [Tryz.f78]) fun X hn hX=>?_
 repeat'(first|refine wkQ ?_|refine Tw.f ?_ ?_|(refine kcQ aDx ?_;refine krQ (aFr ?_) ?_)|(refine kcQ aCI ?_;refine krQ (aEp ?_) ?_)|(refine fun(hc:(_:Bool)=_)=>?_;try simp only [hcS]at hc))
 all_goals try exact om_
 ·(first|refine aB ?_|refine aA ?_);simp only [go_sem,simprocAttr,Tryz.f78]
  exact eD (fun s=>hc s.toShape)
 ·(first|refine aB ?_|refine aA ?_);simp only [go_sem,simprocAttr,Tryz.f78]
  rw [←pK,fL hc.fault_zero]
theorem gZ:aF Tryz.prog 167:=⟨_,Tryz.func167,rfl,rfl⟩
theorem oA {a b:List Int} (ha:a.length≤1048576) (hb:b.length≤1048576):Spec Tryz.prog 167 [.bor [] (ints a), .bor [] (ints b)] [] (bv (dec (a=b))) []:=by
 refine aD (E:=TE) 0 Tryz.func167 rfl (by simp [Tryz.f167]) fun X hn hX=>?_
 repeat'(first|refine wkQ ?_|refine Tw.f ?_ ?_|(refine fun(hc:(_:Bool)=_)=>?_;try simp only [hcS]at hc))
 all_goals try exact om_
 ·(first|refine aB ?_|refine aA ?_);simp only [go_sem,simprocAttr,Tryz.f167]
  exact eD (fun e=>by subst e;omega)
 refine aH (G:={i:Nat//i≤a.length∧(a.take i=b.take i)}) (fun⟨i,_⟩=>[(5,iv i)]) [0,1] (fun⟨i,_⟩=>[]) [] (fun zz=>a.length-zz.1) ⟨0,Nat.zero_le _,by simp⟩ ?_ ?_
 ·exact Imp.au hX
 rintro⟨i,hii,hwi⟩
 simp only [go_sem,simprocAttr]
 repeat'(first|refine wkQ ?_|refine Tw.f ?_ ?_|(refine fun(hc:(_:Bool)=_)=>?_;try simp only [hcS]at hc))
 all_goals try exact om_
 ·(first|refine aB ?_|refine aA ?_);simp only [go_sem,simprocAttr,Tryz.f167]
  exact eD (fun e=>by subst e;exact hc rfl)
 ·refine⟨⟨i+1,by omega,(by exact kR hwi (by omega) (by omega) hc)⟩,by simp only;omega,Imp.ao hX⟩
 ·(first|refine aB ?_|refine aA ?_);simp only [go_sem,simprocAttr,Tryz.f167]
  exact xZ (qO hwi (by omega) (by omega))
theorem aCH:aF Tryz.prog 226:=⟨_,Tryz.func226,rfl,rfl⟩
theorem aEo {a b:List (List Int)} (ha:a.length≤1048576) (hb:b.length≤1048576) (ra:∀i,i<a.length→(a.getD i []).length≤1048576) (rb:∀i,i<b.length→(b.getD i []).length≤1048576):Spec Tryz.prog 226 [.bor [] (aE a), .bor [] (aE b)] [] (bv (dec (a=b))) []:=by
 refine aD (E:=TE) 0 Tryz.func226 rfl (by simp [Tryz.f226]) fun X hn hX=>?_
 repeat'(first|refine wkQ ?_|refine Tw.f ?_ ?_|(refine fun(hc:(_:Bool)=_)=>?_;try simp only [hcS]at hc))
 all_goals try exact om_
 ·(first|refine aB ?_|refine aA ?_);simp only [go_sem,simprocAttr,Tryz.f226]
  exact eD (fun e=>by subst e;omega)
 refine aH (G:={i:Nat//i≤a.length∧(a.take i=b.take i)}) (fun⟨i,_⟩=>[(5,iv i)]) [0,1] (fun⟨i,_⟩=>[]) [] (fun zz=>a.length-zz.1) ⟨0,Nat.zero_le _,by simp⟩ ?_ ?_
 ·exact Imp.au hX
 rintro⟨i,hii,hwi⟩
 simp only [go_sem,simprocAttr]
 have h1:=ra i
 have h2:=rb i
 repeat'(first|refine wkQ ?_|refine Tw.f ?_ ?_|(refine kcQ gZ ?_;refine krQ (oA ?_ ?_) ?_)|(refine fun(hc:(_:Bool)=_)=>?_;try simp only [hcS]at hc))
 all_goals try exact om_
 ·(first|refine aB ?_|refine aA ?_);simp only [go_sem,simprocAttr,Tryz.f226]
  exact eD (fun e=>by subst e;exact hc rfl)
 ·refine⟨⟨i+1,by omega,(by exact kR hwi (by omega) (by omega) hc)⟩,by simp only;omega,Imp.ao hX⟩
 ·(first|refine aB ?_|refine aA ?_);simp only [go_sem,simprocAttr,Tryz.f226]
  exact xZ (qO hwi (by omega) (by omega))
theorem pF:aF Tryz.prog 187:=⟨_,Tryz.func187,rfl,rfl⟩
theorem tA {a b:Cat} (ha:CatB a) (hb:CatB b):Spec Tryz.prog 187 [dN a,dN b] [] (bv (dec (a=b))) []:=by
 refine aD (E:=TE) 0 Tryz.func187 rfl (by simp [Tryz.f187]) fun X hn hX=>?_
 obtain⟨a1,a2,a3,a4,a5,a6,a7⟩:=ha
 obtain⟨b1,b2,b3,b4,b5,b6,b7⟩:=hb
 repeat'(first|refine wkQ ?_|refine Tw.f ?_ ?_|(refine kcQ gZ ?_;refine krQ (oA ?_ ?_) ?_)|(refine kcQ aCH ?_;refine krQ (aEo ?_ ?_ ?_ ?_) ?_)|(refine fun(hc:(_:Bool)=_)=>?_;try simp only [hcS]at hc))
 all_goals try exact om_
 ·(first|refine aB ?_|refine aA ?_);simp only [go_sem,simprocAttr,Tryz.f187]
  exact congrArg (fun b=>Sv.v (.bool b)) (fL ⟨fun h=>Cat.eq (by assumption) (by assumption) (by assumption) hc h,fun e=>by rw [e]⟩)
 all_goals((first|refine aB ?_|refine aA ?_);simp only [go_sem,simprocAttr,Tryz.f187];exact eD (fun e=>hc (by rw [e])))
end Go.Eng
end
section
namespace Go.Eng
open Go Go.Proofs Go.Cats
end Go.Eng
end
