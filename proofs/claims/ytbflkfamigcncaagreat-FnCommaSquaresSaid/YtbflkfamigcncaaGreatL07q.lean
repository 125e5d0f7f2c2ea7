/- The law FnCommaSquares: what is drawn, the plain law. -/
import Derived.Test.YtbflkfamigcncaaGreatZ18q
import Derived.Test.YtbflkfamigcncaaGreatL06q
set_option linter.unusedSimpArgs false
set_option linter.unusedVariables false
set_option maxRecDepth 100000
set_option maxHeartbeats 32000000
namespace Go.Eng
open Go Go.Proofs Go.Cats
theorem fW:aF Tryz.prog 44:=⟨_,Tryz.func44,rfl,rfl⟩
theorem lS {l:List Int} (h:CodeOk l):Spec Tryz.prog 44 [.bor [] (bys l)] [] (.tup [aE4 0 (d9F l).1,aE4 10 (d9F l).2]) (aG9 0 (d9F l).1++aG9 10 (d9F l).2):=by
 refine aD (E:=TE) 0 Tryz.func44 rfl (by simp [Tryz.f44]) fun X hn hX=>?_
 have hP:=aFz h
 repeat'(first|refine wkQ ?_|refine Tw.f ?_ ?_|(refine kcQ aDC ?_;refine kwQ (hP) [(0,2),(1,3),(2,4),(3,5),(4,6),(5,7),(6,8),(7,9),(8,10),(9,11),(10,12),(11,13),(12,14),(13,15),(14,16),(15,17),(16,18),(17,19),(18,20),(19,21)] [] ?_)|(refine fun(hc:(_:Bool)=_)=>?_;try simp only [hcS]at hc))
 all_goals try exact om_
 (first|refine aB ?_|refine aA ?_);simp only [go_sem,simprocAttr,Tryz.f44]
theorem zK {f g:Fun} (hf:IsFun f) (hg:IsFun g) (h:f.tgt=g.src):IsFun (thF f g):=by
 have fo:=hf.fits.obl
 have fa:=hf.fits.arl
 have go:=hg.fits.obl
 have ga:=hg.fits.arl
 have sc:=hf.src.toShape
 have c0:=sc.ob0
 have tl:=sc.tol
 have il:=sc.idl
 have eO:∀y:Int,0≤y→y<f.src.ob→(thF f g).O y=g.O (f.O y):=fun y h0 h1=>thn_at (f:=f.obs) (g:=g.obs) (i:=y.toNat) (by omega)
 have eA:∀a:Int,0≤a→a<f.src.fr.length→(thF f g).A a=g.A (f.A a):=fun a h0 h1=>thn_at (f:=f.ars) (g:=g.ars) (i:=a.toNat) (by omega)
 refine⟨hf.src,hg.tgt,?_,?_,?_,?_,fun a ha=>?_,fun x hx=>?_,fun a b ha hb h0=>?_⟩
 ·show((thn f.obs g.obs).length:Int)=f.src.ob;rw [thn_len];exact fo
 ·show(thn f.ars g.ars).length=f.src.fr.length;rw [thn_len];exact fa
 ·exact thn_in (fun i hi=>by have:=hf.fits.obw i hi;rw [h]at this;omega) hg.fits.obw
 ·exact thn_in (fun i hi=>by have:=hf.fits.arw i hi;rw [h]at this;omega) hg.fits.arw
 ·have ha:a<f.src.fr.length:=by
   have q:a<(thn f.ars g.ars).length:=ha
   rw [thn_len]at q;omega
  have f1:=sc.frw a ha
  have f2:=sc.tow a (by omega)
  obtain⟨p1,p2,p3,p4⟩:=hf.arI (a:=(a:Int)) (by omega) (by omega)
  rw [h]at p2 p3 p4
  obtain⟨q1,q2,q3,q4⟩:=hg.arI p1 p2
  have e1:(thF f g).ars.getD a 0=g.A (f.A (a:Int)):=eA a (by omega) (by omega)
  have e2:(thF f g).O ((thF f g).src.F (a:Int))=g.O (f.O (f.src.F (a:Int))):=eO _ f1.1 f1.2
  have e3:(thF f g).O ((thF f g).src.T (a:Int))=g.O (f.O (f.src.T (a:Int))):=eO _ f2.1 f2.2
  rw [e1,e2,e3]
  exact⟨by show g.tgt.F _=_;rw [q3,p3],by show g.tgt.T _=_;rw [q4,p4]⟩
 ·have hx:x<f.src.id.length:=hx
  have i1:=sc.idw x hx
  have h1:=hf.unI (x:=(x:Int)) (by omega) (by omega)
  have o1:=hf.fits.obw x (by omega)
  rw [h]at o1 h1
  have h2:=hg.unI (x:=f.O (x:Int)) o1.1 o1.2
  have e1:(thF f g).A ((thF f g).src.id.getD x 0)=g.A (f.A (f.src.id.getD x 0)):=eA _ i1.1 i1.2
  have e2:(thF f g).O (x:Int)=g.O (f.O (x:Int)):=eO _ (by omega) (by omega)
  rw [e1,e2]
  show g.A (f.A (f.src.I (x:Int)))=g.tgt.I (g.O (f.O (x:Int)))
  rw [h1,h2]
 ·have ha:a<f.src.fr.length:=ha
  have hb:b<f.src.fr.length:=hb
  have h0:0≤f.src.C a b:=h0
  have hlt:f.src.C a b<f.src.fr.length:=by
   rcases(sc.coe a ha).2 b hb with⟨_,⟨_,q⟩,_⟩|⟨_,q⟩
   ·exact q
   ·omega
  have h1:=hf.fits.comp a b ha hb h0
  obtain⟨p1,p2,_⟩:=hf.arI (a:=f.src.C a b) h0 hlt
  obtain⟨a1,a2,_⟩:=hf.arI (a:=(a:Int)) (by omega) (by omega)
  obtain⟨b1,b2,_⟩:=hf.arI (a:=(b:Int)) (by omega) (by omega)
  rw [h]at a2 b2 h1
  have h2:=hg.fits.comp (f.A (a:Int)).toNat (f.A (b:Int)).toNat (by omega) (by omega) (by rw [Int.toNat_of_nonneg a1,Int.toNat_of_nonneg b1,←h1];exact p1)
  rw [Int.toNat_of_nonneg a1,Int.toNat_of_nonneg b1]at h2
  show(thF f g).A (f.src.C a b)=g.tgt.C ((thF f g).A (a:Int)) ((thF f g).A (b:Int))
  rw [eA _ h0 hlt,eA _ (by omega) (by omega),eA _ (by omega) (by omega),h1,h2]
section
variable {f e:Fun}
theorem aF0 (hy:CYes f e):IsFun (cmF f e):=aKK hy.src hy.tgt hy.one hy.obs hy.ars
theorem aF1 (hy:CYes f e):IsFun (cmG f e):=aIq hy.src hy.tgt hy.one hy.obs hy.ars
noncomputable def cmH (f e:Fun):List Int:=bP (aK f e) 2 (aK f e).length
theorem aM7 (hy:CYes f e):Par (thF (cmF f e) f) (thF (cmG f e) e):=by
 have h1:=zK (aF0 hy) hy.src rfl
 have h2:=zK (aF1 hy) hy.tgt rfl
 exact⟨h1.src,h1.tgt,h1.fits,h2.fits,rfl,hy.one.symm⟩
theorem aF2:(cmH f e).length=(aK f e).length:=by unfold cmH;rw [aZ,Nat.min_self]
theorem aM6 (hy:CYes f e):NatK (thF (cmF f e) f) (thF (cmG f e) e) (cmH f e):=by
 have hO:=fG hy.src hy.tgt hy.one
 have ok:=aIp hy.src hy.tgt hy.one hy.obs hy.ars
 have hH:∀x,x<(aK f e).length→(cmH f e).getD x 0=rw' (aK f e) x 2:=fun x hx=>fH hx (Nat.le_refl _)
 have h0:∀x,x<(aK f e).length→(cmF f e).obs.getD x 0=rw' (aK f e) x 0:=fun x hx=>fH hx (Nat.le_refl _)
 have h1:∀x,x<(aK f e).length→(cmG f e).obs.getD x 0=rw' (aK f e) x 1:=fun x hx=>fH hx (Nat.le_refl _)
 have l0:(cmF f e).obs.length=(aK f e).length:=by show(bP _ 0 _).length=_;rw [aZ,Nat.min_self]
 have l1:(cmG f e).obs.length=(aK f e).length:=by show(bP _ 1 _).length=_;rw [aZ,Nat.min_self]
 have la:(cmF f e).ars.length=(cmA f e).length:=by show(bP _ 2 _).length=_;rw [aZ,Nat.min_self]
 have lb:(cmG f e).ars.length=(cmA f e).length:=by show(bP _ 3 _).length=_;rw [aZ,Nat.min_self]
 have hm:(cmC f e (cmA f e).length).fr.length=(cmA f e).length:=by rw [zW];exact aGI
 refine⟨fun x hx=>?_,fun a ha hx1 hx2=>?_⟩
 ·rw [aF2]at hx
  obtain⟨_,p1,p2,p3,p4,p5,p6,p7,p8⟩:=hO x hx
  have e1:(thF (cmF f e) f).obs.getD x 0=f.O (rw' (aK f e) x 0):=by
   show(thn (cmF f e).obs f.obs).getD x 0=_
   rw [thn_at (by omega),h0 x hx]
  have e2:(thF (cmG f e) e).obs.getD x 0=e.O (rw' (aK f e) x 1):=by
   show(thn (cmG f e).obs e.obs).getD x 0=_
   rw [thn_at (by omega),h1 x hx]
  rw [hH x hx,e1,e2]
  exact Cat.mem_hom.2 ⟨p5,p6,p7,p8⟩
 ·have ha:a<(cmA f e).length:=by rw [←hm];exact ha
  obtain⟨s,t,u,v,hs,ht,hu,hv,hc,hr⟩:=iH (TabOK.mem ha)
  have e1:(thF (cmF f e) f).ars.getD a 0=f.A u:=by
   show(thn (cmF f e).ars f.ars).getD a 0=_
   rw [thn_at (by omega)]
   show f.ars.getD ((bP (cmA f e) 2 (cmA f e).length).getD a 0).toNat 0=_
   rw [fH ha (Nat.le_refl _),hr];rfl
  have e2:(thF (cmG f e) e).ars.getD a 0=e.A v:=by
   show(thn (cmG f e).ars e.ars).getD a 0=_
   rw [thn_at (by omega)]
   show e.ars.getD ((bP (cmA f e) 3 (cmA f e).length).getD a 0).toNat 0=_
   rw [fH ha (Nat.le_refl _),hr];rfl
  have e3:(thF (cmF f e) f).src.to.getD a 0=t:=by
   show(cmC f e (cmA f e).length).to.getD a 0=_
   rw [zW,aBc ha,hr];rfl
  have e4:(thF (cmF f e) f).src.fr.getD a 0=s:=by
   show(cmC f e (cmA f e).length).fr.getD a 0=_
   rw [zW,aBb ha,hr];rfl
  unfold SqP
  rw [e1,e2,e3,e4,Int.toNat_natCast,Int.toNat_natCast,hH t ht,hH s hs]
  exact hc
end
end Go.Eng
