/- Several texts in one: K03, K04. -/
import Derived.Test.YthgijhnmcglppaaGreatKalx
import Derived.Test.YthgijhnmcglppaaGreatO08y
set_option linter.unusedSimpArgs false
set_option linter.unusedVariables false
set_option maxRecDepth 100000
set_option maxHeartbeats 16000000
section
namespace Go.Eng
open Go Go.Proofs Go.Cats
attribute [local go_sem] List.set_cons_zero List.set_cons_succ
def aE0 (f0:SM) (l:List SM):Dt:= .sl 1 (.pt (smD f0)) (l.map fun f=> .pt (smD f))
@[go_sem] theorem aS4 (f0 l):(aE0 f0 l).isSl=true:=rfl
@[go_sem] theorem aXA (f0 l):(aE0 f0 l).sz=1:=rfl
@[go_sem] theorem aXz (f0) (l:List SM):(aE0 f0 l).nc=l.length:=by simp [aE0,Dt.nc,Dt.cells]
@[go_sem] theorem aUL (f0) (l:List SM):(aE0 f0 l).len=l.length:=by simp [aE0,Dt.len,Dt.sz,Dt.nc,Dt.cells]
@[go_sem] theorem aXy (f0) (l:List SM) (k:Nat):(aE0 f0 l).at k= .pt (smD (l.getD k f0)):=by
 simp only [aE0,Dt.at,Dt.cells,Dt.df,List.getD_eq_getElem?_getD,List.getElem?_map]
 cases l[k]? <;>simp
theorem two_allM {p:SM→Prop} {m n:SM}:(∀i,i<[m,n].length→p ([m,n].getD i m))↔p m∧p n:=by
 refine⟨fun h=>⟨h 0 (by simp),h 1 (by simp)⟩,fun⟨h1,h2⟩ i hi=>?_⟩
 have:i=0∨i=1:=by simp at hi;omega
 rcases this with rfl|rfl
 ·exact h1
 ·exact h2
theorem aBv:aD Tryz.prog 126:=⟨_,Tryz.func126,rfl,rfl⟩
theorem aDa {f0:SM} {l:List SM} (hl:l.length≤1048576) (hb:∀i,i<l.length→SMB (l.getD i f0)):Spec Tryz.prog 126 [.bor [] (aE0 f0 l)] [] (bv (dec (∀i,i<l.length→IsSM (l.getD i f0)))) []:=by
 refine aC (E:=TE) 0 Tryz.func126 rfl (by simp [Tryz.f126]) fun X hn hX=>?_
 repeat'(first|refine wkQ ?_|refine Tw.f ?_ ?_|(refine fun(hc:(_:Bool)=_)=>?_;try simp only [hcS]at hc))
 all_goals try exact om_
 refine aG (G:={i:Nat//i≤l.length∧(∀j,j<i→IsSM (l.getD j f0))}) (fun⟨i,_⟩=>[(7,iv i)]) [5,6] (fun⟨i,_⟩=>[]) [] (fun zz=>l.length-zz.1) ⟨0,Nat.zero_le _,by omega⟩ ?_ ?_
 ·exact Imp.au hX
 rintro⟨i,hii,hwi⟩
 simp only [go_sem,simprocAttr]
 have h1:=hb i
 repeat'(first|refine wkQ ?_|refine Tw.f ?_ ?_|(refine kcQ eV ?_;refine krQ (fJ ?_) ?_)|(refine fun(hc:(_:Bool)=_)=>?_;try simp only [hcS]at hc))
 all_goals try exact h1 (by omega)
 all_goals try exact om_
 ·(first|refine aB ?_|refine aA ?_);simp only [go_sem,simprocAttr,Tryz.f126]
  exact cD (fun s=>hc (s i (by omega)))
 ·refine⟨⟨i+1,by omega,(by exact bB hwi hc)⟩,by simp only;omega,Imp.ao hX⟩
 ·(first|refine aB ?_|refine aA ?_);simp only [go_sem,simprocAttr,Tryz.f126]
  exact nD (fun j hj=>hwi j (by omega))
theorem xN {m n:SM} (hm:SMB m) (hp:SMB n):Spec Tryz.prog 126 [.bor [] (.sl 1 (.pt (smD m)) [.pt (smD m), .pt (smD n)])] [] (bv (dec (IsSM m∧IsSM n))) []:=by
 have:=aDa (f0:=m) (l:=[m,n]) (by simp) (two_allM.2 ⟨hm,hp⟩)
 rw [bU two_allM]at this
 exact this
theorem uB:aD Tryz.prog 41:=⟨_,Tryz.func41,rfl,rfl⟩
theorem aE4 {c:Cat} {x y:Int} (hb:CatB c) (s:IsCat c) (x0:0≤x) (x1:x<c.ob) (y0:0≤y) (y1:y<c.ob):Spec Tryz.prog 41 [cK c,iv x,iv y] [] (.tup [.sl 0,iv 0]) [(0,⟨1, .arr (ints (c.hom x y))⟩)]:=by
 refine aC (E:=TE) 0 Tryz.func41 rfl (by simp [Tryz.f41]) fun X hn hX=>?_
 have m40:=s.toShape.m40
 have tl:=s.toShape.tol
 have hw:Within [x,y] c.ob:=fun i hi=>by
  have:i=0∨i=1:=by simp at hi;omega
  rcases this with rfl|rfl
  ·exact⟨x0,x1⟩
  ·exact⟨y0,y1⟩
 have hO:OC c [x,y] 0:= .inr (.inr ⟨s,hw,rfl⟩)
 have hl:[x,y].length≤1048576:=by simp
 repeat'(first|refine wkQ ?_|refine Tw.f ?_ ?_|(refine kcQ aBz ?_;refine ksQ (a:=zH (c:=c) (l:=[x,y]) (code:=0) (by first|omega|assumption|rfl|exact(by assumption:SMB _).src|exact(by assumption:SMB _).tgt) (by first|omega|assumption|rfl|exact(by assumption:SMB _).src|exact(by assumption:SMB _).tgt) (by first|omega|assumption|rfl|exact(by assumption:SMB _).src|exact(by assumption:SMB _).tgt)) (c:=?_))|(refine kcQ cG ?_;refine krQ (cS (c:=c) ?_ ?_) ?_)|(refine fun(hc:(_:Bool)=_)=>?_;try simp only [hcS]at hc))
 all_goals try exact om_
 (first|refine aB ?_|refine aA ?_);simp only [go_sem,simprocAttr,Tryz.f41]
abbrev smO (n:Nat) (m:SM):Sv:= .agg [iv m.src.shape.ob, .sl n, .sl (n+1), .sl (n+2), .sl (n+3), .sl (n+4), .sl (n+5),iv m.tgt.shape.ob, .sl (n+6), .sl (n+7), .sl (n+8), .sl (n+9), .sl (n+10), .sl (n+11), .sl (n+12)]
abbrev smQ (n:Nat) (m:SM):List (Nat×Rs):=[(n,⟨1, .arr (ints m.src.shape.fr)⟩),(n+1,⟨1, .arr (ints m.src.shape.to)⟩),(n+2,⟨1, .arr (ints m.src.shape.id)⟩),(n+3,⟨1, .arr (aF m.src.shape.co)⟩),(n+4,⟨1, .arr (ints m.src.sizes)⟩),(n+5,⟨1, .arr (aF m.src.acts)⟩),(n+6,⟨1, .arr (ints m.tgt.shape.fr)⟩),(n+7,⟨1, .arr (ints m.tgt.shape.to)⟩),(n+8,⟨1, .arr (ints m.tgt.shape.id)⟩),(n+9,⟨1, .arr (aF m.tgt.shape.co)⟩),(n+10,⟨1, .arr (ints m.tgt.sizes)⟩),(n+11,⟨1, .arr (aF m.tgt.acts)⟩),(n+12,⟨1, .arr (aF m.parts)⟩)]
attribute [go_sem] smQ
theorem aLc {V:List Nat} {rs:Nat→Rs} (m:SM):dZ V rs (smS [] m) (smD m):=
 ⟨_,_,rfl, .inl rfl,_,_,rfl,⟨rfl,bP _,fun p hp=>by cases hp⟩,_,_,rfl,⟨rfl,bP _,fun p hp=>by cases hp⟩,_,_,rfl,⟨rfl,bP _,fun p hp=>by cases hp⟩,_,_,rfl,⟨rfl,bP _,fun p hp=>by cases hp⟩,_,_,rfl,⟨rfl,bP _,fun p hp=>by cases hp⟩,_,_,rfl,⟨rfl,bP _,fun p hp=>by cases hp⟩,_,_,rfl, .inl rfl,_,_,rfl,⟨rfl,bP _,fun p hp=>by cases hp⟩,_,_,rfl,⟨rfl,bP _,fun p hp=>by cases hp⟩,_,_,rfl,⟨rfl,bP _,fun p hp=>by cases hp⟩,_,_,rfl,⟨rfl,bP _,fun p hp=>by cases hp⟩,_,_,rfl,⟨rfl,bP _,fun p hp=>by cases hp⟩,_,_,rfl,⟨rfl,bP _,fun p hp=>by cases hp⟩,_,_,rfl,⟨rfl,bP _,fun p hp=>by cases hp⟩,rfl⟩
theorem Imp.lendSm {X:Cx} {σ:Ss} (k i cv:Nat) (m:SM) (hk:lk σ.tm k= .ptr i 0) (hi:rsL σ.rs i=⟨cv, .box (smS [] m)⟩) (hcv:1≤cv):Imp X σ ⟨(k, .bptr [(i,cv)] (smD m))::σ.tm,σ.rs,σ.nx⟩:=by
 have h:=Imp.lendPtr (X:=X) (σ:=σ) k i 0 (smD m) [i] hk ⟨List.mem_singleton.2 rfl, .inl ⟨_,by rw [hi],aLc m⟩⟩ (fun j hj=>by rw [List.mem_singleton.1 hj,hi];exact hcv)
 rw [List.map_cons,List.map_nil,hi]at h
 exact h
def thM (m k:SM):SM:=⟨m.src,k.tgt,thP m.parts k.parts m.parts.length⟩
theorem aAu:aD Tryz.prog 43:=⟨_,Tryz.func43,rfl,rfl⟩
theorem xL {m k:SM} (hm:IsSM m) (hk:IsSM k) (bm:SMB m) (bk:SMB k) (e:m.tgt=k.src):Spec Tryz.prog 43 [smV m,smV k] [] (.tup [smO 0 (thM m k),iv 0]) (smQ 0 (thM m k)):=by
 have ml:=hm.fits.len
 have kl:=hk.fits.len
 have hA:=xN bm bk
 rw [cV (And.intro hm hk)]at hA
 have hS:=aAp (f:=m.tgt) (g:=k.src) bm.tgt bk.src
 rw [cV e]at hS
 have sl:m.src.sizes.length=m.tgt.sizes.length:=by
  have h1:=hm.src.szl
  have h2:=hm.tgt.szl
  rw [hm.same]at h1
  omega
 have hl:k.parts.length=m.parts.length:=by rw [kl,ml,sl,e]
 have hr:∀i,i<m.parts.length→(m.parts.getD i []).length≤1048576∧(k.parts.getD i []).length≤1048576∧Within (m.parts.getD i []) (k.parts.getD i []).length:=fun i hi=>by
  refine⟨bm.row i hi,bk.row i (by omega),?_⟩
  have h1:=(hm.fits.map i hi).2
  have h2:=(hk.fits.map i (by omega)).1
  rw [h2,←e];exact h1
 have hT:=aE9 (s:=m.parts) (t:=k.parts) bm.parts hl hr
 have pl:=aJA m.parts k.parts m.parts.length
 have hM:=aEi (f:=m.src) (g:=k.tgt) (p:=thP m.parts k.parts m.parts.length) bm.src bk.tgt (by have:=bm.parts;omega) (fun i hi=>by
  rw [pl]at hi
  unfold thP
  rw [List.getD_eq_getElem?_getD,List.getElem?_map,List.getElem?_range hi]
  show(thn _ _).length≤_
  rw [thn_len];exact bm.row i hi)
 have bp:=bm.parts
 unfold thM
 generalize thP m.parts k.parts m.parts.length=p at *
 refine aC (E:=TE) 0 Tryz.func43 rfl (by simp [Tryz.f43]) fun X hn hX=>?_
 repeat'(first|(refine dM 1 (Imp.trans (Imp.lendSm 2 0 1 m rfl rfl (Nat.le_refl 1)) (Imp.lendSm 3 1 1 k rfl rfl (Nat.le_refl 1))) ?_;simp only [go_sem,simprocAttr])|(with_reducible first|refine St.f ?_|refine V_c ?_|refine And.intro ?_ ?_|refine aJ ?_ ?_)|((refine aV ?_);intro K hK)|((with_reducible refine So.f ?_);intro K hK;simp(contextual:=true)only [go_sem,simprocAttr])|((with_reducible refine hK _ ?_);clear hK K)|((with_reducible refine aE 126 ?_);refine EvCall.mr (hA) aBv [] [3,0,1] ?_)|((with_reducible refine aE 122 ?_);refine EvCall.mr (hS) vV [] [0,1] ?_)|((with_reducible refine aE 127 ?_);refine EvCall.mr (hT) aC3 [(0,4)] [0,1] ?_)|((with_reducible refine aE 112 ?_);refine EvCall.mr (hM) aBA [(0,5),(1,6),(2,7),(3,8),(4,9),(5,10),(6,11),(7,12),(8,13),(9,14),(10,15),(11,16),(12,17)] [0,1,4] ?_)|(refine fun(hc:(_:Bool)=_)=>?_;try simp only [hcS]at hc))
 all_goals try exact om_
 (first|refine aB ?_|refine aA ?_);simp only [go_sem,simprocAttr,Tryz.f43]
end Go.Eng
end
section
namespace Go.Eng
open Go Go.Proofs Go.Cats
attribute [local go_sem] List.set_cons_zero List.set_cons_succ
theorem aLt {c:Cat} {h:Int} (s:IsCat c) (hb:CatB c):SMB (arM c h):=by
 have hS:=s.toShape
 have h8:=hS.ob8
 have m40:=hS.m40
 refine⟨Cat.rep_sfb hS hb _,Cat.rep_sfb hS hb _,?_,fun z hz=>?_⟩
 ·show(arP c h c.ob.toNat).length≤_;rw [pC];omega
 ·have hz:z<c.ob.toNat:=by
   have:z<(arP c h c.ob.toNat).length:=hz
   rwa [pC]at this
  show((arP c h c.ob.toNat).getD z []).length≤_
  rw [tX hz,kB]
  have:=c.hom_len (c.T h) z
  omega
theorem eU:aD Tryz.prog 37:=⟨_,Tryz.func37,rfl,rfl⟩
theorem aAG {c:Cat} {h:Int} (hb:CatB c) (s:IsCat c) (h0:0≤h) (h1:h<c.fr.length) (hs:c.small (c.T h)) (ht:c.small (c.F h)):Spec Tryz.prog 37 [cK c,iv h] [] (.tup [smO 0 (arM c h),iv 0]) (smQ 0 (arM c h)):=by
 have hS:=s.toShape
 have tl:=hS.tol
 have hM:=aLt (h:=h) s hb
 have hl:[h].length≤1048576:=by simp
 have hw:Within [h] c.fr.length:=fun i hi=>by
  have:i=0:=by simp at hi;omega
  subst this;exact⟨h0,h1⟩
 have hA:AC c [h] 0:= .inr (.inr ⟨s,hw,rfl⟩)
 have hR1:=bR (x:=c.T h) hS hb hs
 have hR2:=bR (x:=c.F h) hS hb ht
 have hP:=pT s h0 h1
 have hsm:=aEi (f:=c.rep (c.T h)) (g:=c.rep (c.F h)) (p:=arP c h c.ob.toNat) hM.src hM.tgt hM.parts hM.row
 refine aC (E:=TE) 0 Tryz.func37 rfl (by simp [Tryz.f37]) fun X hn hX=>?_
 repeat'(first|refine wkQ ?_|refine Tw.f ?_ ?_|(refine kcQ iF ?_;refine ksQ (a:=fZ (c:=c) (l:=[h]) (code:=0) (by first|omega|assumption|rfl|exact(by assumption:SMB _).src|exact(by assumption:SMB _).tgt) (by first|omega|assumption|rfl|exact(by assumption:SMB _).src|exact(by assumption:SMB _).tgt) (by first|omega|assumption|rfl|exact(by assumption:SMB _).src|exact(by assumption:SMB _).tgt)) (c:=?_))|(refine kcQ aU ?_;refine kwQ (hR1) [(0,3),(1,4),(2,5),(3,6),(4,7),(5,8)] [0] ?_;clear hR1)|(refine kcQ aU ?_;refine kwQ (hR2) [(0,10),(1,11),(2,12),(3,13),(4,14),(5,15)] [0] ?_)|(refine kcQ oH ?_;refine kwQ (hP) [(0,17)] [0] ?_)|(refine kcQ aBA ?_;refine kwQ (hsm) [(0,18),(1,19),(2,20),(3,21),(4,22),(5,23),(6,24),(7,25),(8,26),(9,27),(10,28),(11,29),(12,30)] [9,3,4,5,6,7,8,16,10,11,12,13,14,15,17] ?_)|(refine fun(hc:(_:Bool)=_)=>?_;try simp only [hcS]at hc))
 all_goals try exact om_
 all_goals try(exfalso;omega)
 (first|refine aB ?_|refine aA ?_);simp only [go_sem,simprocAttr,Tryz.f37]
 all_goals repeat'(first|rfl|constructor)
end Go.Eng
end
