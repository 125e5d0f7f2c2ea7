/- Several texts in one: K02, K03, E09, E16. -/
import Derived.Test.YtipohdpnhodnmaaGreatE08q
import Derived.Test.YtipohdpnhodnmaaGreatE15q
import Derived.Test.YtipohdpnhodnmaaGreatEngEyq
set_option linter.unusedSimpArgs false
set_option linter.unusedVariables false
set_option maxRecDepth 100000
set_option maxHeartbeats 32000000
section
namespace Go.Eng
open Go Go.Proofs Go.Cats
attribute [local go_sem] List.set_cons_zero List.set_cons_succ
def arR (c:Cat) (h:Int) (z i:Nat):List Int:=((c.hom (c.T h) z).take i).map fun k=>idxOf (c.hom (c.F h) z) (c.C h k)
theorem aI6 (c:Cat) (h:Int) (z:Nat):arR c h z 0=[]:=rfl
theorem aI5 (c:Cat) (h:Int):arP c h 0=[]:=rfl
attribute [local go_sem] aI6 aI5
end Go.Eng
end
section
namespace Go.Eng
open Go Go.Proofs Go.Cats
attribute [local go_sem] List.set_cons_zero List.set_cons_succ
def aDb (f0:SM) (l:List SM):Dt:= .sl 1 (.pt (smD f0)) (l.map fun f=> .pt (smD f))
@[go_sem] theorem aQr (f0 l):(aDb f0 l).isSl=true:=rfl
@[go_sem] theorem aT6 (f0 l):(aDb f0 l).sz=1:=rfl
@[go_sem] theorem aT5 (f0) (l:List SM):(aDb f0 l).nc=l.length:=by simp [aDb,Dt.nc,Dt.cells]
@[go_sem] theorem aRR (f0) (l:List SM):(aDb f0 l).len=l.length:=by simp [aDb,Dt.len,Dt.sz,Dt.nc,Dt.cells]
@[go_sem] theorem aT4 (f0) (l:List SM) (k:Nat):(aDb f0 l).at k= .pt (smD (l.getD k f0)):=by
 simp only [aDb,Dt.at,Dt.cells,Dt.df,List.getD_eq_getElem?_getD,List.getElem?_map]
 cases l[k]? <;>simp
theorem two_allM {p:SM→Prop} {m n:SM}:(∀i,i<[m,n].length→p ([m,n].getD i m))↔p m∧p n:=by
 refine⟨fun h=>⟨h 0 (by simp),h 1 (by simp)⟩,fun⟨h1,h2⟩ i hi=>?_⟩
 have:i=0∨i=1:=by simp at hi;omega
 rcases this with rfl|rfl
 ·exact h1
 ·exact h2
theorem zD:aF Tryz.prog 56:=⟨_,Tryz.func56,rfl,rfl⟩
theorem aBm {f0:SM} {l:List SM} (hl:l.length≤1048576) (hb:∀i,i<l.length→SMB (l.getD i f0)):Spec Tryz.prog 56 [.bor [] (aDb f0 l)] [] (bv (dec (∀i,i<l.length→IsSM (l.getD i f0)))) []:=by
 refine aE (E:=TE) 0 Tryz.func56 rfl (by simp [Tryz.f56]) fun X hn hX=>?_
 repeat'(first|refine wkQ ?_|refine Tw.f ?_ ?_|(refine fun(hc:(_:Bool)=_)=>?_;try simp only [hcS]at hc))
 all_goals try exact om_
 refine aH (G:={i:Nat//i≤l.length∧(∀j,j<i→IsSM (l.getD j f0))}) (fun⟨i,_⟩=>[(7,iv i)]) [5,6] (fun⟨i,_⟩=>[]) [] (fun zz=>l.length-zz.1) ⟨0,Nat.zero_le _,by omega⟩ ?_ ?_
 ·exact Imp.au hX
 rintro⟨i,hii,hwi⟩
 simp only [go_sem,simprocAttr]
 have h1:=hb i
 repeat'(first|refine wkQ ?_|refine Tw.f ?_ ?_|(refine kcQ jC ?_;refine krQ (jM ?_) ?_)|(refine fun(hc:(_:Bool)=_)=>?_;try simp only [hcS]at hc))
 all_goals try exact h1 (by omega)
 all_goals try exact om_
 ·(first|refine aB ?_|refine aA ?_);simp only [go_sem,simprocAttr,Tryz.f56]
  exact cR (fun s=>hc (s i (by omega)))
 ·refine⟨⟨i+1,by omega,(by exact cB hwi hc)⟩,by simp only;omega,Imp.ao hX⟩
 ·(first|refine aB ?_|refine aA ?_);simp only [go_sem,simprocAttr,Tryz.f56]
  exact qW (fun j hj=>hwi j (by omega))
theorem uJ {m n:SM} (hm:SMB m) (hp:SMB n):Spec Tryz.prog 56 [.bor [] (.sl 1 (.pt (smD m)) [.pt (smD m), .pt (smD n)])] [] (bv (dec (IsSM m∧IsSM n))) []:=by
 have:=aBm (f0:=m) (l:=[m,n]) (by simp) (two_allM.2 ⟨hm,hp⟩)
 rw [cI two_allM]at this
 exact this
abbrev smO (n:Nat) (m:SM):Sv:= .agg [iv m.src.shape.ob, .sl n, .sl (n+1), .sl (n+2), .sl (n+3), .sl (n+4), .sl (n+5),iv m.tgt.shape.ob, .sl (n+6), .sl (n+7), .sl (n+8), .sl (n+9), .sl (n+10), .sl (n+11), .sl (n+12)]
abbrev smQ (n:Nat) (m:SM):List (Nat×Rs):=[(n,⟨1, .arr (ints m.src.shape.fr)⟩),(n+1,⟨1, .arr (ints m.src.shape.to)⟩),(n+2,⟨1, .arr (ints m.src.shape.id)⟩),(n+3,⟨1, .arr (aD m.src.shape.co)⟩),(n+4,⟨1, .arr (ints m.src.sizes)⟩),(n+5,⟨1, .arr (aD m.src.acts)⟩),(n+6,⟨1, .arr (ints m.tgt.shape.fr)⟩),(n+7,⟨1, .arr (ints m.tgt.shape.to)⟩),(n+8,⟨1, .arr (ints m.tgt.shape.id)⟩),(n+9,⟨1, .arr (aD m.tgt.shape.co)⟩),(n+10,⟨1, .arr (ints m.tgt.sizes)⟩),(n+11,⟨1, .arr (aD m.tgt.acts)⟩),(n+12,⟨1, .arr (aD m.parts)⟩)]
attribute [go_sem] smQ
theorem aIV {V:List Nat} {rs:Nat→Rs} (m:SM):dU V rs (smS [] m) (smD m):=
 ⟨_,_,rfl, .inl rfl,_,_,rfl,⟨rfl,cQ _,fun p hp=>by cases hp⟩,_,_,rfl,⟨rfl,cQ _,fun p hp=>by cases hp⟩,_,_,rfl,⟨rfl,cQ _,fun p hp=>by cases hp⟩,_,_,rfl,⟨rfl,cQ _,fun p hp=>by cases hp⟩,_,_,rfl,⟨rfl,cQ _,fun p hp=>by cases hp⟩,_,_,rfl,⟨rfl,cQ _,fun p hp=>by cases hp⟩,_,_,rfl, .inl rfl,_,_,rfl,⟨rfl,cQ _,fun p hp=>by cases hp⟩,_,_,rfl,⟨rfl,cQ _,fun p hp=>by cases hp⟩,_,_,rfl,⟨rfl,cQ _,fun p hp=>by cases hp⟩,_,_,rfl,⟨rfl,cQ _,fun p hp=>by cases hp⟩,_,_,rfl,⟨rfl,cQ _,fun p hp=>by cases hp⟩,_,_,rfl,⟨rfl,cQ _,fun p hp=>by cases hp⟩,_,_,rfl,⟨rfl,cQ _,fun p hp=>by cases hp⟩,rfl⟩
theorem Imp.lendSm {X:Cx} {σ:Ss} (k i cv:Nat) (m:SM) (hk:lk σ.tm k= .ptr i 0) (hi:rsL σ.rs i=⟨cv, .box (smS [] m)⟩) (hcv:1≤cv):Imp X σ ⟨(k, .bptr [(i,cv)] (smD m))::σ.tm,σ.rs,σ.nx⟩:=by
 have h:=Imp.lendPtr (X:=X) (σ:=σ) k i 0 (smD m) [i] hk ⟨List.mem_singleton.2 rfl, .inl ⟨_,by rw [hi],aIV m⟩⟩ (fun j hj=>by rw [List.mem_singleton.1 hj,hi];exact hcv)
 rw [List.map_cons,List.map_nil,hi]at h
 exact h
def thM (m k:SM):SM:=⟨m.src,k.tgt,thP m.parts k.parts m.parts.length⟩
theorem xM:aF Tryz.prog 14:=⟨_,Tryz.func14,rfl,rfl⟩
theorem uH {m k:SM} (hm:IsSM m) (hk:IsSM k) (bm:SMB m) (bk:SMB k) (e:m.tgt=k.src):Spec Tryz.prog 14 [smV m,smV k] [] (.tup [smO 0 (thM m k),iv 0]) (smQ 0 (thM m k)):=by
 have ml:=hm.fits.len
 have kl:=hk.fits.len
 have hA:=uJ bm bk
 rw [mQ (And.intro hm hk)]at hA
 have hS:=aE1 (f:=m.tgt) (g:=k.src) bm.tgt bk.src
 rw [mQ e]at hS
 have sl:m.src.sizes.length=m.tgt.sizes.length:=by
  have h1:=hm.src.szl
  have h2:=hm.tgt.szl
  rw [hm.same]at h1
  omega
 have hl:k.parts.length=m.parts.length:=by rw [kl,ml,sl,e]
 have hr:∀i,i<m.parts.length→(m.parts.getD i []).length≤1048576∧(k.parts.getD i []).length≤1048576∧Within (m.parts.getD i []) (k.parts.getD i []).length:=fun i hi=>by
  refine⟨bm.row i hi,bk.row i (by omega),?_⟩
  have h1:=(hm.fits.map i hi).2
  have h2:=(hk.fits.map i (by omega)).1
  rw [h2,←e];exact h1
 have hT:=aDq (s:=m.parts) (t:=k.parts) bm.parts hl hr
 have pl:=yT m.parts k.parts m.parts.length
 have hM:=vY (f:=m.src) (g:=k.tgt) (p:=thP m.parts k.parts m.parts.length) bm.src bk.tgt (by have:=bm.parts;omega) (fun i hi=>by
  rw [pl]at hi
  unfold thP
  rw [List.getD_eq_getElem?_getD,List.getElem?_map,List.getElem?_range hi]
  show(thn _ _).length≤_
  rw [thn_len];exact bm.row i hi)
 have bp:=bm.parts
 unfold thM
 generalize thP m.parts k.parts m.parts.length=p at *
 refine aE (E:=TE) 0 Tryz.func14 rfl (by simp [Tryz.f14]) fun X hn hX=>?_
 repeat'(first|(refine bH 1 (Imp.trans (Imp.lendSm 2 0 1 m rfl rfl (Nat.le_refl 1)) (Imp.lendSm 3 1 1 k rfl rfl (Nat.le_refl 1))) ?_;simp only [go_sem,simprocAttr])|(with_reducible first|refine St.f ?_|refine V_c ?_|refine And.intro ?_ ?_|refine aI ?_ ?_)|((refine aQ ?_);intro K hK)|((with_reducible refine So.f ?_);intro K hK;simp(contextual:=true)only [go_sem,simprocAttr])|((with_reducible refine hK _ ?_);clear hK K)|((with_reducible refine aC 56 ?_);refine EvCall.mr (hA) zD [] [3,0,1] ?_)|((with_reducible refine aC 57 ?_);refine EvCall.mr (hS) aCH [] [0,1] ?_)|((with_reducible refine aC 58 ?_);refine EvCall.mr (hT) aBe [(0,4)] [0,1] ?_)|((with_reducible refine aC 55 ?_);refine EvCall.mr (hM) rQ [(0,5),(1,6),(2,7),(3,8),(4,9),(5,10),(6,11),(7,12),(8,13),(9,14),(10,15),(11,16),(12,17)] [0,1,4] ?_)|(refine fun(hc:(_:Bool)=_)=>?_;try simp only [hcS]at hc))
 all_goals try exact om_
 (first|refine aB ?_|refine aA ?_);simp only [go_sem,simprocAttr,Tryz.f14]
end Go.Eng
end
section
namespace Go.Eng
open Go Go.Proofs Go.Cats
attribute [local go_sem] List.set_cons_zero List.set_cons_succ
end Go.Eng
end
section
namespace Go.Eng
open Go Go.Proofs Go.Cats
attribute [local go_sem] List.set_cons_zero List.set_cons_succ
theorem aDi {s:RnS} {c:Cat} {size:Int} (hs:RnOk s) (hb:CatB c) (h:IsCat c) (h2:2≤size) (h16:size≤16):
  SpecE Tryz.prog 39 [.ptr 0 0,jQ c,iv size] [(0,bB s)] (fun z:SF×RnS=>SFB z.1∧RnOk z.2) (fun z=>sfO 1 z.1) (fun z=>(0,bB z.2)::sfW 1 z.1):=by
 have hG:=uN hs h.toShape hb h2 h16
 refine gI (E:=TE) 1 Tryz.func39 rfl (by simp [Tryz.f39]) fun X hn hX=>?_
 repeat'(first|((with_reducible refine(id ?_:V _ _ (Code.region 3 _ _) _ _));refine fQ 3 (by rw [hn];rfl) ?_;intro K hK)|(refine jF hG wY [(0,0),(1,3),(2,4),(3,5),(4,6),(5,7),(6,8)] [] (by simp only [go_sem,simprocAttr];rfl) (by simp [go_sem]) (by simp [go_sem]<;>(repeat'(first|rfl|constructor))) ?_;intro z hz;simp only [go_sem,simprocAttr])|((with_reducible refine fW ?_);intro K hK;simp(contextual:=true)only [go_sem,simprocAttr])|(with_reducible refine dN ?_)|(with_reducible first|refine St.f ?_|refine V_c ?_|refine And.intro ?_ ?_|refine aI ?_ ?_)|((refine aQ ?_);intro K hK)|((with_reducible refine So.f ?_);intro K hK;simp(contextual:=true)only [go_sem,simprocAttr])|((with_reducible refine hK _ ?_);clear hK K)|((with_reducible refine aC 62 ?_);refine EvCall.rr (uK (c:=c) ?_) qD ?_)|(refine fun(hc:(_:Bool)=_)=>?_;try simp only [hcS]at hc))
 all_goals try exact om_
 all_goals try exact absurd h (by assumption)
 obtain⟨f,t⟩:=z
 obtain⟨z1,z2,z3⟩:=hz
 simp only at z1 z2 z3
 have hN:=aP (n:=40) z3
 have hN1:=aN (n:=40) z3
 generalize aM t 40=t2 at hN hN1
 have hfb:=z1.b (by rw [z2];exact hb)
 by_cases h0:aK t 40=0
 ·rw [h0]at hN
  have hB:=uM (s:=t2) hN1 z1 (by rw [z2];exact hb)
  repeat'(first|((with_reducible refine(id ?_:V _ _ (Code.region 5 _ _) _ _));refine fQ 5 (by rw [hn];rfl) ?_;intro K hK)|(refine jF hB wW [(0,0),(1,3),(2,4),(3,5),(4,6),(5,7),(6,8),(7,10),(8,11),(9,12),(10,13),(11,14),(12,15)] [] (by simp only [go_sem,simprocAttr];rfl) (by simp [go_sem]) (by simp [go_sem]<;>(repeat'(first|rfl|constructor))) ?_;intro y hy;simp only [go_sem,simprocAttr])|((with_reducible refine fW ?_);intro K hK;simp(contextual:=true)only [go_sem,simprocAttr])|(with_reducible refine dN ?_)|(with_reducible first|refine St.f ?_|refine V_c ?_|refine And.intro ?_ ?_|refine aI ?_ ?_)|((refine aQ ?_);intro K hK)|((with_reducible refine So.f ?_);intro K hK;simp(contextual:=true)only [go_sem,simprocAttr])|((with_reducible refine hK _ ?_);clear hK K)|((with_reducible refine aC 42 ?_);refine EvCall.mr (hN) aG [(0,0)] [] ?_)|(refine fun(hc:(_:Bool)=_)=>?_;try simp only [hcS]at hc))
  all_goals try exact om_
  all_goals try contradiction
  refine⟨y,hy,?_⟩
  (first|refine aB ?_|refine aA ?_);simp only [go_sem,simprocAttr,Tryz.f39]
  all_goals repeat'(first|rfl|constructor)
 ·generalize aK t 40=d at hN h0
  repeat'(first|(refine bH 6 (Imp.arrAb 6 _ (aD f.shape.co) rfl rfl) ?_;simp only [go_sem,simprocAttr])|((with_reducible refine fW ?_);intro K hK;simp(contextual:=true)only [go_sem,simprocAttr])|(with_reducible refine dN ?_)|(with_reducible first|refine St.f ?_|refine V_c ?_|refine And.intro ?_ ?_|refine aI ?_ ?_)|((refine aQ ?_);intro K hK)|((with_reducible refine So.f ?_);intro K hK;simp(contextual:=true)only [go_sem,simprocAttr])|((with_reducible refine hK _ ?_);clear hK K)|((with_reducible refine aC 42 ?_);refine EvCall.mr (hN) aG [(0,0)] [] ?_)|(refine fun(hc:(_:Bool)=_)=>?_;try simp only [hcS]at hc))
  all_goals try exact om_
  all_goals try contradiction
  refine⟨(f,t2),⟨hfb,hN1⟩,?_⟩
  (first|refine aB ?_|refine aA ?_);simp only [go_sem,simprocAttr,Tryz.f39]
  all_goals repeat'(first|rfl|constructor)
end Go.Eng
end
