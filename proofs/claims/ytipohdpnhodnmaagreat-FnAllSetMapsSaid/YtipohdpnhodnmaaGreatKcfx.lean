/- Several texts in one: Z13, Z14. -/
import Derived.Test.YtipohdpnhodnmaaGreatZ12q
import Derived.Test.YtipohdpnhodnmaaGreatEngBeq
set_option linter.unusedSimpArgs false
set_option linter.unusedVariables false
set_option maxRecDepth 100000
set_option maxHeartbeats 32000000
section
namespace Go.Eng
open Go Go.Proofs Go.Cats
attribute [local go_sem] List.set_cons_zero List.set_cons_succ
def eQ (k:Int) (f:Nat) (s:RnS) (c:Cat):Cat×RnS:=
 if k=0 then(⟨[c.ob+1, -1,9].getD (aK s 3).toNat 0,c.fr,c.to,c.id,c.co⟩,aM s 3)
 else if k=1 then(⟨c.ob,c.fr++[0],c.to,c.id,c.co⟩,s)
 else if k=2 then(if 0<c.id.length then(⟨c.ob,c.fr,c.to,c.id.set 0 (aK s (c.fr.length+1)),c.co⟩,aM s (c.fr.length+1))else(c,s))
 else if k=3∨k=4∨k=5 then(if 0<c.fr.length then(⟨c.ob,c.fr,c.to,c.id,c.co.set f ((c.co.getD f []).set (aK s c.fr.length).toNat (aK (aM s c.fr.length) (c.fr.length+1)-1))⟩,aM (aM s c.fr.length) (c.fr.length+1))else(c,s))
 else if k=6 then(if 0<c.fr.length then(⟨c.ob,c.fr,c.to.set f (aK s (c.ob+1)),c.id,c.co⟩,aM s (c.ob+1))else(c,s))
 else(if 0<c.fr.length then(⟨c.ob,c.fr,c.to,c.id,c.co.set f ((c.co.getD f []).drop 1)⟩,s)else(c,s))
def oI (s:RnS) (c:Cat):Cat×RnS:=eQ (aK (aM s c.fr.length) 8) (aK s c.fr.length).toNat (aM (aM s c.fr.length) 8) c
abbrev aVI (n:Nat) (c:Cat):List (Nat×Rs):=[(n,⟨1, .arr (ints c.fr)⟩),(n+1,⟨1, .arr (ints c.to)⟩),(n+2,⟨1, .arr (ints c.id)⟩),(n+3,⟨1, .arr (aD c.co)⟩)]
abbrev aHN (n:Nat) (c:Cat):List (Nat×Rs):=[(n,⟨1, .arr (ints c.fr)⟩),(n+1,⟨1, .arr (ints c.to)⟩),(n+2,⟨1, .arr (ints c.id)⟩),(n+3,⟨1, .arr (rdA (aD c.co))⟩)]
abbrev aHM (n:Nat) (c:Cat):Sv:= .agg [iv c.ob, .sl n, .sl (n+1), .sl (n+2), .sl (n+3)]
section
variable {s:RnS} {c:Cat} {k:Int} {f:Nat}
theorem aC9 (h:Shape c):CatB c:=by
 have h1:=h.ob0
 have h2:=h.ob8
 have h3:=h.m40
 have h4:=h.tol
 have h5:=h.idl
 have h6:=h.col
 exact⟨by omega,by omega,by omega,by omega,by omega,by omega,fun f hf=>by rw [(h.coe f (by omega)).1];omega⟩
theorem aAw {R:List (List Int)} {r:List Int} (h:∀f,f<R.length→(R.getD f []).length≤1048576) (hr:r.length≤1048576):∀g,g<(R.set f r).length→((R.set f r).getD g []).length≤1048576:=by
 intro g hg
 rw [List.length_set]at hg
 rw [List.getD_eq_getElem?_getD,List.getElem?_set]
 by_cases e:f=g
 ·subst e;rw [if_pos rfl,if_pos hg];exact hr
 ·rw [if_neg e,←List.getD_eq_getElem?_getD];exact h g hg
theorem aHJ (hs:RnOk s) (h:Shape c) (hf:c.fr.length=0∨f<c.fr.length):RnOk (eQ k f s c).2∧CatB (eQ k f s c).1:=by
 have h1:=h.ob0
 have h2:=h.ob8
 have h3:=h.m40
 have hB:=aC9 h
 have hl:=h.col
 unfold eQ
 split
 ·refine⟨aN (n:=3) hs,?_⟩
  have b:=aX (n:=3) hs (by decide)
  have e:[c.ob+1, -1,9].getD (aK s 3).toNat 0=c.ob+1∨[c.ob+1, -1,9].getD (aK s 3).toNat 0= -1∨[c.ob+1, -1,9].getD (aK s 3).toNat 0=9:=by
   have:(aK s 3).toNat=0∨(aK s 3).toNat=1∨(aK s 3).toNat=2:=by omega
   rcases this with q|q|q<;>rw [q]<;>simp
  refine⟨?_,?_,hB.fr,hB.to,hB.id,hB.co,hB.row⟩<;>(simp only;omega)
 split
 ·refine⟨hs,hB.ob1,hB.ob2,?_,hB.to,hB.id,hB.co,hB.row⟩
  simp only [List.length_append,List.length_singleton];omega
 split
 ·split
  ·refine⟨aN (n:=c.fr.length+1) hs,hB.ob1,hB.ob2,hB.fr,hB.to,?_,hB.co,hB.row⟩
   rw [List.length_set];exact hB.id
  ·exact⟨hs,hB⟩
 split
 ·split
  ·refine⟨aN (n:=c.fr.length+1) (aN (n:=c.fr.length) hs),hB.ob1,hB.ob2,hB.fr,hB.to,hB.id,?_,?_⟩
   ·rw [List.length_set];exact hB.co
   ·refine aAw hB.row ?_
    rw [List.length_set]
    exact hB.row f (by omega)
  ·exact⟨hs,hB⟩
 split
 ·split
  ·refine⟨aN (n:=c.ob+1) hs,hB.ob1,hB.ob2,hB.fr,?_,hB.id,hB.co,hB.row⟩
   rw [List.length_set];exact hB.to
  ·exact⟨hs,hB⟩
 ·split
  ·refine⟨hs,hB.ob1,hB.ob2,hB.fr,hB.to,hB.id,?_,?_⟩
   ·rw [List.length_set];exact hB.co
   ·refine aAw hB.row ?_
    have:=hB.row f (by omega)
    rw [List.length_drop];omega
  ·exact⟨hs,hB⟩
theorem aDI (hs:RnOk s) (h:Shape c):RnOk (oI s c).2∧CatB (oI s c).1:=by
 refine aHJ (aN (aN hs)) h ?_
 rcases Nat.eq_zero_or_pos c.fr.length with q|q
 ·exact .inl q
 ·have:=aX (n:=(c.fr.length:Int)) hs (by omega)
  right;omega
end
section
variable {s:RnS} {c:Cat} {k:Int} {f:Nat}
theorem aOl (h:k=0):eQ k f s c=(⟨[c.ob+1, -1,9].getD (aK s 3).toNat 0,c.fr,c.to,c.id,c.co⟩,aM s 3):=by unfold eQ;rw [if_pos h]
theorem aOm (h:k=1):eQ k f s c=(⟨c.ob,c.fr++[0],c.to,c.id,c.co⟩,s):=by subst h;rfl
theorem aOn (h:k=2) (q:0<c.id.length):eQ k f s c=(⟨c.ob,c.fr,c.to,c.id.set 0 (aK s (c.fr.length+1)),c.co⟩,aM s (c.fr.length+1)):=by unfold eQ;rw [if_neg (by omega),if_neg (by omega),if_pos h,if_pos q]
theorem aOo (h:k=3∨k=4∨k=5) (q:0<c.fr.length):eQ k f s c=(⟨c.ob,c.fr,c.to,c.id,c.co.set f ((c.co.getD f []).set (aK s c.fr.length).toNat (aK (aM s c.fr.length) (c.fr.length+1)-1))⟩,aM (aM s c.fr.length) (c.fr.length+1)):=by unfold eQ;rw [if_neg (by omega),if_neg (by omega),if_neg (by omega),if_pos h,if_pos q]
theorem aOp (h:k=6) (q:0<c.fr.length):eQ k f s c=(⟨c.ob,c.fr,c.to.set f (aK s (c.ob+1)),c.id,c.co⟩,aM s (c.ob+1)):=by unfold eQ;rw [if_neg (by omega),if_neg (by omega),if_neg (by omega),if_neg (by omega),if_pos h,if_pos q]
theorem aOq (h0:0≤k) (h:6<k) (q:0<c.fr.length):eQ k f s c=(⟨c.ob,c.fr,c.to,c.id,c.co.set f ((c.co.getD f []).drop 1)⟩,s):=by unfold eQ;rw [if_neg (by omega),if_neg (by omega),if_neg (by omega),if_neg (by omega),if_neg (by omega),if_pos q]
theorem aL1 (h:2≤k) (q:k=2∧c.id.length=0∨k≠2∧c.fr.length=0):eQ k f s c=(c,s):=by
 unfold eQ
 rw [if_neg (by omega),if_neg (by omega)]
 split
 ·rw [if_neg (by omega)]
 split
 ·rw [if_neg (by omega)]
 split<;>rw [if_neg (by omega)]
theorem aOk {Z:Zs} {L:List (List Int)} {k:Nat} (z1:Z.map (·.2)=L) (z3:∀p∈Z,p.2≠[]→∃g cap,p.1= .slice (some ⟨g,0,none⟩) p.2.length cap∧p.2.length≤cap∧cap≤maxLen) (hk:k<L.length) (hr:0<(L.getD k []).length):
  ∃(p:Value×List Int) (a:Addr) (m cap:Nat),Z.getD k p=p∧p.2=L.getD k []∧p.1= .slice (some a) m cap∧1≤m∧m≤cap∧(cV (Z.map (·.1))).at k= .v p.1∧k<Z.length∧p.2≠[]∧(tailV p.1).oneCell'=true:=by
 have hl:k<Z.length:=by rw [←z1,List.length_map]at hk;exact hk
 have e1:Z[k]? =some Z[k]:=List.getElem?_eq_getElem hl
 have e2:(Z[k]).2=L.getD k []:=by rw [←z1,List.getD_eq_getElem?_getD,List.getElem?_map,e1];rfl
 have hne:(Z[k]).2≠[]:=fun e=>by rw [←e2,e]at hr;simp at hr
 obtain⟨g,cap,q1,q2,q3⟩:=z3 _ (List.getElem_mem hl) hne
 refine⟨Z[k],⟨g,0,none⟩,_,cap,by rw [List.getD_eq_getElem?_getD,e1];rfl,e2,q1,by rw [e2];exact hr,q2,?_,hl,hne,by rw [q1];rfl⟩
 rw [aKU (by rw [List.length_map];exact hl) (.bool true),List.getD_eq_getElem?_getD,List.getElem?_map,e1];rfl
end
theorem wP:aF Tryz.prog 176:=⟨_,Tryz.func176,rfl,rfl⟩
theorem aAD {s:RnS} {c:Cat} (hs:RnOk s) (h:Shape c):Spec Tryz.prog 176 [.ptr 0 0,aHM 1 c] [(0,bB s),(1,⟨1, .arr (ints c.fr)⟩),(2,⟨1, .arr (ints c.to)⟩),(3,⟨1, .arr (ints c.id)⟩),(4,⟨1, .arr (aD c.co)⟩)] (aHM 5 (oI s c).1) [(0,bB (oI s c).2),(1,⟨1, .arr (ints c.fr)⟩),(2,⟨1, .arr (ints c.to)⟩),(3,⟨1, .arr (ints c.id)⟩),(4,⟨1, .arr (aD c.co)⟩),(5,⟨1, .arr (ints (oI s c).1.fr)⟩),(6,⟨1, .arr (ints (oI s c).1.to)⟩),(7,⟨1, .arr (ints (oI s c).1.id)⟩),(8,⟨1, .arr (rdA (aD (oI s c).1.co))⟩)]:=by
 refine aE (E:=TE) 5 Tryz.func176 rfl (by simp [Tryz.f176]) fun X hn hX=>?_
 have o1:=h.ob0
 have o2:=h.ob8
 have m4:=h.m40
 have tl:=h.tol
 have il:=h.idl
 have cl:=h.col
 have hB:=aC9 h
 have ok1:=aN (n:=(c.fr.length:Int)) hs
 have ok2:=aN (n:=8) ok1
 have hOwn:=kE hB
 have h1:=aP (n:=(c.fr.length:Int)) hs
 have h2:=aP (n:=8) ok1
 have b1:=fun q:0<c.fr.length=>aX (n:=(c.fr.length:Int)) hs (by omega)
 have b2:=aX (n:=8) ok1 (by decide)
 have eb:oI s c=eQ (aK (aM s c.fr.length) 8) (aK s c.fr.length).toNat (aM (aM s c.fr.length) 8) c:=rfl
 rw [eb]
 clear eb
 have rl:0<c.fr.length→(c.co.getD (aK s c.fr.length).toNat []).length=c.fr.length:=fun q=>(h.coe _ (by have:=b1 q;omega)).1
 generalize aM (aM s c.fr.length) 8=t at ok2 h2⊢
 generalize aK (aM s c.fr.length) 8=k at b2 h2⊢
 generalize aM s c.fr.length=t1 at ok1 h1 h2
 generalize aK s c.fr.length=f at b1 h1 rl⊢
 have hP:Spec Tryz.prog 177 [.ptr 0 0, .sl 1] [(0,bB t),(1,⟨1, .arr (ints [c.ob+1, -1,9])⟩)] (iv ([c.ob+1, -1,9].getD (aK t 3).toNat 0)) [(0,bB (aM t 3)),(1,⟨1, .arr (ints [c.ob+1, -1,9])⟩)]:=aAC (l:=[c.ob+1, -1,9]) ok2 (by simp) (by simp)
 have hC:=aP (n:=(c.fr.length:Int)+1) ok2
 have hD:=aP (n:=(c.fr.length:Int)) ok2
 have hE:=aP (n:=(c.fr.length:Int)+1) (aN (n:=(c.fr.length:Int)) ok2)
 have hF:=aP (n:=c.ob+1) ok2
 have bD:=fun q:0<c.fr.length=>aX (n:=(c.fr.length:Int)) ok2 (by omega)
 have bE:=aX (n:=(c.fr.length:Int)+1) (aN (n:=(c.fr.length:Int)) ok2) (by omega)
 repeat'(first|((with_reducible refine(id ?_:EvCall _ _ [.ptr 0 0,iv (c.fr.length+1)] _ _));clear hD;refine EvCall.mq (hC) aG [(0,0)] [] ?_;all_goals try simp only [go_sem,simprocAttr])|((with_reducible refine(id ?_:V _ _ (Code.region 6 _ _) _ _));refine aQw 10 _ c.co rfl (by decide) rfl ?_;intro Z z1 z2;refine aOc 11 _ Z rfl ?_;intro z3;obtain⟨p,a,m,cap,p1,p2,p3,p4,p5,p6,p7,p8,p9⟩:=aOk z1 z3 (k:=f.toNat) (by omega) (by have:=rl (by omega);omega);simp only [go_sem,simprocAttr])|(rw [p6];simp only [go_sem,simprocAttr])|(refine bH 22 (Imp.tailAb 10 11 _ _ f.toNat Z p rfl rfl (by decide) (by decide) p7 p1 p8 ⟨a,m,cap,p3⟩) ?_;simp only [go_sem,simprocAttr,z1,p2])|(refine bH 22 (Imp.closeA 10 11 f.toNat (aD c.co) _ rfl rfl (by decide) (by simp only [go_sem,simprocAttr];omega)) ?_;simp only [go_sem,simprocAttr])|(refine bH 22 (Imp.arrAb 10 _ (aD c.co) rfl rfl) ?_;simp only [go_sem,simprocAttr])|(refine bH 22 (Imp.arrAb 10 _ (aD (c.co.set f.toNat ((c.co.getD f.toNat []).set (aK t c.fr.length).toNat (aK (aM t c.fr.length) (c.fr.length+1)-1)))) rfl rfl) ?_;simp only [go_sem,simprocAttr])|(refine bH 18 (Imp.open_ 10 f.toNat (aD c.co) [] (.inr ⟨rfl,rfl⟩) (Nat.le_refl 1) (by simp only [go_sem,simprocAttr];omega) rfl (by simp only [go_sem,simprocAttr]) rfl) ?_;simp only [go_sem,simprocAttr])|(with_reducible first|refine St.f ?_|refine V_c ?_|refine eDn ?_|refine And.intro ?_ ?_|refine aI ?_ ?_|refine aL ?_)|((refine aQ ?_);intro K hK)|((with_reducible refine So.f ?_);intro K hK;simp(contextual:=true)only [go_sem,simprocAttr])|((with_reducible refine hK _ ?_);clear hK K)|((with_reducible refine aC 180 ?_);refine EvCall.mr (hOwn) iF [(0,7),(1,8),(2,9),(3,10)] [1,2,3,4] ?_)|((with_reducible refine aC 42 ?_);refine EvCall.mr (h1) aG [(0,0)] [] ?_;clear h1)|((with_reducible refine aC 42 ?_);refine EvCall.mr (h2) aG [(0,0)] [] ?_;clear h2)|((with_reducible refine(id ?_:EvCall _ _ [.ptr 0 0,iv (c.ob+1)] _ _));refine EvCall.mr (hF) aG [(0,0)] [] ?_)|((with_reducible refine(id ?_:EvCall _ _ [.ptr 0 0,iv c.fr.length] _ _));refine EvCall.mr (hD) aG [(0,0)] [] ?_;clear hD)|((with_reducible refine(id ?_:EvCall _ _ [.ptr 0 0,iv (c.fr.length+1)] _ _));refine EvCall.mr (hE) aG [(0,0)] [] ?_)|((with_reducible refine aC 177 ?_);refine EvCall.mr (hP) wO [(0,0),(1,11)] [] ?_)|(refine aH8 (k:= .i64) (v:=p.1) (a:=a) (m:=m) (cap:=cap) (by rfl) (by first|(simp only [go_sem,simprocAttr];done)|(simp only [go_sem,simprocAttr];rfl)) p3 p4 p5 (by first|(simp only [go_sem,simprocAttr];done)|(simp only [go_sem,simprocAttr];rfl)) ?_;simp only [go_sem,simprocAttr])|(refine fun(hc:(_:Bool)=_)=>?_;try simp only [hcS]at hc))
 all_goals try exact om_
 all_goals first
  |rw [aOl (by omega)]
  |rw [aOm (by omega)]
  |rw [aOn (by omega) (by omega)]
  |rw [aOo (by omega) (by omega)]
  |rw [aOp (by omega) (by omega)]
  |rw [aOq (by omega) (by omega) (by omega)]
  |rw [aL1 (by omega) (by omega)]
 all_goals((first|refine aB ?_|refine aA ?_);simp only [go_sem,simprocAttr,Tryz.f176])
end Go.Eng
end
section
namespace Go.Eng
open Go Go.Proofs Go.Cats
attribute [go_sem] aHN aVI
def mR (s:RnS) (o m:Int):Cat×RnS:=if aK (gQ o m 12 s).2 24=0 then oI (aM (gQ o m 12 s).2 24) (gQ o m 12 s).1 else((gQ o m 12 s).1,aM (gQ o m 12 s).2 24)
theorem aD0 {s:RnS} {o m:Int} (hs:RnOk s) (ho:o≤8) (hm:m≤40) (ho1:1≤o) (hm1:1≤m):RnOk (mR s o m).2∧CatB (mR s o m).1:=by
 obtain⟨h1,h2,_⟩:=aDe ho hm ho1 hm1 12 s hs
 unfold mR
 split
 ·exact aDI (aN h1) h2.toShape
 ·exact⟨aN (n:=24) h1,aC9 h2.toShape⟩
theorem wQ:aF Tryz.prog 98:=⟨_,Tryz.func98,rfl,rfl⟩
theorem aAE {s:RnS} {o m:Int} (hs:RnOk s) (ho:o≤8) (hm:m≤40) (ho1:1≤o) (hm1:1≤m):Spec Tryz.prog 98 [.ptr 0 0,iv o,iv m] [(0,bB s)] (aHM 1 (mR s o m).1) ((0,bB (mR s o m).2)::aHN 1 (mR s o m).1):=by
 refine aE (E:=TE) 1 Tryz.func98 rfl (by simp [Tryz.f98]) fun X hn hX=>?_
 obtain⟨h1,h2,_⟩:=aDe ho hm ho1 hm1 12 s hs
 have hA:=aGb hs ho hm
 have ed:mR s o m=if aK (gQ o m 12 s).2 24=0 then oI (aM (gQ o m 12 s).2 24) (gQ o m 12 s).1 else((gQ o m 12 s).1,aM (gQ o m 12 s).2 24):=rfl
 rw [ed]
 clear ed
 obtain⟨c,t,hct⟩:∃c t,gQ o m 12 s=(c,t):=⟨_,_,rfl⟩
 rw [hct]at h1 h2 hA⊢
 simp only at h1 h2 hA⊢
 have hB:=aP (n:=24) h1
 have hC:=aAD (aN (n:=24) h1) h2.toShape
 by_cases h0:aK t 24=0
 ·rw [if_pos h0]
  rw [h0]at hB
  repeat'(first|refine wkQ ?_|refine Tw.f ?_ ?_|(refine kcQ wR ?_;refine kwQ (hA) [(0,0),(1,2),(2,3),(3,4),(4,5)] [] ?_)|(refine kcQ aG ?_;refine kwQ (hB) [(0,0)] [] ?_)|(refine kcQ wP ?_;refine kwQ (hC) [(0,0),(1,2),(2,3),(3,4),(4,5),(5,7),(6,8),(7,9),(8,10)] [] ?_)|(refine fun(hc:(_:Bool)=_)=>?_;try simp only [hcS]at hc))
  all_goals try exact om_
  (first|refine aB ?_|refine aA ?_);simp only [go_sem,simprocAttr,Tryz.f98]
 ·rw [if_neg h0]
  repeat'(first|(refine bH 4 (Imp.arrAb 5 _ (aD c.co) rfl rfl) ?_;simp only [go_sem,simprocAttr])|(with_reducible first|refine St.f ?_|refine V_c ?_|refine And.intro ?_ ?_|refine aI ?_ ?_)|((refine aQ ?_);intro K hK)|((with_reducible refine So.f ?_);intro K hK;simp(contextual:=true)only [go_sem,simprocAttr])|((with_reducible refine hK _ ?_);clear hK K)|((with_reducible refine aC 178 ?_);refine EvCall.mr (hA) wR [(0,0),(1,2),(2,3),(3,4),(4,5)] [] ?_)|((with_reducible refine aC 42 ?_);refine EvCall.mr (hB) aG [(0,0)] [] ?_)|(refine fun(hc:(_:Bool)=_)=>?_;try simp only [hcS]at hc))
  all_goals try exact om_
  all_goals try contradiction
  (first|refine aB ?_|refine aA ?_);simp only [go_sem,simprocAttr,Tryz.f98]
end Go.Eng
end
