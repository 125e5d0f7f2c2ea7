/- Several texts in one: Z13, Z14. -/
import Derived.Test.YtipohdpnhodnmaaGreatZ12q
import Derived.Test.YtipohdpnhodnmaaGreatEngBeq
set_option linter.unusedSimpArgs false
set_option linter.unusedVariables false
set_option maxRecDepth 100000
set_option maxHeartbeats 32000000
section
namespace Go.Eng
open Go Go.Proofs Go.Cats
attribute [local go_sem] List.set_cons_zero List.set_cons_succ
def dI (k:Int) (f:Nat) (s:RnS) (c:Cat):Cat×RnS:=
 if k=0 then(⟨[c.ob+1, -1,9].getD (aK s 3).toNat 0,c.fr,c.to,c.id,c.co⟩,aL s 3)
 else if k=1 then(⟨c.ob,c.fr++[0],c.to,c.id,c.co⟩,s)
 else if k=2 then(if 0<c.id.length then(⟨c.ob,c.fr,c.to,c.id.set 0 (aK s (c.fr.length+1)),c.co⟩,aL s (c.fr.length+1))else(c,s))
 else if k=3∨k=4∨k=5 then(if 0<c.fr.length then(⟨c.ob,c.fr,c.to,c.id,c.co.set f ((c.co.getD f []).set (aK s c.fr.length).toNat (aK (aL s c.fr.length) (c.fr.length+1)-1))⟩,aL (aL s c.fr.length) (c.fr.length+1))else(c,s))
 else if k=6 then(if 0<c.fr.length then(⟨c.ob,c.fr,c.to.set f (aK s (c.ob+1)),c.id,c.co⟩,aL s (c.ob+1))else(c,s))
 else(if 0<c.fr.length then(⟨c.ob,c.fr,c.to,c.id,c.co.set f ((c.co.getD f []).drop 1)⟩,s)else(c,s))
def lY (s:RnS) (c:Cat):Cat×RnS:=dI (aK (aL s c.fr.length) 8) (aK s c.fr.length).toNat (aL (aL s c.fr.length) 8) c
abbrev aVY (n:Nat) (c:Cat):List (Nat×Rs):=[(n,⟨1, .arr (ints c.fr)⟩),(n+1,⟨1, .arr (ints c.to)⟩),(n+2,⟨1, .arr (ints c.id)⟩),(n+3,⟨1, .arr (aC c.co)⟩)]
abbrev aC9 (n:Nat) (c:Cat):List (Nat×Rs):=[(n,⟨1, .arr (ints c.fr)⟩),(n+1,⟨1, .arr (ints c.to)⟩),(n+2,⟨1, .arr (ints c.id)⟩),(n+3,⟨1, .arr (rdA (aC c.co))⟩)]
abbrev aEO (n:Nat) (c:Cat):Sv:= .agg [iv c.ob, .sl n, .sl (n+1), .sl (n+2), .sl (n+3)]
section
variable {s:RnS} {c:Cat} {k:Int} {f:Nat}
theorem xI (h:Shape c):CatB c:=by
 have h1:=h.ob0
 have h2:=h.ob8
 have h3:=h.m40
 have h4:=h.tol
 have h5:=h.idl
 have h6:=h.col
 exact⟨by omega,by omega,by omega,by omega,by omega,by omega,fun f hf=>by rw [(h.coe f (by omega)).1];omega⟩
theorem zO {R:List (List Int)} {r:List Int} (h:∀f,f<R.length→(R.getD f []).length≤1048576) (hr:r.length≤1048576):∀g,g<(R.set f r).length→((R.set f r).getD g []).length≤1048576:=by
 intro g hg
 rw [List.length_set]at hg
 rw [List.getD_eq_getElem?_getD,List.getElem?_set]
 by_cases e:f=g
 ·subst e;rw [if_pos rfl,if_pos hg];exact hr
 ·rw [if_neg e,←List.getD_eq_getElem?_getD];exact h g hg
theorem aGY (hs:RnOk s) (h:Shape c) (hf:c.fr.length=0∨f<c.fr.length):RnOk (dI k f s c).2∧CatB (dI k f s c).1:=by
 have h1:=h.ob0
 have h2:=h.ob8
 have h3:=h.m40
 have hB:=xI h
 have hl:=h.col
 unfold dI
 split
 ·refine⟨aM (n:=3) hs,?_⟩
  have b:=aV (n:=3) hs (by decide)
  have e:[c.ob+1, -1,9].getD (aK s 3).toNat 0=c.ob+1∨[c.ob+1, -1,9].getD (aK s 3).toNat 0= -1∨[c.ob+1, -1,9].getD (aK s 3).toNat 0=9:=by
   have:(aK s 3).toNat=0∨(aK s 3).toNat=1∨(aK s 3).toNat=2:=by omega
   rcases this with q|q|q<;>rw [q]<;>simp
  refine⟨?_,?_,hB.fr,hB.to,hB.id,hB.co,hB.row⟩<;>(simp only;omega)
 split
 ·refine⟨hs,hB.ob1,hB.ob2,?_,hB.to,hB.id,hB.co,hB.row⟩
  simp only [List.length_append,List.length_singleton];omega
 split
 ·split
  ·refine⟨aM (n:=c.fr.length+1) hs,hB.ob1,hB.ob2,hB.fr,hB.to,?_,hB.co,hB.row⟩
   rw [List.length_set];exact hB.id
  ·exact⟨hs,hB⟩
 split
 ·split
  ·refine⟨aM (n:=c.fr.length+1) (aM (n:=c.fr.length) hs),hB.ob1,hB.ob2,hB.fr,hB.to,hB.id,?_,?_⟩
   ·rw [List.length_set];exact hB.co
   ·refine zO hB.row ?_
    rw [List.length_set]
    exact hB.row f (by omega)
  ·exact⟨hs,hB⟩
 split
 ·split
  ·refine⟨aM (n:=c.ob+1) hs,hB.ob1,hB.ob2,hB.fr,?_,hB.id,hB.co,hB.row⟩
   rw [List.length_set];exact hB.to
  ·exact⟨hs,hB⟩
 ·split
  ·refine⟨hs,hB.ob1,hB.ob2,hB.fr,hB.to,hB.id,?_,?_⟩
   ·rw [List.length_set];exact hB.co
   ·refine zO hB.row ?_
    have:=hB.row f (by omega)
    rw [List.length_drop];omega
  ·exact⟨hs,hB⟩
theorem aCZ (hs:RnOk s) (h:Shape c):RnOk (lY s c).2∧CatB (lY s c).1:=by
 refine aGY (aM (aM hs)) h ?_
 rcases Nat.eq_zero_or_pos c.fr.length with q|q
 ·exact .inl q
 ·have:=aV (n:=(c.fr.length:Int)) hs (by omega)
  right;omega
end
section
variable {s:RnS} {c:Cat} {k:Int} {f:Nat}
theorem aN7 (h:k=0):dI k f s c=(⟨[c.ob+1, -1,9].getD (aK s 3).toNat 0,c.fr,c.to,c.id,c.co⟩,aL s 3):=by unfold dI;rw [if_pos h]
theorem aN8 (h:k=1):dI k f s c=(⟨c.ob,c.fr++[0],c.to,c.id,c.co⟩,s):=by subst h;rfl
theorem aN9 (h:k=2) (q:0<c.id.length):dI k f s c=(⟨c.ob,c.fr,c.to,c.id.set 0 (aK s (c.fr.length+1)),c.co⟩,aL s (c.fr.length+1)):=by unfold dI;rw [if_neg (by omega),if_neg (by omega),if_pos h,if_pos q]
theorem aOa (h:k=3∨k=4∨k=5) (q:0<c.fr.length):dI k f s c=(⟨c.ob,c.fr,c.to,c.id,c.co.set f ((c.co.getD f []).set (aK s c.fr.length).toNat (aK (aL s c.fr.length) (c.fr.length+1)-1))⟩,aL (aL s c.fr.length) (c.fr.length+1)):=by unfold dI;rw [if_neg (by omega),if_neg (by omega),if_neg (by omega),if_pos h,if_pos q]
theorem aOb (h:k=6) (q:0<c.fr.length):dI k f s c=(⟨c.ob,c.fr,c.to.set f (aK s (c.ob+1)),c.id,c.co⟩,aL s (c.ob+1)):=by unfold dI;rw [if_neg (by omega),if_neg (by omega),if_neg (by omega),if_neg (by omega),if_pos h,if_pos q]
theorem aOc (h0:0≤k) (h:6<k) (q:0<c.fr.length):dI k f s c=(⟨c.ob,c.fr,c.to,c.id,c.co.set f ((c.co.getD f []).drop 1)⟩,s):=by unfold dI;rw [if_neg (by omega),if_neg (by omega),if_neg (by omega),if_neg (by omega),if_neg (by omega),if_pos q]
theorem aLJ (h:2≤k) (q:k=2∧c.id.length=0∨k≠2∧c.fr.length=0):dI k f s c=(c,s):=by
 unfold dI
 rw [if_neg (by omega),if_neg (by omega)]
 split
 ·rw [if_neg (by omega)]
 split
 ·rw [if_neg (by omega)]
 split<;>rw [if_neg (by omega)]
theorem aN5 {Z:Zs} {L:List (List Int)} {k:Nat} (z1:Z.map (·.2)=L) (z3:∀p∈Z,p.2≠[]→∃g cap,p.1= .slice (some ⟨g,0,none⟩) p.2.length cap∧p.2.length≤cap∧cap≤maxLen) (hk:k<L.length) (hr:0<(L.getD k []).length):
  ∃(p:Value×List Int) (a:Addr) (m cap:Nat),Z.getD k p=p∧p.2=L.getD k []∧p.1= .slice (some a) m cap∧1≤m∧m≤cap∧(cD (Z.map (·.1))).at k= .v p.1∧k<Z.length∧p.2≠[]∧(tailV p.1).oneCell'=true:=by
 have hl:k<Z.length:=by rw [←z1,List.length_map]at hk;exact hk
 have e1:Z[k]? =some Z[k]:=List.getElem?_eq_getElem hl
 have e2:(Z[k]).2=L.getD k []:=by rw [←z1,List.getD_eq_getElem?_getD,List.getElem?_map,e1];rfl
 have hne:(Z[k]).2≠[]:=fun e=>by rw [←e2,e]at hr;simp at hr
 obtain⟨g,cap,q1,q2,q3⟩:=z3 _ (List.getElem_mem hl) hne
 refine⟨Z[k],⟨g,0,none⟩,_,cap,by rw [List.getD_eq_getElem?_getD,e1];rfl,e2,q1,by rw [e2];exact hr,q2,?_,hl,hne,by rw [q1];rfl⟩
 rw [aKw (by rw [List.length_map];exact hl) (.bool true),List.getD_eq_getElem?_getD,List.getElem?_map,e1];rfl
end
theorem uV:aF Tryz.prog 176:=⟨_,Tryz.func176,rfl,rfl⟩
theorem zZ {s:RnS} {c:Cat} (hs:RnOk s) (h:Shape c):Spec Tryz.prog 176 [.ptr 0 0,aEO 1 c] [(0,bB s),(1,⟨1, .arr (ints c.fr)⟩),(2,⟨1, .arr (ints c.to)⟩),(3,⟨1, .arr (ints c.id)⟩),(4,⟨1, .arr (aC c.co)⟩)] (aEO 5 (lY s c).1) [(0,bB (lY s c).2),(1,⟨1, .arr (ints c.fr)⟩),(2,⟨1, .arr (ints c.to)⟩),(3,⟨1, .arr (ints c.id)⟩),(4,⟨1, .arr (aC c.co)⟩),(5,⟨1, .arr (ints (lY s c).1.fr)⟩),(6,⟨1, .arr (ints (lY s c).1.to)⟩),(7,⟨1, .arr (ints (lY s c).1.id)⟩),(8,⟨1, .arr (rdA (aC (lY s c).1.co))⟩)]:=by
 refine aD (E:=TE) 5 Tryz.func176 rfl (by simp [Tryz.f176]) fun X hn hX=>?_
 have o1:=h.ob0
 have o2:=h.ob8
 have m4:=h.m40
 have tl:=h.tol
 have il:=h.idl
 have cl:=h.col
 have hB:=xI h
 have ok1:=aM (n:=(c.fr.length:Int)) hs
 have ok2:=aM (n:=8) ok1
 have hOwn:=iM hB
 have h1:=aP (n:=(c.fr.length:Int)) hs
 have h2:=aP (n:=8) ok1
 have b1:=fun q:0<c.fr.length=>aV (n:=(c.fr.length:Int)) hs (by omega)
 have b2:=aV (n:=8) ok1 (by decide)
 have eb:lY s c=dI (aK (aL s c.fr.length) 8) (aK s c.fr.length).toNat (aL (aL s c.fr.length) 8) c:=rfl
 rw [eb]
 clear eb
 have rl:0<c.fr.length→(c.co.getD (aK s c.fr.length).toNat []).length=c.fr.length:=fun q=>(h.coe _ (by have:=b1 q;omega)).1
 generalize aL (aL s c.fr.length) 8=t at ok2 h2⊢
 generalize aK (aL s c.fr.length) 8=k at b2 h2⊢
 generalize aL s c.fr.length=t1 at ok1 h1 h2
 generalize aK s c.fr.length=f at b1 h1 rl⊢
 have hP:Spec Tryz.prog 177 [.ptr 0 0, .sl 1] [(0,bB t),(1,⟨1, .arr (ints [c.ob+1, -1,9])⟩)] (iv ([c.ob+1, -1,9].getD (aK t 3).toNat 0)) [(0,bB (aL t 3)),(1,⟨1, .arr (ints [c.ob+1, -1,9])⟩)]:=zX (l:=[c.ob+1, -1,9]) ok2 (by simp) (by simp)
 have hC:=aP (n:=(c.fr.length:Int)+1) ok2
 have hD:=aP (n:=(c.fr.length:Int)) ok2
 have hE:=aP (n:=(c.fr.length:Int)+1) (aM (n:=(c.fr.length:Int)) ok2)
 have hF:=aP (n:=c.ob+1) ok2
 have bD:=fun q:0<c.fr.length=>aV (n:=(c.fr.length:Int)) ok2 (by omega)
 have bE:=aV (n:=(c.fr.length:Int)+1) (aM (n:=(c.fr.length:Int)) ok2) (by omega)
 repeat'(first|((with_reducible refine(id ?_:EvCall _ _ [.ptr 0 0,iv (c.fr.length+1)] _ _));clear hD;refine EvCall.mq (hC) aH [(0,0)] [] ?_;all_goals try simp only [go_sem,simprocAttr])|((with_reducible refine(id ?_:V _ _ (Code.region 6 _ _) _ _));refine aQB 10 _ c.co rfl (by decide) rfl ?_;intro Z z1 z2;refine aNZ 11 _ Z rfl ?_;intro z3;obtain⟨p,a,m,cap,p1,p2,p3,p4,p5,p6,p7,p8,p9⟩:=aN5 z1 z3 (k:=f.toNat) (by omega) (by have:=rl (by omega);omega);simp only [go_sem,simprocAttr])|(rw [p6];simp only [go_sem,simprocAttr])|(refine dG 22 (Imp.tailAb 10 11 _ _ f.toNat Z p rfl rfl (by decide) (by decide) p7 p1 p8 ⟨a,m,cap,p3⟩) ?_;simp only [go_sem,simprocAttr,z1,p2])|(refine dG 22 (Imp.closeA 10 11 f.toNat (aC c.co) _ rfl rfl (by decide) (by simp only [go_sem,simprocAttr];omega)) ?_;simp only [go_sem,simprocAttr])|(refine dG 22 (Imp.arrAb 10 _ (aC c.co) rfl rfl) ?_;simp only [go_sem,simprocAttr])|(refine dG 22 (Imp.arrAb 10 _ (aC (c.co.set f.toNat ((c.co.getD f.toNat []).set (aK t c.fr.length).toNat (aK (aL t c.fr.length) (c.fr.length+1)-1)))) rfl rfl) ?_;simp only [go_sem,simprocAttr])|(refine dG 18 (Imp.open_ 10 f.toNat (aC c.co) [] (.inr ⟨rfl,rfl⟩) (Nat.le_refl 1) (by simp only [go_sem,simprocAttr];omega) rfl (by simp only [go_sem,simprocAttr]) rfl) ?_;simp only [go_sem,simprocAttr])|(with_reducible first|refine St.f ?_|refine V_c ?_|refine eDn ?_|refine And.intro ?_ ?_|refine aI ?_ ?_|refine aN ?_)|((refine aQ ?_);intro K hK)|((with_reducible refine So.f ?_);intro K hK;simp(contextual:=true)only [go_sem,simprocAttr])|((with_reducible refine hK _ ?_);clear hK K)|((with_reducible refine aE 180 ?_);refine EvCall.mr (hOwn) fQ [(0,7),(1,8),(2,9),(3,10)] [1,2,3,4] ?_)|((with_reducible refine aE 42 ?_);refine EvCall.mr (h1) aH [(0,0)] [] ?_;clear h1)|((with_reducible refine aE 42 ?_);refine EvCall.mr (h2) aH [(0,0)] [] ?_;clear h2)|((with_reducible refine(id ?_:EvCall _ _ [.ptr 0 0,iv (c.ob+1)] _ _));refine EvCall.mr (hF) aH [(0,0)] [] ?_)|((with_reducible refine(id ?_:EvCall _ _ [.ptr 0 0,iv c.fr.length] _ _));refine EvCall.mr (hD) aH [(0,0)] [] ?_;clear hD)|((with_reducible refine(id ?_:EvCall _ _ [.ptr 0 0,iv (c.fr.length+1)] _ _));refine EvCall.mr (hE) aH [(0,0)] [] ?_)|((with_reducible refine aE 177 ?_);refine EvCall.mr (hP) uU [(0,0),(1,11)] [] ?_)|(refine aHo (k:= .i64) (v:=p.1) (a:=a) (m:=m) (cap:=cap) (by rfl) (by first|(simp only [go_sem,simprocAttr];done)|(simp only [go_sem,simprocAttr];rfl)) p3 p4 p5 (by first|(simp only [go_sem,simprocAttr];done)|(simp only [go_sem,simprocAttr];rfl)) ?_;simp only [go_sem,simprocAttr])|(refine fun(hc:(_:Bool)=_)=>?_;try simp only [hcS]at hc))
 all_goals try exact om_
 all_goals first
  |rw [aN7 (by omega)]
  |rw [aN8 (by omega)]
  |rw [aN9 (by omega) (by omega)]
  |rw [aOa (by omega) (by omega)]
  |rw [aOb (by omega) (by omega)]
  |rw [aOc (by omega) (by omega) (by omega)]
  |rw [aLJ (by omega) (by omega)]
 all_goals((first|refine aB ?_|refine aA ?_);simp only [go_sem,simprocAttr,Tryz.f176])
end Go.Eng
end
section
namespace Go.Eng
open Go Go.Proofs Go.Cats
attribute [go_sem] aC9 aVY
def jZ (s:RnS) (o m:Int):Cat×RnS:=if aK (dV o m 12 s).2 24=0 then lY (aL (dV o m 12 s).2 24) (dV o m 12 s).1 else((dV o m 12 s).1,aL (dV o m 12 s).2 24)
theorem aDi {s:RnS} {o m:Int} (hs:RnOk s) (ho:o≤8) (hm:m≤40) (ho1:1≤o) (hm1:1≤m):RnOk (jZ s o m).2∧CatB (jZ s o m).1:=by
 obtain⟨h1,h2,_⟩:=xK ho hm ho1 hm1 12 s hs
 unfold jZ
 split
 ·exact aCZ (aM h1) h2.toShape
 ·exact⟨aM (n:=24) h1,xI h2.toShape⟩
theorem uW:aF Tryz.prog 98:=⟨_,Tryz.func98,rfl,rfl⟩
theorem aAa {s:RnS} {o m:Int} (hs:RnOk s) (ho:o≤8) (hm:m≤40) (ho1:1≤o) (hm1:1≤m):Spec Tryz.prog 98 [.ptr 0 0,iv o,iv m] [(0,bB s)] (aEO 1 (jZ s o m).1) ((0,bB (jZ s o m).2)::aC9 1 (jZ s o m).1):=by
 refine aD (E:=TE) 1 Tryz.func98 rfl (by simp [Tryz.f98]) fun X hn hX=>?_
 obtain⟨h1,h2,_⟩:=xK ho hm ho1 hm1 12 s hs
 have hA:=aFz hs ho hm
 have ed:jZ s o m=if aK (dV o m 12 s).2 24=0 then lY (aL (dV o m 12 s).2 24) (dV o m 12 s).1 else((dV o m 12 s).1,aL (dV o m 12 s).2 24):=rfl
 rw [ed]
 clear ed
 obtain⟨c,t,hct⟩:∃c t,dV o m 12 s=(c,t):=⟨_,_,rfl⟩
 rw [hct]at h1 h2 hA⊢
 simp only at h1 h2 hA⊢
 have hB:=aP (n:=24) h1
 have hC:=zZ (aM (n:=24) h1) h2.toShape
 by_cases h0:aK t 24=0
 ·rw [if_pos h0]
  rw [h0]at hB
  repeat'(first|refine wkQ ?_|refine Tw.f ?_ ?_|(refine kcQ uX ?_;refine kwQ (hA) [(0,0),(1,2),(2,3),(3,4),(4,5)] [] ?_)|(refine kcQ aH ?_;refine kwQ (hB) [(0,0)] [] ?_)|(refine kcQ uV ?_;refine kwQ (hC) [(0,0),(1,2),(2,3),(3,4),(4,5),(5,7),(6,8),(7,9),(8,10)] [] ?_)|(refine fun(hc:(_:Bool)=_)=>?_;try simp only [hcS]at hc))
  all_goals try exact om_
  (first|refine aB ?_|refine aA ?_);simp only [go_sem,simprocAttr,Tryz.f98]
 ·rw [if_neg h0]
  repeat'(first|(refine dG 4 (Imp.arrAb 5 _ (aC c.co) rfl rfl) ?_;simp only [go_sem,simprocAttr])|(with_reducible first|refine St.f ?_|refine V_c ?_|refine And.intro ?_ ?_|refine aI ?_ ?_)|((refine aQ ?_);intro K hK)|((with_reducible refine So.f ?_);intro K hK;simp(contextual:=true)only [go_sem,simprocAttr])|((with_reducible refine hK _ ?_);clear hK K)|((with_reducible refine aE 178 ?_);refine EvCall.mr (hA) uX [(0,0),(1,2),(2,3),(3,4),(4,5)] [] ?_)|((with_reducible refine aE 42 ?_);refine EvCall.mr (hB) aH [(0,0)] [] ?_)|(refine fun(hc:(_:Bool)=_)=>?_;try simp only [hcS]at hc))
  all_goals try exact om_
  all_goals try contradiction
  (first|refine aB ?_|refine aA ?_);simp only [go_sem,simprocAttr,Tryz.f98]
end Go.Eng
end
