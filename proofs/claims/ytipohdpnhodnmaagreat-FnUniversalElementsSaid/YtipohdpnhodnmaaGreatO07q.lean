/- The free set functor on one element: the representable one, by the reference. -/
import Derived.Test.YtipohdpnhodnmaaGreatO06y
set_option linter.unusedSimpArgs false
set_option linter.unusedVariables false
set_option maxRecDepth 100000
set_option maxHeartbeats 8000000
namespace Go.Eng
open Go Go.Proofs Go.Cats
def _root_.Go.Cats.Cat.fre (c:Cat) (x:Int) (h:Nat):List (List (List Int)):=(List.range c.ob.toNat).map fun y:Nat=>(c.homI x y h).map fun f=>[0,f]
theorem _root_.Go.Cats.Cat.fre_zero (c:Cat) (x:Int):c.fre x 0=List.replicate c.ob.toNat []:=by
 apply List.ext_getElem<;>simp [Cat.fre,Cat.homI_zero]
@[go_sem] theorem _root_.Go.Cats.Cat.fre_len (c:Cat) (x:Int) (h:Nat):(c.fre x h).length=c.ob.toNat:=by simp [Cat.fre]
theorem _root_.Go.Cats.Cat.fre_get (c:Cat) (x:Int) (h y:Nat) (hy:y<c.ob.toNat):(c.fre x h).getD y []=(c.homI x y h).map fun f=>[0,f]:=by
 simp [Cat.fre,List.getD_eq_getElem?_getD,hy]
theorem _root_.Go.Cats.Cat.fre_other (c:Cat) (x:Int) (h:Nat) (hn:¬c.fr.getD h 0=x):c.fre x (h+1)=c.fre x h:=by
 unfold Cat.fre
 refine List.map_congr_left fun y _=>?_
 rw [Cat.homI_succ,if_neg (fun q=>hn q.1),List.append_nil]
theorem _root_.Go.Cats.Cat.fre_hit (c:Cat) (x:Int) (h:Nat) (he:c.fr.getD h 0=x) (h0:0≤c.to.getD h 0) (h1:c.to.getD h 0<c.ob):
  c.fre x (h+1)=(c.fre x h).set (c.to.getD h 0).toNat ((c.fre x h).getD (c.to.getD h 0).toNat []++[[0,(h:Int)]]):=by
 rw [Cat.fre_get _ _ _ _ (by omega)]
 apply List.ext_getElem
 ·simp [Cat.fre]
 ·intro i hi1 hi2
  rw [List.getElem_set]
  have hio:i<c.ob.toNat:=by simpa [Cat.fre]using hi1
  split
  ·rename_i e
   subst e
   simp only [Cat.fre,List.getElem_map,List.getElem_range]
   rw [Cat.homI_succ,if_pos ⟨he,by omega⟩,List.map_append];rfl
  ·rename_i e
   simp only [Cat.fre,List.getElem_map,List.getElem_range]
   rw [Cat.homI_succ,if_neg (fun q=>e (by omega)),List.append_nil]
theorem aFq {A:Type} {n:Nat} {p q:Nat→Option A} (h:∀i,i<n→p i=q i):aW n p=aW n q:=by
 induction n with
 |zero=>rfl
 |succ n ih=>rw [iK,iK,ih fun i hi=>h i (by omega),h n (by omega)]
theorem aHr (l:List Int) (n:Int):pP (l.map fun f=>[0,f]) [0,n]=idxOf l n:=by
 unfold pP idxOf
 rw [List.length_map]
 have e:∀i,i<l.length→oH (l.map fun f=>[0,f]) [0,n] i=iY l n i:=fun i hi=>by
  unfold oH iY
  have e1:(l.map fun f=>[0,f]).getD i []=[0,l.getD i 0]:=by simp [List.getD_eq_getElem?_getD,hi]
  rw [e1]
  by_cases q:l.getD i 0=n
  ·rw [if_pos (by rw [q]),if_pos q]
  ·rw [if_neg (by simpa using q),if_neg q]
 congr 1
 exact aFq e
theorem Imp.nilsR {X:Cx} {tm:List (Nat×Sv)} {rs:List (Nat×Rs)} {nx:Nat} (i n cv:Nat) (hi:rsL rs i=⟨cv, .arr (.sl 1 (aC []) (List.replicate n (.v (.slice none 0 0))))⟩):
  Imp X ⟨tm,rs,nx⟩ ⟨tm,(i,⟨cv, .arr (bH (List.replicate n []))⟩)::rs,nx⟩:=by
 have h:=Imp.nilsss (X:=X) (σ:=⟨tm,rs,nx⟩) i n (by unfold Ss.get;rw [hi];rfl)
 have e:((⟨tm,rs,nx⟩:Ss).get i).cv=cv:=by unfold Ss.get;rw [hi]
 rw [e]at h
 exact h
attribute [go_sem] Nat.zero_mul Nat.one_mul
theorem vA:aF Tryz.prog 123:=⟨_,Tryz.func123,rfl,rfl⟩
theorem aFB {c:Cat} {x:Int} (hs:Shape c) (hb:CatB c):Spec Tryz.prog 123 [jX c, .bor [] (ints [x])] []
  (.agg [iv c.ob, .sl 0, .sl 1, .sl 2, .sl 3, .sl 4, .sl 5]) [(0,⟨1, .arr (ints c.fr)⟩),(1,⟨1, .arr (ints c.to)⟩),(2,⟨1, .arr (ints c.id)⟩),(3,⟨1, .arr (aC c.co)⟩),(4,⟨1, .arr (ints (c.rep x).sizes)⟩),(5,⟨1, .arr (aC (c.rep x).acts)⟩)]:=by
 have ⟨s1,s2,s3,s4,s5,s6,s7,s8,s9,s10,s11⟩:=hs
 refine aD (E:=TE) 0 Tryz.func123 rfl (by simp [Tryz.f123]) fun X hn hX=>?_
 repeat'(first|refine wkQ ?_|refine Tw.f ?_ ?_|(refine fun(hc:(_:Bool)=_)=>?_;try simp only [hcS]at hc))
 all_goals try exact om_
 refine cZ (Imp.nilsR 2 c.ob.toNat 1 rfl) ?_
 rw [←Cat.fre_zero c x]
 refine aG (G:={e:Nat//e≤1∧(True)}) (fun⟨e,_⟩=>[(6,iv e)]) [1,2,4,5] (fun⟨e,_⟩=>[(2,⟨1, .arr (bH (c.fre x (e*c.fr.length)))⟩),(1,⟨1, .box [iv 0, .v (.slice none 0 0), .v (.slice none 0 0), .v (.slice none 0 0), .v (.slice none 0 0), .v (.slice none 0 0), .v (.slice none 0 0)]⟩),(0,⟨1, .box [iv c.ob, .bor [] (ints c.fr), .bor [] (ints c.to), .bor [] (ints c.id), .bor [] (aC c.co)]⟩)]) [0,1,2] (fun zz=>1-zz.1) ⟨0,Nat.zero_le _,by first|trivial|simp⟩ ?_ ?_
 ·exact Imp.au hX
 rintro⟨e,hie,hwe⟩
 simp only [go_sem,simprocAttr]
 repeat'(first|refine wkQ ?_|refine Tw.f ?_ ?_|(refine kcQ fQ ?_;refine krQ (iM ?_) ?_)|(refine fun(hc:(_:Bool)=_)=>?_;try simp only [hcS]at hc))
 all_goals try exact om_
 ·obtain rfl:e=0:=by omega
  refine aG (G:={h:Nat//h≤c.fr.length∧(True)}) (fun⟨h,_⟩=>[(7,iv h)]) [1,2,4,5,6] (fun⟨h,_⟩=>[(2,⟨1, .arr (bH (c.fre x h))⟩),(1,⟨1, .box [iv 0, .v (.slice none 0 0), .v (.slice none 0 0), .v (.slice none 0 0), .v (.slice none 0 0), .v (.slice none 0 0), .v (.slice none 0 0)]⟩),(0,⟨1, .box [iv c.ob, .bor [] (ints c.fr), .bor [] (ints c.to), .bor [] (ints c.id), .bor [] (aC c.co)]⟩)]) [0,1,2] (fun zz=>c.fr.length-zz.1) ⟨0,Nat.zero_le _,by first|trivial|simp⟩ ?_ ?_
  ·exact Imp.au hX
  rintro⟨h,hih,hwh⟩
  simp only [go_sem,simprocAttr]
  have wT:=s6 h
  by_cases hh:h<c.fr.length
  ·by_cases hx:c.fr.getD h 0=x
   ·have e1:=c.fre_hit x h hx (wT (by omega)).1 (wT (by omega)).2
    have e2:=c.fre_get x h (c.to.getD h 0).toNat (by have:=wT (by omega);omega)
    have e3:((c.fre x h).getD (c.to.getD h 0).toNat []).length≤h:=by
     rw [e2,List.length_map];exact c.homI_len _ _ _
    refine cZ (Imp.open_ 2 (c.to.getD h 0).toNat (bH (c.fre x h)) [] (.inr ⟨rfl,rfl⟩) (Nat.le_refl 1) (by simp only [go_sem];omega) rfl (by simp only [go_sem]) rfl) ?_
    repeat'(first|refine wkQ ?_|refine Tw.f ?_ ?_|(refine fun(hc:(_:Bool)=_)=>?_;try simp only [hcS]at hc))
    all_goals try exact om_
    ·refine⟨⟨h+1,by omega,(by trivial)⟩,by simp only;omega,Imp.auto hX (by simp only [go_sem,simprocAttr,e1])⟩
    ·exact absurd hx hc
   ·repeat'(first|refine wkQ ?_|refine Tw.f ?_ ?_|(refine fun(hc:(_:Bool)=_)=>?_;try simp only [hcS]at hc))
    all_goals try exact om_
    ·exact absurd hc hx
    ·have e1:=c.fre_other x h hx
     refine⟨⟨h+1,by omega,(by trivial)⟩,by simp only;omega,Imp.auto hX (by simp only [go_sem,simprocAttr,e1])⟩
  ·obtain rfl:h=c.fr.length:=by omega
   repeat'(first|refine wkQ ?_|refine Tw.f ?_ ?_|(refine fun(hc:(_:Bool)=_)=>?_;try simp only [hcS]at hc))
   all_goals try exact om_
   refine⟨⟨0+1,by omega,(by trivial)⟩,by simp only;omega,Imp.auto hX (by simp only [go_sem,simprocAttr,Nat.zero_add,Int.zero_add])⟩
 obtain rfl:e=1:=by omega
 rw [Nat.one_mul]
 refine cZ (Imp.adoptBi 7 5 _ _ rfl rfl rfl (by rw [hX];rfl)) ?_
 refine cZ (Imp.adoptBs 7 6 _ _ rfl rfl rfl (by rw [hX];rfl)) ?_
 refine aG (G:={i:Nat//i≤c.ob.toNat∧(True)}) (fun⟨i,_⟩=>[(9,iv i)]) [2,4,5,8] (fun⟨i,_⟩=>[(7,⟨1, .box [iv c.ob, .sl 3, .sl 4, .sl 5, .sl 6, .sl 8, .sl 9]⟩),(3,⟨1, .arr (ints c.fr)⟩),(4,⟨1, .arr (ints c.to)⟩),(5,⟨1, .arr (ints c.id)⟩),(6,⟨1, .arr (aC c.co)⟩),(2,⟨1, .arr (bH (c.fre x c.fr.length))⟩),(8,⟨1, .arr (ints (c.szs x i))⟩),(9,⟨1, .arr (aC [])⟩),(1,⟨1, .box [iv 0, .v (.slice none 0 0), .v (.slice none 0 0), .v (.slice none 0 0), .v (.slice none 0 0), .v (.slice none 0 0), .v (.slice none 0 0)]⟩),(0,⟨1, .box [iv c.ob, .bor [] (ints c.fr), .bor [] (ints c.to), .bor [] (ints c.id), .bor [] (aC c.co)]⟩)]) [0,1,2,3,4,5,6,7,8,9] (fun zz=>c.ob.toNat-zz.1) ⟨0,Nat.zero_le _,by first|trivial|simp⟩ ?_ ?_
 ·exact Imp.au hX
 rintro⟨i,hii,hwi⟩
 simp only [go_sem,simprocAttr]
 have e0:=c.fre_get x c.fr.length i
 have hlen:=c.hom_len x i
 repeat'(first|refine wkQ ?_|refine Tw.f ?_ ?_|(refine fun(hc:(_:Bool)=_)=>?_;try simp only [hcS]at hc))
 all_goals try exact om_
 ·have e1:((c.fre x c.fr.length).getD i []).length=(c.hom x i).length:=by rw [e0 (by omega),List.length_map];rfl
  refine⟨⟨i+1,by omega,(by trivial)⟩,by simp only;omega,Imp.auto hX (by simp only [go_sem,simprocAttr,Go.Cats.Cat.szs_succ,e1])⟩
 obtain rfl:i=c.ob.toNat:=by omega
 refine aG (G:={a:Nat//a≤c.fr.length∧(True)}) (fun⟨a,_⟩=>[(10,iv a)]) [2,4,5,8] (fun⟨a,_⟩=>[(7,⟨1, .box [iv c.ob, .sl 3, .sl 4, .sl 5, .sl 6, .sl 8, .sl 9]⟩),(3,⟨1, .arr (ints c.fr)⟩),(4,⟨1, .arr (ints c.to)⟩),(5,⟨1, .arr (ints c.id)⟩),(6,⟨1, .arr (aC c.co)⟩),(2,⟨1, .arr (bH (c.fre x c.fr.length))⟩),(8,⟨1, .arr (ints (c.szs x c.ob.toNat))⟩),(9,⟨1, .arr (aC (c.acs x a))⟩),(1,⟨1, .box [iv 0, .v (.slice none 0 0), .v (.slice none 0 0), .v (.slice none 0 0), .v (.slice none 0 0), .v (.slice none 0 0), .v (.slice none 0 0)]⟩),(0,⟨1, .box [iv c.ob, .bor [] (ints c.fr), .bor [] (ints c.to), .bor [] (ints c.id), .bor [] (aC c.co)]⟩)]) [0,1,2,3,4,5,6,7,8,9] (fun zz=>c.fr.length-zz.1) ⟨0,Nat.zero_le _,by first|trivial|simp⟩ ?_ ?_
 ·exact Imp.au hX
 rintro⟨a,hia,hwa⟩
 simp only [go_sem,simprocAttr]
 have wF:=s5 a
 have wT:=s6 a
 have hL1:=c.hom_len x (c.fr.getD a 0)
 have gF:a<c.fr.length→(c.fre x c.fr.length).getD (c.fr.getD a 0).toNat []=(c.hom x (c.fr.getD a 0)).map fun f=>[0,f]:=fun h=>by
  have:=wF h
  rw [Go.Cats.Cat.fre_get _ _ _ _ (by omega),Int.toNat_of_nonneg this.1];rfl
 have gT:a<c.fr.length→(c.fre x c.fr.length).getD (c.to.getD a 0).toNat []=(c.hom x (c.to.getD a 0)).map fun f=>[0,f]:=fun h=>by
  have:=wT (by omega)
  rw [Go.Cats.Cat.fre_get _ _ _ _ (by omega),Int.toNat_of_nonneg this.1];rfl
 repeat'(first|refine wkQ ?_|refine Tw.f ?_ ?_|(refine fun(hc:(_:Bool)=_)=>?_;try simp only [hcS]at hc))
 all_goals try exact om_
 ·rw [gF (by omega),gT (by omega)]
  refine aG (G:={j:Nat//j≤(c.hom x (c.fr.getD a 0)).length∧(True)}) (fun⟨j,_⟩=>[(14,iv j),(11, .sl 10)]) [2,4,5,8,10,12,13] (fun⟨j,_⟩=>[(7,⟨1, .box [iv c.ob, .sl 3, .sl 4, .sl 5, .sl 6, .sl 8, .sl 9]⟩),(3,⟨1, .arr (ints c.fr)⟩),(4,⟨1, .arr (ints c.to)⟩),(5,⟨1, .arr (ints c.id)⟩),(6,⟨1, .arr (aC c.co)⟩),(2,⟨1, .arr (bH (c.fre x c.fr.length))⟩),(8,⟨1, .arr (ints (c.szs x c.ob.toNat))⟩),(9,⟨1, .arr (aC (c.acs x a))⟩),(1,⟨1, .box [iv 0, .v (.slice none 0 0), .v (.slice none 0 0), .v (.slice none 0 0), .v (.slice none 0 0), .v (.slice none 0 0), .v (.slice none 0 0)]⟩),(0,⟨1, .box [iv c.ob, .bor [] (ints c.fr), .bor [] (ints c.to), .bor [] (ints c.id), .bor [] (aC c.co)]⟩),(10,⟨1, .arr (ints (c.repA x a j))⟩)]) [0,1,2,3,4,5,6,7,8,9,10] (fun zz=>(c.hom x (c.fr.getD a 0)).length-zz.1) ⟨0,Nat.zero_le _,by first|trivial|simp⟩ ?_ ?_
  ·exact Imp.au hX
  rintro⟨j,hij,hwj⟩
  simp only [go_sem,simprocAttr]
  have hm:=fun h=>(Go.Cats.Cat.mem_hom (c:=c) (x:=x) (y:=c.fr.getD a 0) (f:=(c.hom x (c.fr.getD a 0)).getD j 0)).1 (aT h)
  have hr:j<(c.hom x (c.fr.getD a 0)).length→((c.hom x (c.fr.getD a 0)).map fun f=>[0,f]).getD j []=[0,(c.hom x (c.fr.getD a 0)).getD j 0]:=fun h=>by
   generalize c.hom x (c.fr.getD a 0)=l at h⊢
   simp only [List.getD_eq_getElem?_getD,List.getElem?_map,List.getElem?_eq_getElem h,Option.map_some,Option.getD_some]
  repeat'(first|refine wkQ ?_|refine Tw.f ?_ ?_|(refine kcQ uY ?_;refine krQ (aAn ?_ ?_ ?_ ?_) ?_)|(refine kcQ rR ?_;refine krQ (vK ?_ ?_ ?_) ?_)|(refine fun(hc:(_:Bool)=_)=>?_;try simp only [hcS]at hc))
  all_goals try exact om_
  all_goals try(rw [hr (by omega)];first|exact Nat.zero_lt_succ _|exact Nat.lt_succ_self _|exact(hm (by omega)).1)
  ·rw [hr (by omega)]
   have h1:=(hm (by omega)).2.1
   show(c.hom x (c.fr.getD a 0)).getD j 0<_
   omega
  ·rw [hr (by omega)]
   have h1:=hm (by omega)
   have h2:=(s11 ((c.hom x (c.fr.getD a 0)).getD j 0).toNat (by omega)).1
   show(a:Int)<((c.co.getD ((c.hom x (c.fr.getD a 0)).getD j 0).toNat []).length:Nat)
   omega
  ·have:=c.hom_len x (c.to.getD a 0)
   try rw [List.length_map]
   omega
  ·intro i hi
   generalize c.hom x (c.to.getD a 0)=l at hi⊢
   simp only [List.getD_eq_getElem?_getD,List.getElem?_map,List.getElem?_eq_getElem hi,Option.map_some,Option.getD_some]
   simp
  ·have e1:=hr (by omega)
   have e2:=Go.Cats.Cat.repA_succ (c:=c) (x:=x) (a:=a) (j:=j) (by omega)
   refine⟨⟨j+1,by omega,(by trivial)⟩,by simp only;omega,Imp.auto hX (by simp only [go_sem,simprocAttr,e1,e2,Cat.C,Int.toNat_natCast,aHr,List.getD_cons_zero,List.getD_cons_succ])⟩
  ·have e:=c.repA_end x a j (by omega)
   refine⟨⟨a+1,by omega,(by trivial)⟩,by simp only;omega,Imp.auto hX (by simp only [go_sem,simprocAttr,Go.Cats.Cat.acs_succ,e])⟩
 obtain rfl:a=c.fr.length:=by omega
 (first|refine aB ?_|refine aA ?_);simp only [go_sem,simprocAttr,Tryz.f123]
 exact⟨rfl,rfl⟩
end Go.Eng
