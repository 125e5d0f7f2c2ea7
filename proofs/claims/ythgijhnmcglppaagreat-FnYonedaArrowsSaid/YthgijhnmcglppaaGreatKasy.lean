/- Several texts in one: EngSo, R01, L06, N35, N52. -/
import Derived.Test.YthgijhnmcglppaaGreatKcgx
import Derived.Test.YthgijhnmcglppaaGreatKalx
import Derived.Test.YthgijhnmcglppaaGreatKciy
import Derived.Scope
import Derived.Laws.Small
set_option linter.unusedVariables false
set_option linter.unusedSimpArgs false
set_option maxRecDepth 100000
set_option maxHeartbeats 16000000
section
namespace Go.Eng
open Go
section
variable {P:Program} {b:Frame} {a:Act} {k:List Item} {cs:List Frame} {w:World} {Q:Exit→Act→World→Prop}
end
section
variable {X:Cx} {E:Env} {σ:Ss} {Q:Exit→Ss→Prop}
end
section
variable {E:Env} {d:Option Nat} {σ:Ss} {K:Ss→Prop}
end
end Go.Eng
end
section
namespace Go.Eng
open Go Go.Proofs Go.Cats
theorem aRU {β:Type} (M) (o:List β) (q):(stL M o q).1=decide (o.length+1≤M):=rfl
theorem aRV {β:Type} (M) (o:List β) (q):(stL M o q).2=o++[q]:=rfl
attribute [local go_sem] List.set_cons_zero List.set_cons_succ aRU aRV
end Go.Eng
end
section
namespace Go.Eng
open Go Go.Proofs Go.Cats
attribute [local go_sem] iR iS
abbrev fnO (n:Nat) (f:Fun):Sv:= .agg [iv f.src.ob, .sl n, .sl (n+1), .sl (n+2), .sl (n+3),iv f.tgt.ob, .sl (n+4), .sl (n+5), .sl (n+6), .sl (n+7), .sl (n+8), .sl (n+9)]
abbrev fnQ (n:Nat) (f:Fun):List (Nat×Rs):=[(n,⟨1, .arr (ints f.src.fr)⟩),(n+1,⟨1, .arr (ints f.src.to)⟩),(n+2,⟨1, .arr (ints f.src.id)⟩),(n+3,⟨1, .arr (aF f.src.co)⟩),(n+4,⟨1, .arr (ints f.tgt.fr)⟩),(n+5,⟨1, .arr (ints f.tgt.to)⟩),(n+6,⟨1, .arr (ints f.tgt.id)⟩),(n+7,⟨1, .arr (aF f.tgt.co)⟩),(n+8,⟨1, .arr (ints f.obs)⟩),(n+9,⟨1, .arr (ints f.ars)⟩)]
attribute [go_sem] fnQ
theorem aLb {V:List Nat} {rs:Nat→Rs} (f:Fun):dZ V rs (aLZ [] f) (lO f):=
 ⟨_,_,rfl, .inl rfl,_,_,rfl,⟨rfl,bP _,fun p hp=>by cases hp⟩,_,_,rfl,⟨rfl,bP _,fun p hp=>by cases hp⟩,_,_,rfl,⟨rfl,bP _,fun p hp=>by cases hp⟩,_,_,rfl,⟨rfl,bP _,fun p hp=>by cases hp⟩,_,_,rfl, .inl rfl,_,_,rfl,⟨rfl,bP _,fun p hp=>by cases hp⟩,_,_,rfl,⟨rfl,bP _,fun p hp=>by cases hp⟩,_,_,rfl,⟨rfl,bP _,fun p hp=>by cases hp⟩,_,_,rfl,⟨rfl,bP _,fun p hp=>by cases hp⟩,_,_,rfl,⟨rfl,bP _,fun p hp=>by cases hp⟩,_,_,rfl,⟨rfl,bP _,fun p hp=>by cases hp⟩,rfl⟩
theorem Imp.lendFn {X:Cx} {σ:Ss} (k i cv:Nat) (f:Fun) (hk:lk σ.tm k= .ptr i 0) (hi:rsL σ.rs i=⟨cv, .box (aLZ [] f)⟩) (hcv:1≤cv):Imp X σ ⟨(k, .bptr [(i,cv)] (lO f))::σ.tm,σ.rs,σ.nx⟩:=by
 have h:=Imp.lendPtr (X:=X) (σ:=σ) k i 0 (lO f) [i] hk ⟨List.mem_singleton.2 rfl, .inl ⟨_,by rw [hi],aLb f⟩⟩ (fun j hj=>by rw [List.mem_singleton.1 hj,hi];exact hcv)
 rw [List.map_cons,List.map_nil,hi]at h
 exact h
theorem aRZ {f g:Fun} (hf:IsFun f) (hg:IsFun g) (bf:FunB f) (bg:FunB g) (h:f.tgt=g.src):ThF f g:=by
 have g1:=hg.fits.obl
 have g2:=hg.fits.arl
 refine⟨bf.src,bg.tgt,bf.obs,bf.ars,bg.obs,bg.ars,fun i hi=>?_,fun i hi=>?_⟩
 ·have:=hf.fits.obw i hi
  rw [h]at this;omega
 ·have:=hf.fits.arw i hi
  rw [h]at this;omega
theorem yH:aD Tryz.prog 20:=⟨_,Tryz.func20,rfl,rfl⟩
theorem vE {f g:Fun} (hf:IsFun f) (hg:IsFun g) (bf:FunB f) (bg:FunB g) (h:f.tgt=g.src):Spec Tryz.prog 20 [aL0 f,aL0 g] [] (.tup [fnO 0 (thF f g),iv 0]) (fnQ 0 (thF f g)):=by
 refine aC (E:=TE) 0 Tryz.func20 rfl (by simp [Tryz.f20]) fun X hn hX=>?_
 have hT:=aRZ hf hg bf bg h
 have h6:IsFun f∧IsFun g:=⟨hf,hg⟩
 have f1:=bf.tgt
 have e1:=bg.src
 have hA:=vF bf bg
 rw [cV h6]at hA
 have hS:=lC (c:=f.tgt) (d:=g.src) f1 e1
 rw [cV h]at hS
 repeat'(first|(refine dM 1 (Imp.trans (Imp.lendFn 2 0 1 f rfl rfl (Nat.le_refl 1)) (Imp.lendFn 3 1 1 g rfl rfl (Nat.le_refl 1))) ?_;simp only [go_sem,simprocAttr])|(with_reducible first|refine St.f ?_|refine V_c ?_|refine And.intro ?_ ?_|refine aJ ?_ ?_)|((refine aV ?_);intro K hK)|((with_reducible refine So.f ?_);intro K hK;simp(contextual:=true)only [go_sem,simprocAttr])|((with_reducible refine hK _ ?_);clear hK K)|((with_reducible refine aE 92 ?_);refine EvCall.mr (hA) aAw [] [3,0,1] ?_)|((with_reducible refine aE 93 ?_);refine EvCall.mr (hS) kF [] [0,1] ?_)|((with_reducible refine aE 94 ?_);refine EvCall.rr (aAI (f:=f) (g:=g) ?_) yF ?_)|(refine fun(hc:(_:Bool)=_)=>?_;try simp only [hcS]at hc))
 all_goals try exact om_
 (first|refine aB ?_|refine aA ?_);simp only [go_sem,simprocAttr,Tryz.f20]
/-! ### Natural transformations -/
def trS (ts:List (Nat×Nat)) (f g:Fun) (l:List Int):List Sv:=[iv f.src.ob, .bor ts (ints f.src.fr), .bor ts (ints f.src.to), .bor ts (ints f.src.id), .bor ts (aF f.src.co),iv f.tgt.ob, .bor ts (ints f.tgt.fr), .bor ts (ints f.tgt.to), .bor ts (ints f.tgt.id), .bor ts (aF f.tgt.co), .bor ts (ints f.obs), .bor ts (ints f.ars),
 iv g.src.ob, .bor ts (ints g.src.fr), .bor ts (ints g.src.to), .bor ts (ints g.src.id), .bor ts (aF g.src.co),iv g.tgt.ob, .bor ts (ints g.tgt.fr), .bor ts (ints g.tgt.to), .bor ts (ints g.tgt.id), .bor ts (aF g.tgt.co), .bor ts (ints g.obs), .bor ts (ints g.ars), .bor ts (ints l)]
section
variable (f g:Fun) (l:List Int) (ts:List (Nat×Nat))
attribute [go_sem] trS
end
end Go.Eng
end
section
namespace Go.Cats
open Go.Eng
def FL (c d:Cat) (L:List Fun):Prop:=∀i,i<L.length→(L.getD i default).src=c∧(L.getD i default).tgt=d∧Fits (L.getD i default)
theorem FL.par {c d:Cat} {L:List Fun} (h:FL c d L) (sc:IsCat c) (sd:IsCat d) {i j:Nat} (hi:i<L.length) (hj:j<L.length):Par (L.getD i default) (L.getD j default):=by
 obtain⟨a1,a2,a3⟩:=h i hi
 obtain⟨b1,b2,b3⟩:=h j hj
 exact⟨by rw [a1];exact sc,by rw [a2];exact sd,a3,b3,by rw [a1,b1],by rw [a2,b2]⟩
theorem Fun.eta {f:Fun} {c d:Cat} (h1:f.src=c) (h2:f.tgt=d):(⟨c,d,f.obs,f.ars⟩:Fun)=f:=by subst h1;subst h2;rfl
theorem FL.take {c d:Cat} {L:List Fun} (h:FL c d L) (n:Nat):FL c d (L.take n):=fun i hi=>by
 have hl:i<n∧i<L.length:=by rw [List.length_take]at hi;omega
 have e:(L.take n).getD i default=L.getD i default:=by
  rw [List.getD_eq_getElem?_getD,List.getElem?_take,if_pos hl.1,←List.getD_eq_getElem?_getD]
 rw [e];exact h i hl.2
theorem mem_natA {f g:Fun} {t:List Int}:t∈aKo f g↔t.length=f.src.ob.toNat∧NatP f g t:=by
 unfold aKo aUd
 rw [mem_extW,aMD,mem_lexP,aRK]
 constructor
 ·rintro⟨⟨h1,_⟩,_,h3⟩;exact⟨h1,h3⟩
 ·rintro⟨h1,h3⟩
  refine⟨⟨h1,fun i hi=>?_⟩,contB_iff.2 ⟨by simp [h1],fun j hj h0=>?_⟩,h3⟩
  ·have:=Cat.mem_hom.1 (h3.end_ i hi)
   rw [aPp (by omega)]
   exact⟨this.1,this.2.1⟩
  ·rw [List.nil_append]at h0 hj
   rw [List.length_replicate]at hj
   rw [aPl,if_pos hj]at h0
   omega
/-! ### The arrows -/
noncomputable def fcE (L:List Fun) (i j:Nat):List (List Int):=(aKo (L.getD i default) (L.getD j default)).map fun t=>(i:Int)::(j:Int)::t
noncomputable def fcR (L:List Fun) (i j:Nat):List (List Int):=fA j fun j=>fcE L i j
noncomputable def fcP (L:List Fun) (i j:Nat):List (List Int):=fA i (fun i=>fcR L i L.length)++fcR L i j
noncomputable def fcA (L:List Fun):List (List Int):=fcP L L.length 0
section
variable {c d:Cat} {L:List Fun} {i j:Nat} {r t s:List Int}
theorem aQQ:fcA L=fA L.length fun i=>fcR L i L.length:=by
 unfold fcA fcP fcR;rw [aDu,List.append_nil]
theorem mem_fcE:r∈fcE L i j↔∃t,t∈aKo (L.getD i default) (L.getD j default)∧r=(i:Int)::(j:Int)::t:=by
 unfold fcE
 rw [List.mem_map]
 constructor
 ·rintro⟨t,h,rfl⟩;exact⟨t,h,rfl⟩
 ·rintro⟨t,h,rfl⟩;exact⟨t,h,rfl⟩
theorem mem_fcA:r∈fcA L↔∃i j:Nat,∃t,i<L.length∧j<L.length∧t∈aKo (L.getD i default) (L.getD j default)∧r=(i:Int)::(j:Int)::t:=by
 rw [aQQ,mem_coll]
 constructor
 ·rintro⟨i,hi,h⟩
  obtain⟨j,hj,h⟩:=mem_coll.1 h
  obtain⟨t,ht,e⟩:=mem_fcE.1 h
  exact⟨i,j,t,hi,hj,ht,e⟩
 ·rintro⟨i,j,t,hi,hj,ht,e⟩
  exact⟨i,hi,mem_coll.2 ⟨j,hj,mem_fcE.2 ⟨t,ht,e⟩⟩⟩
structure ArrF (c d:Cat) (L:List Fun) (r:List Int):Prop where
 len:r.length=c.ob.toNat+2
 i0:0≤r.getD 0 0
 i1:(r.getD 0 0).toNat<L.length
 j0:0≤r.getD 1 0
 j1:(r.getD 1 0).toNat<L.length
 nat:r.drop 2∈aKo (L.getD (r.getD 0 0).toNat default) (L.getD (r.getD 1 0).toNat default)
theorem FL.arr (h:FL c d L) (hr:r∈fcA L):ArrF c d L r:=by
 obtain⟨i,j,t,hi,hj,ht,rfl⟩:=mem_fcA.1 hr
 have h1:=(mem_natA.1 ht).1
 rw [(h i hi).1]at h1
 exact⟨by simp [h1],by simp,by simpa using hi,by simp,by simpa using hj,by simpa using ht⟩
theorem ArrF.eta (h:ArrF c d L r):r=r.getD 0 0::r.getD 1 0::r.drop 2:=by
 have:=h.len
 match r,this with
 |a::b::l,_=>rfl
theorem FL.comp (h:FL c d L) (hr:r∈fcA L):∀x,x<c.ob.toNat→0≤r.getD (x+2) 0∧r.getD (x+2) 0<d.fr.length:=fun x hx=>by
 have ha:=h.arr hr
 have h1:=(mem_natA.1 ha.nat)
 have hl:=ha.len
 have h2:=Cat.mem_hom.1 (h1.2.end_ x (by rw [List.length_drop];omega))
 rw [(h _ ha.i1).2.1]at h2
 have e:(r.drop 2).getD x 0=r.getD (x+2) 0:=by
  rw [List.getD_eq_getElem?_getD,List.getElem?_drop,List.getD_eq_getElem?_getD,Nat.add_comm]
 rw [e]at h2
 exact⟨h2.1,h2.2.1⟩
theorem assI {d:Cat} (sd:IsCat d) {x y z w a b e:Int} (ha:a∈d.hom x y) (hb:b∈d.hom y z) (he:e∈d.hom z w):d.C (d.C a b) e=d.C a (d.C b e):=by
 obtain⟨a0,a1,a2,a3⟩:=Cat.mem_hom.1 ha
 obtain⟨b0,b1,b2,b3⟩:=Cat.mem_hom.1 hb
 obtain⟨e0,e1,e2,e3⟩:=Cat.mem_hom.1 he
 have:=sd.ass a.toNat b.toNat e.toNat (by omega) (by omega) (by omega)
 rw [Int.toNat_of_nonneg a0,Int.toNat_of_nonneg b0,Int.toNat_of_nonneg e0]at this
 exact this (a3.trans b2.symm) (b3.trans e2.symm)
end
end Go.Cats
end
section
namespace Go.Cats
open Go.Eng
section
variable {c d:Cat} {L:List Fun} {i j:Nat} {r t s q:List Int} {f g:Fun}
theorem aMz {l m:List Int} (h:l.length=m.length) (k:∀i,i<l.length→l.getD i 0=m.getD i 0):l=m:=by
 refine List.ext_getElem h fun i h1 h2=>?_
 have:=k i h1
 rw [List.getD_eq_getElem?_getD,List.getElem?_eq_getElem h1,List.getD_eq_getElem?_getD,List.getElem?_eq_getElem h2]at this
 exact this
theorem aLP {x:Nat}:(r.drop 2).getD x 0=r.getD (x+2) 0:=by
 rw [List.getD_eq_getElem?_getD,List.getElem?_drop,List.getD_eq_getElem?_getD,Nat.add_comm]
theorem ArrF.hom (h:FL c d L) (a:ArrF c d L r) {x:Nat} (hx:x<c.ob.toNat):r.getD (x+2) 0∈d.hom ((L.getD (r.getD 0 0).toNat default).obs.getD x 0) ((L.getD (r.getD 1 0).toNat default).obs.getD x 0):=by
 have hl:=a.len
 have:=(mem_natA.1 a.nat).2.end_ x (by rw [List.length_drop];omega)
 rw [aLP,(h _ a.i1).2.1]at this
 exact this
theorem FL.obl (h:FL c d L) (sc:IsCat c) (hi:i<L.length):(L.getD i default).obs.length=c.ob.toNat:=by
 have:=(h i hi).2.2.obl
 rw [(h i hi).1]at this
 have:=sc.toShape.ob0
 omega
end
end Go.Cats
end
