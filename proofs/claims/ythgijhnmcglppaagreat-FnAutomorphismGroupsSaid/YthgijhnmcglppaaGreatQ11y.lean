/- Several texts in one: Q11, Q13. -/
import Derived.Test.YthgijhnmcglppaaGreatQ10q
set_option linter.unusedSimpArgs false
set_option linter.unusedVariables false
set_option maxRecDepth 100000
set_option maxHeartbeats 16000000
section
namespace Go.Eng
open Go Go.Proofs Go.Cats
attribute [local go_sem] List.set_cons_zero List.set_cons_succ
theorem aDX (c:Cat) (col:List Int) (f g:Nat):(gS c col f g).length≤2:=by
 unfold gS;(repeat' split)<;>simp
theorem aKm {c:Cat} {col:List Int} {f g:Nat} {r:List Int} (h:r∈gS c col f g):r.length=4:=by
 unfold gS at h
 rcases List.mem_append.1 h with h|h<;>(split at h<;>simp at h<;>subst h<;>rfl)
theorem uP {c:Cat} {col:List Int} {n f:Nat} {r:List Int} (h:r∈fA n (gS c col f)):r.length=4:=by
 unfold fA at h
 obtain⟨g,_,hg⟩:=List.mem_flatMap.1 h
 exact aKm hg
theorem aAd:aD Tryz.prog 311:=⟨_,Tryz.func311,rfl,rfl⟩
theorem aCI {c:Cat} {col:List Int} {f:Nat} (sc:Shape c) (hl:col.length=c.fr.length) (hf:f<c.fr.length):Spec Tryz.prog 311 [cK c, .bor [] (ints col),iv f] [] (.sl 0) [(0,⟨1, .arr (ints (Go.Cats.look c col f))⟩)]:=by
 refine aC (E:=TE) 0 Tryz.func311 rfl (by simp [Tryz.f311]) fun X hn hX=>?_
 have m40:=sc.m40
 have ccol:=sc.col
 have rowf:=(sc.coe f (by omega)).1
 repeat'(first|refine wkQ ?_|refine Tw.f ?_ ?_|(refine fun(hc:(_:Bool)=_)=>?_;try simp only [hcS]at hc))
 all_goals try exact om_
 refine aG (G:={g:Nat//g≤c.fr.length∧(True)}) (fun⟨g,_⟩=>[(8,iv g),(7, .sl 1)]) [1,2,3,6] (fun⟨g,_⟩=>[(1,⟨1, .arr (aF (fA g (gS c col f)))⟩)]) [1] (fun zz=>c.fr.length-zz.1) ⟨0,Nat.zero_le _,by first|trivial|simp⟩ ?_ ?_
 ·exact Imp.au hX
 rintro⟨g,hig,hwg⟩
 simp only [go_sem,simprocAttr]
 have gl:(fA g (gS c col f)).length≤g*2:=mJ fun i _=>aDX c col f i
 rcases Nat.lt_or_ge g c.fr.length with hlt|hge
 ·have rowg:=(sc.coe g (by omega)).1
  have c1:0≤(c.co.getD f []).getD g 0→((c.co.getD f []).getD g 0).toNat<c.fr.length:=fun h=>(fL sc (by omega) (by omega) h).2.1
  have c2:0≤(c.co.getD g []).getD f 0→((c.co.getD g []).getD f 0).toNat<c.fr.length:=fun h=>(fL sc (by omega) (by omega) h).2.1
  have e0:fA (g+1) (gS c col f)=fA g (gS c col f)++((if 0≤(c.co.getD f []).getD g 0 then [[0,col.getD g 0,col.getD ((c.co.getD f []).getD g 0).toNat 0,whi ((c.co.getD f []).getD g 0) f g]]else [])++(if 0≤(c.co.getD g []).getD f 0 then [[1,col.getD g 0,col.getD ((c.co.getD g []).getD f 0).toNat 0,whi ((c.co.getD g []).getD f 0) f g]]else [])):=oK ..
  by_cases q1:0≤(c.co.getD f []).getD g 0
  ·by_cases q2:0≤(c.co.getD g []).getD f 0
   ·rw [if_pos q1,if_pos q2,←List.append_assoc]at e0
    repeat'(first|refine wkQ ?_|refine Tw.f ?_ ?_|(refine kcQ lJ ?_;refine krQ (nS) ?_)|(refine fun(hc:(_:Bool)=_)=>?_;try simp only [hcS]at hc))
    all_goals try exact om_
    ·refine⟨⟨g+1,by omega,(by trivial)⟩,by simp only;omega,Imp.auto hX (by simp only [go_sem,simprocAttr,e0])⟩
   ·rw [if_pos q1,if_neg q2,List.append_nil]at e0
    repeat'(first|refine wkQ ?_|refine Tw.f ?_ ?_|(refine kcQ lJ ?_;refine krQ (nS) ?_)|(refine fun(hc:(_:Bool)=_)=>?_;try simp only [hcS]at hc))
    all_goals try exact om_
    ·refine⟨⟨g+1,by omega,(by trivial)⟩,by simp only;omega,Imp.auto hX (by simp only [go_sem,simprocAttr,e0])⟩
  ·by_cases q2:0≤(c.co.getD g []).getD f 0
   ·rw [if_neg q1,if_pos q2,List.nil_append]at e0
    repeat'(first|refine wkQ ?_|refine Tw.f ?_ ?_|(refine kcQ lJ ?_;refine krQ (nS) ?_)|(refine fun(hc:(_:Bool)=_)=>?_;try simp only [hcS]at hc))
    all_goals try exact om_
    ·refine⟨⟨g+1,by omega,(by trivial)⟩,by simp only;omega,Imp.auto hX (by simp only [go_sem,simprocAttr,e0])⟩
   ·rw [if_neg q1,if_neg q2,List.nil_append,List.append_nil]at e0
    repeat'(first|refine wkQ ?_|refine Tw.f ?_ ?_|(refine kcQ lJ ?_;refine krQ (nS) ?_)|(refine fun(hc:(_:Bool)=_)=>?_;try simp only [hcS]at hc))
    all_goals try exact om_
    ·refine⟨⟨g+1,by omega,(by trivial)⟩,by simp only;omega,Imp.auto hX (by simp only [go_sem,simprocAttr,e0])⟩
 ·have eg:g=c.fr.length:=by omega
  subst eg
  have hs:=aE6 (L:=fA c.fr.length (gS c col f)) (by omega) (fun i hi=>by rw [uP (aX (d:=[]) hi)];omega)
  have hsl:=aBf (fA c.fr.length (gS c col f))
  have hsr:∀i,i<(srt (fA c.fr.length (gS c col f))).length→((srt (fA c.fr.length (gS c col f))).getD i []).length≤4096:=fun i hi=>by rw [uP ((mY _).mem_iff.1 (aX (d:=[]) hi))];omega
  have hfl:=aAX hsr _ (Nat.le_refl _)
  rw [List.take_length]at hfl
  repeat'(first|refine wkQ ?_|refine Tw.f ?_ ?_|(refine kcQ aC1 ?_;refine kwQ (hs) [(0,1),(1,6)] [] ?_)|(refine kcQ aFE ?_;refine krQ (aH4 ?_ ?_) ?_)|(refine fun(hc:(_:Bool)=_)=>?_;try simp only [hcS]at hc))
  all_goals try exact om_
  ·(first|refine aB ?_|refine aA ?_);simp only [go_sem,simprocAttr,Tryz.f311]
   rfl
end Go.Eng
end
section
namespace Go.Eng
open Go Go.Proofs Go.Cats
attribute [local go_sem] List.set_cons_zero List.set_cons_succ
/-! ### What the loops have built -/
def cP (c:Cat):Nat→List Int
 |0=>List.replicate c.fr.length 0
 |f+1=>if c.id.getD (c.fr.getD f 0).toNat 0=f then(cP c f).set f 1 else cP c f
@[go_sem] theorem aWK (c:Cat):cP c 0=List.replicate c.fr.length 0:=rfl
theorem yD (c:Cat):∀f,(cP c f).length=c.fr.length
 |0=>List.length_replicate
 |f+1=>by rw [cP];split;rw [List.length_set];all_goals exact yD c f
theorem aPQ (c:Cat) {j:Nat} (hj:j<c.fr.length):∀f,(cP c f).getD j 0=if j<f∧c.id.getD (c.fr.getD j 0).toNat 0=j then 1 else 0
 |0=>by rw [cP,List.getD_eq_getElem?_getD,List.getElem?_replicate,if_pos hj,if_neg (by omega)];rfl
 |f+1=>by
  have ih:=aPQ c hj f
  have hl:=yD c f
  rw [cP]
  by_cases q:f=j
  ·subst q
   split
   ·rename_i h;rw [if_pos ⟨by omega,h⟩,List.getD_eq_getElem?_getD,List.getElem?_set_self (by omega)];rfl
   ·rename_i h;rw [ih,if_neg (by omega),if_neg fun q=>h q.2]
  ·have e:(j<f+1∧c.id.getD (c.fr.getD j 0).toNat 0=j)↔(j<f∧c.id.getD (c.fr.getD j 0).toNat 0=j):=by omega
   rw [show(if j<f+1∧c.id.getD (c.fr.getD j 0).toNat 0=j then(1:Int)else 0)=if j<f∧c.id.getD (c.fr.getD j 0).toNat 0=j then 1 else 0 by simp only [e],←ih]
   split
   ·rw [List.getD_eq_getElem?_getD,List.getElem?_set_ne q,←List.getD_eq_getElem?_getD]
   ·rfl
theorem aLI (c:Cat):cP c c.fr.length=iN c:=by
 refine List.ext_getElem (by rw [yD];simp [iN]) fun j h1 h2=>?_
 have hj:j<c.fr.length:=by rw [yD]at h1;exact h1
 have e1:=aPQ c hj c.fr.length
 have e2:(iN c).getD j 0=if c.id.getD (c.fr.getD j 0).toNat 0=j then 1 else 0:=by unfold iN;rw [dS hj]
 rw [List.getD_eq_getElem?_getD,List.getElem?_eq_getElem h1]at e1
 rw [List.getD_eq_getElem?_getD,List.getElem?_eq_getElem h2]at e2
 simp only [Option.getD_some]at e1 e2
 rw [e1,e2]
 by_cases q:c.id.getD (c.fr.getD j 0).toNat 0=j
 ·rw [if_pos ⟨hj,q⟩,if_pos q]
 ·rw [if_neg fun h=>q h.2,if_neg q]
def lkN (c:Cat) (cc:List Int):Nat→List (List Int)
 |0=>[]
 |f+1=>lkN c cc f++[Go.Cats.look c cc f]
@[go_sem] theorem aT9 (c:Cat) (cc:List Int):lkN c cc 0=[]:=rfl
theorem aB1 (c:Cat) (cc:List Int):∀n,lkN c cc n=(List.range n).map (Go.Cats.look c cc)
 |0=>rfl
 |n+1=>by rw [lkN,aB1 c cc n,List.range_succ,List.map_append];rfl
theorem aOP (c d:Cat) (cc dd:List Int):lkN c cc c.fr.length++lkN d dd d.fr.length=eH c d cc dd:=by rw [aB1,aB1];rfl
theorem aGd {c:Cat} (sc:Shape c) (cc:List Int) (f:Nat):(Go.Cats.look c cc f).length≤400000:=by
 have m40:=sc.m40
 have gl:(fA c.fr.length (gS c cc f)).length≤c.fr.length*2:=mJ fun i _=>aDX c cc f i
 have hsl:=aBf (fA c.fr.length (gS c cc f))
 have hsr:∀i,i<(srt (fA c.fr.length (gS c cc f))).length→((srt (fA c.fr.length (gS c cc f))).getD i []).length≤4096:=fun i hi=>by rw [uP ((mY _).mem_iff.1 (aX (d:=[]) hi))];omega
 have hfl:=aAX hsr _ (Nat.le_refl _)
 rw [List.take_length]at hfl
 unfold Go.Cats.look
 rw [List.length_cons]
 omega
theorem aGc {c d:Cat} (sc:Shape c) (sd:Shape d) (cc dd:List Int) {r:List Int} (h:r∈eH c d cc dd):r.length≤400000:=by
 unfold eH at h
 rcases List.mem_append.1 h with h|h<;>obtain⟨f,_,rfl⟩:=List.mem_map.1 h
 ·exact aGd sc cc f
 ·exact aGd sd dd f
def kzN (Z:Zs):Nat→Zs
 |0=>[]
 |k+1=>if fnd ((kzN Z k).map (·.2)) ((Z.map (·.2)).getD k [])<0 then kzN Z k++[((Z.map (·.1)).getD k (.slice none 0 0),(Z.map (·.2)).getD k [])]else kzN Z k
@[go_sem] theorem aT7 (Z:Zs):kzN Z 0=[]:=rfl
theorem aIQ (Z:Zs):∀k,(kzN Z k).map (·.2)=gE (Z.map (·.2)) k
 |0=>rfl
 |k+1=>by
  rw [kzN,gE,←aIQ Z k]
  split
  ·rw [List.map_append];rfl
  ·rfl
theorem aA2 (Z:Zs):∀k,k≤Z.length→∀p∈kzN Z k,p∈Z
 |0,_,p,hp=>by cases hp
 |k+1,h,p,hp=>by
  rw [kzN]at hp
  split at hp
  ·rcases List.mem_append.1 hp with hp|hp
   ·exact aA2 Z k (by omega) p hp
   ·rw [List.mem_singleton]at hp;subst hp;exact aHd (by omega)
  ·exact aA2 Z k (by omega) p hp
theorem aEH (Z:Zs):∀k,(kzN Z k).length≤k
 |0=>Nat.le_refl _
 |k+1=>by
  have:=aEH Z k
  rw [kzN]
  split
  ·rw [List.length_append,List.length_singleton];omega
  ·omega
def aN (K L:List (List Int)) (m:Nat):Nat→List Int
 |0=>[]
 |k+1=>if k<m then aN K L m k++[fnd K (L.getD k [])]else aN K L m k
def bN (K L:List (List Int)) (m:Nat):Nat→List Int
 |0=>[]
 |k+1=>if k<m then bN K L m k else bN K L m k++[fnd K (L.getD k [])]
@[go_sem] theorem aWB (K L:List (List Int)) (m:Nat):aN K L m 0=[]:=rfl
@[go_sem] theorem aWC (K L:List (List Int)) (m:Nat):bN K L m 0=[]:=rfl
theorem aLo (K L:List (List Int)) (m:Nat):∀k,k≤m→aN K L m k=(List.range k).map fun j=>fnd K (L.getD j [])
 |0,_=>rfl
 |k+1,h=>by rw [aN,if_pos (by omega),aLo K L m k (by omega),List.range_succ,List.map_append];rfl
theorem aIs (K L:List (List Int)) (m:Nat):∀k,aN K L m (m+k)=(List.range m).map fun j=>fnd K (L.getD j [])
 |0=>aLo K L m m (Nat.le_refl _)
 |k+1=>by rw [←Nat.add_assoc,aN,if_neg (by omega),aIs K L m k]
theorem aLz (K L:List (List Int)) (m:Nat):∀k,k≤m→bN K L m k=[]
 |0,_=>rfl
 |k+1,h=>by rw [bN,if_pos (by omega),aLz K L m k (by omega)]
theorem aIx (K L:List (List Int)) (m:Nat):∀k,bN K L m (m+k)=(List.range k).map fun j=>fnd K (L.getD (m+j) [])
 |0=>aLz K L m m (Nat.le_refl _)
 |k+1=>by rw [←Nat.add_assoc,bN,if_neg (by omega),aIx K L m k,List.range_succ,List.map_append];rfl
theorem aQu (c d:Cat) (cc dd:List Int):aN (iC c d cc dd) (eH c d cc dd) c.fr.length (c.fr.length+d.fr.length)=wE c d cc dd:=by
 rw [aIs]
 unfold wE
 exact List.map_congr_left fun f hf=>by rw [yW (List.mem_range.1 hf)]
theorem aQw (c d:Cat) (cc dd:List Int):bN (iC c d cc dd) (eH c d cc dd) c.fr.length (c.fr.length+d.fr.length)=wG c d cc dd:=by
 rw [aIx]
 unfold wG
 exact List.map_congr_left fun f hf=>by rw [yX (List.mem_range.1 hf)]
theorem aLn (K L:List (List Int)) (m:Nat):∀k,(aN K L m k).length≤k
 |0=>Nat.le_refl _
 |k+1=>by
  have:=aLn K L m k
  rw [aN]
  split
  ·rw [List.length_append,List.length_singleton];omega
  ·omega
theorem aLy (K L:List (List Int)) (m:Nat):∀k,(bN K L m k).length≤k
 |0=>Nat.le_refl _
 |k+1=>by
  have:=aLy K L m k
  rw [bN]
  split
  ·omega
  ·rw [List.length_append,List.length_singleton];omega
theorem lS {c:Cat} {f:Nat} {v:Bool} (hs:Shape c) (hf:f<c.fr.length) (h:decide (c.id.getD (c.fr.getD f 0).toNat 0=f)=v):Spec Tryz.prog 310 [cK c,iv f] [] (bv v) []:=by
 subst h
 exact aH8 hs hf
theorem tT {a b:List Int} {v:Bool} (ha:a.length≤1048576) (hb:b.length≤1048576) (h:dec (qN a b)=v):Spec Tryz.prog 312 [.bor [] (ints a), .bor [] (ints b)] [] (bv v) []:=by
 subst h
 exact aGT ha hb
end Go.Eng
end
