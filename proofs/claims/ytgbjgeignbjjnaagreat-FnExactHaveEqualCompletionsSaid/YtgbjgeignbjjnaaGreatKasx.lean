/- Several texts in one: N35, N40. -/
import Derived.Test.YtgbjgeignbjjnaaGreatKux
set_option linter.unusedSimpArgs false
set_option linter.unusedVariables false
section
namespace Go.Cats
open Go.Eng
def FL (c d : Cat) (L : List Fun) : Prop:=∀ i,i < L.length → (L.getD i default).src = c ∧ (L.getD i default).tgt = d ∧ Fits (L.getD i default)
/-! ### The arrows -/
noncomputable def fcE (L : List Fun) (i j : Nat) : List (List Int):=(natA (L.getD i default) (L.getD j default)).map fun t=>(i : Int) :: (j : Int) :: t
noncomputable def fcR (L : List Fun) (i j : Nat) : List (List Int):=coll j fun j=>fcE L i j
noncomputable def fcP (L : List Fun) (i j : Nat) : List (List Int):=coll i (fun i=>fcR L i L.length) ++ fcR L i j
noncomputable def fcA (L : List Fun) : List (List Int):=fcP L L.length 0
section
variable {c d : Cat} {L : List Fun} {i j : Nat} {r t s : List Int}
theorem fcA_eq : fcA L = coll L.length fun i=>fcR L i L.length:=by
  unfold fcA fcP fcR;rw [coll_zero,List.append_nil]
structure ArrF (c d : Cat) (L : List Fun) (r : List Int) : Prop where
  len : r.length = c.ob.toNat + 2
  i0 : 0 ≤ r.getD 0 0
  i1 : (r.getD 0 0).toNat < L.length
  j0 : 0 ≤ r.getD 1 0
  j1 : (r.getD 1 0).toNat < L.length
  nat : r.drop 2 ∈ natA (L.getD (r.getD 0 0).toNat default) (L.getD (r.getD 1 0).toNat default)
theorem hom_comp {d : Cat} (sd : IsCat d) {x y z a b : Int} (ha : a ∈ d.hom x y) (hb : b ∈ d.hom y z) : d.C a b ∈ d.hom x z:=by
  obtain ⟨a0,a1,a2,a3⟩:=Cat.mem_hom.1 ha
  obtain ⟨b0,b1,b2,b3⟩:=Cat.mem_hom.1 hb
  have h:=(sd.toShape.coe a.toNat (by omega)).2 b.toNat (by omega)
  unfold Cat.Entry at h
  rw [Int.toNat_of_nonneg a0,Int.toNat_of_nonneg b0] at h
  rcases h with ⟨h1,h2,h3,h4⟩|⟨h1,_⟩
  · exact Cat.mem_hom.2 ⟨h2.1,h2.2,h3.trans a2,h4.trans b3⟩
  · exact absurd (a3.trans b2.symm) h1
theorem assI {d : Cat} (sd : IsCat d) {x y z w a b e : Int} (ha : a ∈ d.hom x y) (hb : b ∈ d.hom y z) (he : e ∈ d.hom z w) : d.C (d.C a b) e = d.C a (d.C b e):=by
  obtain ⟨a0,a1,a2,a3⟩:=Cat.mem_hom.1 ha
  obtain ⟨b0,b1,b2,b3⟩:=Cat.mem_hom.1 hb
  obtain ⟨e0,e1,e2,e3⟩:=Cat.mem_hom.1 he
  have:=sd.ass a.toNat b.toNat e.toNat (by omega) (by omega) (by omega)
  rw [Int.toNat_of_nonneg a0,Int.toNat_of_nonneg b0,Int.toNat_of_nonneg e0] at this
  exact this (a3.trans b2.symm) (b3.trans e2.symm)
end
end Go.Cats
end
section
namespace Go.Cats
def idemL (c : Cat) (k : Nat) : List Int:=((List.range k).filter fun e : Nat=>decide (c.C e e = e)).map fun e : Nat=>(e : Int)
def KoP (c : Cat) (E : List Int) (i j : Nat) (f : Int) : Prop:=c.C (c.C (E.getD i 0) f) (E.getD j 0) = f
instance {c : Cat} {E : List Int} {i j : Nat} {f : Int} : Decidable (KoP c E i j f):=by unfold KoP;infer_instance
def koF (c : Cat) (E : List Int) (i j : Nat) (C : List Int) (k : Nat) : List (List Int):=((C.take k).filter fun f=>decide (KoP c E i j f)).map fun f=>[(i : Int),(j : Int),f]
def koH (c : Cat) (E : List Int) (i j : Nat) : List Int:=c.hom (c.fr.getD (E.getD i 0).toNat 0) (c.fr.getD (E.getD j 0).toNat 0)
def koE (c : Cat) (E : List Int) (i j : Nat) : List (List Int):=koF c E i j (koH c E i j) (koH c E i j).length
def koR (c : Cat) (E : List Int) (i j : Nat) : List (List Int):=coll j fun j=>koE c E i j
def koP (c : Cat) (E : List Int) (i j : Nat) : List (List Int):=coll i (fun i=>koR c E i E.length) ++ koR c E i j
def koA (c : Cat) (E : List Int) : List (List Int):=koP c E E.length 0
def koU (E : List Int) (i : Nat) : List Int:=[(i : Int),(i : Int),E.getD i 0]
def koM (c : Cat) (r s : List Int) : List Int:=[r.getD 0 0,s.getD 1 0,c.C (r.getD 2 0) (s.getD 2 0)]
def koC (c : Cat) : Cat:=tabC (idemL c c.fr.length).length (koA c (idemL c c.fr.length)) (koU (idemL c c.fr.length)) (koM c)
section
variable {c : Cat} {E C : List Int} {i j k : Nat} {e f : Int} {r : List Int}
theorem idemL_zero (c : Cat) : idemL c 0 = []:=rfl
theorem idemL_yes (h : c.C k k = k) : idemL c (k + 1) = idemL c k ++ [(k : Int)]:=by
  unfold idemL;rw [List.range_succ,List.filter_append,List.map_append,List.filter_cons_of_pos (by simpa using h)];rfl
theorem idemL_no (h : ¬ c.C k k = k) : idemL c (k + 1) = idemL c k:=by
  unfold idemL;rw [List.range_succ,List.filter_append,List.map_append,List.filter_cons_of_neg (by simpa using h)];simp
theorem idemL_len : (idemL c k).length ≤ k:=by
  unfold idemL;rw [List.length_map]
  exact Nat.le_trans (List.length_filter_le _ _) (by rw [List.length_range];exact Nat.le_refl _)
theorem mem_idemL : e ∈ idemL c k ↔ 0 ≤ e ∧ e < k ∧ c.C e e = e:=by
  unfold idemL
  rw [List.mem_map]
  constructor
  · rintro ⟨a,h,rfl⟩
    obtain ⟨h1,h2⟩:=List.mem_filter.1 h
    have h1:=List.mem_range.1 h1
    exact ⟨by omega,by omega,by simpa using h2⟩
  · rintro ⟨h0,h1,h2⟩
    refine ⟨e.toNat,List.mem_filter.2 ⟨List.mem_range.2 (by omega),?_⟩,by omega⟩
    have e1 : ((e.toNat : Nat) : Int) = e:=by omega
    simp only [e1,decide_eq_true_eq];exact h2
theorem idem_hom (sc : IsCat c) (he : e ∈ idemL c c.fr.length) : e ∈ c.hom (c.fr.getD e.toNat 0) (c.fr.getD e.toNat 0):=by
  obtain ⟨h0,h1,h2⟩:=mem_idemL.1 he
  refine Cat.mem_hom.2 ⟨h0,h1,rfl,?_⟩
  have hn:=sc.toShape.neg (f:=e.toNat) (g:=e.toNat) (by omega) (by omega)
  rw [Int.toNat_of_nonneg h0,h2] at hn
  show c.to.getD e.toNat 0 = _
  have hq : ¬ c.T e ≠ c.F e:=fun q=>absurd (hn.2 q) (by omega)
  exact Classical.not_not.1 hq
theorem koF_zero : koF c E i j C 0 = []:=rfl
theorem koF_yes (hk : k < C.length) (h : KoP c E i j (C.getD k 0)) : koF c E i j C (k + 1) = koF c E i j C k ++ [[(i : Int),(j : Int),C.getD k 0]]:=by
  have e1 : C.getD k 0 = C[k]:=by rw [List.getD_eq_getElem?_getD,List.getElem?_eq_getElem hk];rfl
  rw [e1] at h ⊢
  unfold koF
  rw [List.take_succ_eq_append_getElem hk,List.filter_append,List.map_append,List.filter_cons_of_pos (by simpa using h)];rfl
theorem koF_no (hk : k < C.length) (h : ¬ KoP c E i j (C.getD k 0)) : koF c E i j C (k + 1) = koF c E i j C k:=by
  have e1 : C.getD k 0 = C[k]:=by rw [List.getD_eq_getElem?_getD,List.getElem?_eq_getElem hk];rfl
  rw [e1] at h
  unfold koF
  rw [List.take_succ_eq_append_getElem hk,List.filter_append,List.map_append,List.filter_cons_of_neg (by simpa using h)];simp
theorem koF_len : (koF c E i j C k).length ≤ k:=by
  unfold koF;rw [List.length_map]
  exact Nat.le_trans (List.length_filter_le _ _) (by rw [List.length_take];omega)
theorem koP_zero : koP c E 0 0 = []:=rfl
theorem koP_succ : koP c E i (j + 1) = koP c E i j ++ koE c E i j:=by unfold koP koR;rw [coll_succ,List.append_assoc]
theorem koP_next : koP c E i E.length = koP c E (i + 1) 0:=by unfold koP;rw [coll_succ,koR,koR,coll_zero,List.append_nil]
theorem mem_koE : r ∈ koE c E i j ↔ ∃ f,f ∈ koH c E i j ∧ KoP c E i j f ∧ r = [(i : Int),(j : Int),f]:=by
  unfold koE koF
  rw [List.take_length,List.mem_map]
  constructor
  · rintro ⟨f,h,rfl⟩
    obtain ⟨h1,h2⟩:=List.mem_filter.1 h
    exact ⟨f,h1,by simpa using h2,rfl⟩
  · rintro ⟨f,h1,h2,rfl⟩
    exact ⟨f,List.mem_filter.2 ⟨h1,by simpa using h2⟩,rfl⟩
theorem koA_eq : koA c E = coll E.length fun i=>koR c E i E.length:=by unfold koA koP koR;rw [coll_zero,List.append_nil]
theorem mem_koA : r ∈ koA c E ↔ ∃ i j : Nat,∃ f,i < E.length ∧ j < E.length ∧ f ∈ koH c E i j ∧ KoP c E i j f ∧ r = [(i : Int),(j : Int),f]:=by
  rw [koA_eq,mem_coll]
  constructor
  · rintro ⟨i,hi,h⟩
    obtain ⟨j,hj,h⟩:=mem_coll.1 h
    obtain ⟨f,h1,h2,e⟩:=mem_koE.1 h
    exact ⟨i,j,f,hi,hj,h1,h2,e⟩
  · rintro ⟨i,j,f,hi,hj,h1,h2,e⟩
    exact ⟨i,hi,mem_coll.2 ⟨j,hj,mem_koE.2 ⟨f,h1,h2,e⟩⟩⟩
end
section
variable {c : Cat} {i j k : Nat} {f g : Int}
theorem ko_left (sc : IsCat c) {E : List Int} (hE : ∀ e ∈ E,e ∈ idemL c c.fr.length) (hi : i < E.length) (hj : j < E.length) (hf : f ∈ koH c E i j) (h : KoP c E i j f) : c.C (E.getD i 0) f = f ∧ c.C f (E.getD j 0) = f:=by
  have mi:=hE _ (getD_mem (d:=0) hi)
  have mj:=hE _ (getD_mem (d:=0) hj)
  have ei:=idem_hom sc mi
  have ej:=idem_hom sc mj
  have qi:=(mem_idemL.1 mi).2.2
  have qj:=(mem_idemL.1 mj).2.2
  unfold KoP at h
  have h1:=hom_comp sc ei hf
  constructor
  · calc c.C (E.getD i 0) f = c.C (E.getD i 0) (c.C (c.C (E.getD i 0) f) (E.getD j 0)):=by rw [h]
      _ = c.C (c.C (E.getD i 0) (c.C (E.getD i 0) f)) (E.getD j 0):=by rw [assI sc ei h1 ej]
      _ = c.C (c.C (c.C (E.getD i 0) (E.getD i 0)) f) (E.getD j 0):=by rw [assI sc ei ei hf]
      _ = f:=by rw [qi,h]
  · calc c.C f (E.getD j 0) = c.C (c.C (c.C (E.getD i 0) f) (E.getD j 0)) (E.getD j 0):=by rw [h]
      _ = c.C (c.C (E.getD i 0) f) (c.C (E.getD j 0) (E.getD j 0)):=by rw [assI sc h1 ej ej]
      _ = f:=by rw [qj,h]
theorem ko_tab (sc : IsCat c) {E : List Int} (hE : ∀ e ∈ E,e ∈ idemL c c.fr.length) (h8 : E.length ≤ 8) (h40 : (koA c E).length ≤ 40) : TabOK E.length (koA c E) (koU E) (koM c):=by
  refine ⟨h8,h40,?_,fun r hr=>?_,fun r hr=>?_,fun i hi=>⟨?_,rfl,rfl⟩,fun r hr s hs e=>⟨?_,rfl,rfl⟩,fun r hr=>?_,fun r hr=>?_,fun r hr s hs q hq e1 e2=>?_⟩
  · rw [koA_eq]
    refine coll_nodup (fun i _=>coll_nodup (fun j _=>?_) ?_) ?_
    · unfold koE koF
      rw [List.take_length]
      refine (List.Pairwise.filter _ (Cat.hom_nodup c _ _)).map _ ?_
      intro a b h1 h2
      simp only [List.cons.injEq,true_and,and_true] at h2
      exact h1 h2
    · intro j j' x _ _ h h'
      obtain ⟨f,_,_,e⟩:=mem_koE.1 h
      obtain ⟨f',_,_,e'⟩:=mem_koE.1 h'
      rw [e] at e'
      simp only [List.cons.injEq,true_and] at e'
      omega
    · intro j j' x _ _ h h'
      obtain ⟨k,_,h⟩:=mem_coll.1 h
      obtain ⟨k',_,h'⟩:=mem_coll.1 h'
      obtain ⟨f,_,_,e⟩:=mem_koE.1 h
      obtain ⟨f',_,_,e'⟩:=mem_koE.1 h'
      rw [e] at e'
      simp only [List.cons.injEq] at e'
      omega
  · obtain ⟨i,j,f,hi,hj,_,_,rfl⟩:=mem_koA.1 hr
    simp;omega
  · obtain ⟨i,j,f,hi,hj,_,_,rfl⟩:=mem_koA.1 hr
    simp;omega
  · have mi:=hE _ (getD_mem (d:=0) hi)
    have ei:=idem_hom sc mi
    have qi:=(mem_idemL.1 mi).2.2
    exact mem_koA.2 ⟨i,i,E.getD i 0,hi,hi,ei,by unfold KoP;rw [qi,qi],rfl⟩
  · obtain ⟨i,j,f,hi,hj,hf,pf,rfl⟩:=mem_koA.1 hr
    obtain ⟨j',k,g,hj',hk,hg,pg,rfl⟩:=mem_koA.1 hs
    have e : (j : Int) = (j' : Int):=by simpa using e
    have e : j = j':=by omega
    subst e
    obtain ⟨f1,f2⟩:=ko_left sc hE hi hj hf pf
    obtain ⟨g1,g2⟩:=ko_left sc hE hj hk hg pg
    have ei:=idem_hom sc (hE _ (getD_mem (d:=0) hi))
    have ek:=idem_hom sc (hE _ (getD_mem (d:=0) hk))
    refine mem_koA.2 ⟨i,k,c.C f g,hi,hk,hom_comp sc hf hg,?_,rfl⟩
    unfold KoP
    rw [← assI sc ei hf hg,f1,assI sc hf hg ek,g2]
  · obtain ⟨i,j,f,hi,hj,hf,pf,rfl⟩:=mem_koA.1 hr
    have:=(ko_left sc hE hi hj hf pf).1
    unfold koM koU
    simpa using this
  · obtain ⟨i,j,f,hi,hj,hf,pf,rfl⟩:=mem_koA.1 hr
    have:=(ko_left sc hE hi hj hf pf).2
    unfold koM koU
    simpa using this
  · obtain ⟨i,j,f,hi,hj,hf,pf,rfl⟩:=mem_koA.1 hr
    obtain ⟨j',k,g,hj',hk,hg,pg,rfl⟩:=mem_koA.1 hs
    obtain ⟨k',l,h,hk',hl,hh,ph,rfl⟩:=mem_koA.1 hq
    have z1 : (j : Int) = (j' : Int):=by simpa using e1
    have z2 : (k : Int) = (k' : Int):=by simpa using e2
    have y1 : j = j':=by omega
    have y2 : k = k':=by omega
    subst y1
    subst y2
    have:=assI sc hf hg hh
    unfold koM
    simpa using this
theorem koC_cat (sc : IsCat c) (h8 : (idemL c c.fr.length).length ≤ 8) (h40 : (koA c (idemL c c.fr.length)).length ≤ 40) : IsCat (koC c):=(ko_tab sc (fun e he=>he) h8 h40).cat
end
end Go.Cats
end
