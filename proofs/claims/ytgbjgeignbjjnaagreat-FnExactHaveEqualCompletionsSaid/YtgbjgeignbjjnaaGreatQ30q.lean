/- Plain law: the classes of isomorphic objects, from two lists of pairs; the least ones of the classes. -/
import Derived.Test.YtgbjgeignbjjnaaGreatKnx
set_option linter.unusedSimpArgs false
set_option linter.unusedVariables false
namespace Go.Cats
open Go.Eng
theorem joK_at {n : Nat} {ps : List (List Int)} {k w : Nat} (hw : w < n) : (joK n ps (k + 1)).getD w 0 = if (joK n ps k).getD w 0 = (joK n ps k).getD ((ps.getD k []).getD 1 0).toNat 0 then (joK n ps k).getD ((ps.getD k []).getD 0 0).toNat 0 else (joK n ps k).getD w 0:=by
  have hlen:=joK_len n ps k
  rw [joK_succ]
  unfold joI
  rw [List.take_of_length_le (by omega),List.drop_eq_nil_of_le (by omega),List.append_nil]
  have e : ∀ g : Int → Int,((joK n ps k).map g).getD w 0 = g ((joK n ps k).getD w 0):=fun g=>by
    rw [List.getD_eq_getElem?_getD,List.getElem?_map,List.getD_eq_getElem?_getD,List.getElem?_eq_getElem (by omega)];rfl
  exact e _
structure Gen (n : Nat) (R : Nat → Nat → Prop) (ps : List (List Int)) : Prop where
  ok : PrsOk n ps
  refl : ∀ x,x < n → R x x
  symm : ∀ x y,x < n → y < n → R x y → R y x
  trans : ∀ x y z,x < n → y < n → z < n → R x y → R y z → R x z
  pair : ∀ k,k < ps.length → R ((ps.getD k []).getD 0 0).toNat ((ps.getD k []).getD 1 0).toNat
  all : ∀ x y,x < n → y < n → R x y → x = y ∨ ∃ k,k < ps.length ∧ ((((ps.getD k []).getD 0 0).toNat = x ∧ ((ps.getD k []).getD 1 0).toNat = y) ∨ (((ps.getD k []).getD 0 0).toNat = y ∧ ((ps.getD k []).getD 1 0).toNat = x))
theorem Gen.to {n : Nat} {R : Nat → Nat → Prop} {ps : List (List Int)} (h : Gen n R ps) : ∀ k,k ≤ ps.length → ∀ x y,x < n → y < n → (joK n ps k).getD x 0 = (joK n ps k).getD y 0 → R x y
  | 0,_,x,y,hx,hy,e=>by
    have e : (nums n).getD x 0 = (nums n).getD y 0:=e
    rw [nums_at hx,nums_at hy] at e
    have : x = y:=by omega
    rw [this];exact h.refl y hy
  | k + 1,hk,x,y,hx,hy,e=>by
    have ih:=h.to k (by omega)
    obtain ⟨_,p1,p2⟩:=h.ok k (by omega)
    have hp:=h.pair k (by omega)
    rw [joK_at hx,joK_at hy] at e
    have ha : ((ps.getD k []).getD 0 0).toNat < n:=by omega
    have hb : ((ps.getD k []).getD 1 0).toNat < n:=by omega
    generalize ((ps.getD k []).getD 0 0).toNat = a at *
    generalize ((ps.getD k []).getD 1 0).toNat = b at *
    by_cases q1 : (joK n ps k).getD x 0 = (joK n ps k).getD b 0
    · rw [if_pos q1] at e
      have r1:=ih x b hx hb q1
      by_cases q2 : (joK n ps k).getD y 0 = (joK n ps k).getD b 0
      · exact h.trans x b y hx hb hy r1 (h.symm y b hy hb (ih y b hy hb q2))
      · rw [if_neg q2] at e
        exact h.trans x b y hx hb hy r1 (h.trans b a y hb ha hy (h.symm a b ha hb hp) (ih a y ha hy e))
    · rw [if_neg q1] at e
      by_cases q2 : (joK n ps k).getD y 0 = (joK n ps k).getD b 0
      · rw [if_pos q2] at e
        exact h.trans x a y hx ha hy (ih x a hx ha e) (h.trans a b y ha hb hy hp (h.symm y b hy hb (ih y b hy hb q2)))
      · rw [if_neg q2] at e
        exact ih x y hx hy e
theorem joK_mono {n : Nat} {ps : List (List Int)} {k x y : Nat} (hx : x < n) (hy : y < n) (e : (joK n ps k).getD x 0 = (joK n ps k).getD y 0) : (joK n ps (k + 1)).getD x 0 = (joK n ps (k + 1)).getD y 0:=by
  rw [joK_at hx,joK_at hy,e]
theorem joK_pair {n : Nat} {ps : List (List Int)} (h : PrsOk n ps) : ∀ k,k ≤ ps.length → ∀ j,j < k → (joK n ps k).getD ((ps.getD j []).getD 0 0).toNat 0 = (joK n ps k).getD ((ps.getD j []).getD 1 0).toNat 0
  | 0,_,j,hj=>by omega
  | k + 1,hk,j,hj=>by
    obtain ⟨_,p1,p2⟩:=h j (by omega)
    by_cases e : j = k
    · subst e
      rw [joK_at (by omega),joK_at (by omega),if_pos (c:=(joK n ps j).getD ((ps.getD j []).getD 1 0).toNat 0 = (joK n ps j).getD ((ps.getD j []).getD 1 0).toNat 0) rfl]
      split <;> rfl
    · exact joK_mono (by omega) (by omega) (joK_pair h k (by omega) j (by omega))
theorem Gen.iff {n : Nat} {R : Nat → Nat → Prop} {ps : List (List Int)} (h : Gen n R ps) {x y : Nat} (hx : x < n) (hy : y < n) : (joK n ps ps.length).getD x 0 = (joK n ps ps.length).getD y 0 ↔ R x y:=by
  refine ⟨h.to ps.length (Nat.le_refl _) x y hx hy,fun r=>?_⟩
  rcases h.all x y hx hy r with rfl|⟨k,hk,⟨rfl,rfl⟩|⟨rfl,rfl⟩⟩
  · rfl
  · exact joK_pair h.ok ps.length (Nat.le_refl _) k hk
  · exact (joK_pair h.ok ps.length (Nat.le_refl _) k hk).symm
theorem Gen.cls {n : Nat} {R : Nat → Nat → Prop} {ps qs : List (List Int)} (h : Gen n R ps) (k : Gen n R qs) : (clsI (joK n ps ps.length) n).1 = (clsI (joK n qs qs.length) n).1 :=
  (clsI_congr (fun i j hi hj=>by rw [h.iff hi hj,k.iff hi hj]) n (Nat.le_refl n)).1
/-! ### Pairs one by one -/
theorem jnK_pre (n : Nat) (ps qs : List (List Int)) : ∀ k,k ≤ ps.length → jnK n (ps ++ qs) k = jnK n ps k
  | 0,_=>rfl
  | k + 1,hk=>by
    have e : (ps ++ qs).getD k [] = ps.getD k []:=by
      rw [List.getD_eq_getElem?_getD,List.getElem?_append_left (by omega),← List.getD_eq_getElem?_getD]
    rw [jnK,jnK,jnK_pre n ps qs k (by omega),e]
theorem jnK_snoc (n : Nat) (ps : List (List Int)) (x y : Int) : jnK n (ps ++ [[x,y]]) (ps ++ [[x,y]]).length = jn (jnK n ps ps.length) x.toNat y.toNat:=by
  have e : (ps ++ [[x,y]]).getD ps.length [] = [x,y]:=by
    rw [List.getD_eq_getElem?_getD,List.getElem?_append_right (Nat.le_refl _),Nat.sub_self];rfl
  rw [List.length_append,show [[x,y]].length = 1 from rfl,jnK,e,jnK_pre n ps _ _ (Nat.le_refl _)]
  rfl
/-! ### The pairs of isomorphic objects -/
open Classical in
noncomputable def isoP (c : Cat) (i : Nat) : List (List Int):=coll i fun f=>if 0 ≤ c.inv f then [[c.fr.getD f 0,c.to.getD f 0]] else []
theorem isoP_zero (c : Cat) : isoP c 0 = []:=rfl
theorem isoP_yes {c : Cat} {i : Nat} (h : 0 ≤ c.inv i) : isoP c (i + 1) = isoP c i ++ [[c.fr.getD i 0,c.to.getD i 0]]:=by unfold isoP;rw [coll_succ,if_pos h]
theorem isoP_no {c : Cat} {i : Nat} (h : ¬ 0 ≤ c.inv i) : isoP c (i + 1) = isoP c i:=by unfold isoP;rw [coll_succ,if_neg h,List.append_nil]
theorem mem_isoP {c : Cat} {i : Nat} {r : List Int} : r ∈ isoP c i ↔ ∃ f : Nat,f < i ∧ 0 ≤ c.inv f ∧ r = [c.fr.getD f 0,c.to.getD f 0]:=by
  unfold isoP
  rw [mem_coll]
  constructor
  · rintro ⟨j,hj,h⟩
    split at h
    · rename_i k;exact ⟨j,hj,k,List.mem_singleton.1 h⟩
    · cases h
  · rintro ⟨j,hj,k,rfl⟩
    exact ⟨j,hj,by rw [if_pos k];exact List.mem_singleton.2 rfl⟩
open Classical in
noncomputable def alkR (c : Cat) (x y : Nat) : List (List Int):=coll y fun y=>if c.IsoO x y then [[(y : Int),(x : Int)]] else []
noncomputable def alkP (c : Cat) (x : Nat) : List (List Int):=coll x fun x=>alkR c x x
theorem alkR_zero (c : Cat) (x : Nat) : alkR c x 0 = []:=rfl
theorem alkP_zero (c : Cat) : alkP c 0 = []:=rfl
theorem alkR_yes {c : Cat} {x y : Nat} (h : c.IsoO x y) : alkR c x (y + 1) = alkR c x y ++ [[(y : Int),(x : Int)]]:=by unfold alkR;rw [coll_succ,if_pos h]
theorem alkR_no {c : Cat} {x y : Nat} (h : ¬ c.IsoO x y) : alkR c x (y + 1) = alkR c x y:=by unfold alkR;rw [coll_succ,if_neg h,List.append_nil]
theorem alkP_succ (c : Cat) (x : Nat) : alkP c (x + 1) = alkP c x ++ alkR c x x:=coll_succ _ _
theorem mem_alkR {c : Cat} {x y : Nat} {r : List Int} : r ∈ alkR c x y ↔ ∃ z : Nat,z < y ∧ c.IsoO x z ∧ r = [(z : Int),(x : Int)]:=by
  unfold alkR
  rw [mem_coll]
  constructor
  · rintro ⟨j,hj,h⟩
    split at h
    · rename_i k;exact ⟨j,hj,k,List.mem_singleton.1 h⟩
    · cases h
  · rintro ⟨j,hj,k,rfl⟩
    exact ⟨j,hj,by rw [if_pos k];exact List.mem_singleton.2 rfl⟩
theorem mem_alkP {c : Cat} {n : Nat} {r : List Int} : r ∈ alkP c n ↔ ∃ x y : Nat,x < n ∧ y < x ∧ c.IsoO x y ∧ r = [(y : Int),(x : Int)]:=by
  unfold alkP
  rw [mem_coll]
  constructor
  · rintro ⟨x,hx,h⟩
    obtain ⟨y,hy,k,e⟩:=mem_alkR.1 h
    exact ⟨x,y,hx,hy,k,e⟩
  · rintro ⟨x,y,hx,hy,k,e⟩
    exact ⟨x,hx,mem_alkR.2 ⟨y,hy,k,e⟩⟩
theorem alkR_len (c : Cat) (x y : Nat) : (alkR c x y).length ≤ y:=by
  unfold alkR
  exact Nat.le_trans (coll_length_le (k:=1) fun j _=>by split <;> simp) (by omega)
theorem alkP_len (c : Cat) (n : Nat) : (alkP c n).length ≤ n * n:=coll_length_le fun x hx=>Nat.le_trans (alkR_len c x x) (by omega)
section
variable {c : Cat}
theorem isoP_gen (s : IsCat c) : Gen c.ob.toNat (fun x y=>c.IsoO x y) (isoP c c.fr.length):=by
  have row : ∀ k,k < (isoP c c.fr.length).length → ∃ f : Nat,f < c.fr.length ∧ 0 ≤ c.inv f ∧ (isoP c c.fr.length).getD k [] = [c.fr.getD f 0,c.to.getD f 0]:=fun k hk=>mem_isoP.1 (getD_mem hk)
  have hF:=fun (f : Nat) (hf : f < c.fr.length)=>s.toShape.frw f hf
  have hT:=fun (f : Nat) (hf : f < c.fr.length)=>s.toShape.tow f (by rw [s.toShape.tol];exact hf)
  refine ⟨fun k hk=>?_,fun x hx=>s.iso_refl (by omega) (by omega),fun x y _ _ h=>h.symm,fun x y z _ _ _ h k=>s.iso_trans h k,fun k hk=>?_,fun x y hx hy r=>?_⟩
  · obtain ⟨f,hf,h0,e⟩:=row k hk
    have:=hF f hf;have:=hT f hf
    rw [e]
    refine ⟨rfl,⟨?_,?_⟩,?_,?_⟩ <;> simp only [List.getD_cons_zero,List.getD_cons_succ] <;> omega
  · obtain ⟨f,hf,h0,e⟩:=row k hk
    have:=hF f hf;have:=hT f hf
    rw [e]
    simp only [List.getD_cons_zero,List.getD_cons_succ]
    refine ⟨f,Cat.mem_hom.2 ⟨by omega,by omega,?_,?_⟩,h0⟩
    · show c.fr.getD _ 0 = _
      rw [Int.toNat_natCast];omega
    · show c.to.getD _ 0 = _
      rw [Int.toNat_natCast];omega
  · obtain ⟨f,hf,h0⟩:=r
    obtain ⟨f0,f1,f2,f3⟩:=Cat.mem_hom.1 hf
    obtain ⟨k,hk,e⟩:=mem_getD (d:=[]) (mem_isoP.2 ⟨f.toNat,(by omega : f.toNat < c.fr.length),by rw [show ((f.toNat : Nat) : Int) = f by omega];exact h0,rfl⟩)
    have f2 : c.fr.getD f.toNat 0 = x:=f2
    have f3 : c.to.getD f.toNat 0 = y:=f3
    refine .inr ⟨k,hk,.inl ?_⟩
    rw [e,f2,f3]
    exact ⟨rfl,rfl⟩
theorem alkP_gen (s : IsCat c) : Gen c.ob.toNat (fun x y=>c.IsoO x y) (alkP c c.ob.toNat):=by
  have row : ∀ k,k < (alkP c c.ob.toNat).length → ∃ x y : Nat,x < c.ob.toNat ∧ y < x ∧ c.IsoO x y ∧ (alkP c c.ob.toNat).getD k [] = [(y : Int),(x : Int)]:=fun k hk=>mem_alkP.1 (getD_mem hk)
  refine ⟨fun k hk=>?_,fun x hx=>s.iso_refl (by omega) (by omega),fun x y _ _ h=>h.symm,fun x y z _ _ _ h k=>s.iso_trans h k,fun k hk=>?_,fun x y hx hy r=>?_⟩
  · obtain ⟨x,y,hx,hy,h0,e⟩:=row k hk
    rw [e]
    refine ⟨rfl,⟨?_,?_⟩,?_,?_⟩ <;> simp only [List.getD_cons_zero,List.getD_cons_succ] <;> omega
  · obtain ⟨x,y,hx,hy,h0,e⟩:=row k hk
    rw [e]
    simp only [List.getD_cons_zero,List.getD_cons_succ,Int.toNat_natCast]
    exact h0.symm
  · rcases Nat.lt_trichotomy x y with q | q | q
    · obtain ⟨k,hk,e⟩:=mem_getD (d:=[]) (mem_alkP.2 ⟨y,x,hy,q,r.symm,rfl⟩)
      refine .inr ⟨k,hk,.inl ?_⟩
      rw [e];simp
    · exact .inl q
    · obtain ⟨k,hk,e⟩:=mem_getD (d:=[]) (mem_alkP.2 ⟨x,y,hx,q,r,rfl⟩)
      refine .inr ⟨k,hk,.inr ?_⟩
      rw [e];simp
end
noncomputable def isoC (c : Cat) : List Int:=(clsI (joK c.ob.toNat (isoP c c.fr.length) (isoP c c.fr.length).length) c.ob.toNat).1
theorem isoC_alk {c : Cat} (s : IsCat c) : (clsI (joK c.ob.toNat (alkP c c.ob.toNat) (alkP c c.ob.toNat).length) c.ob.toNat).1 = isoC c:=(alkP_gen s).cls (isoP_gen s)
theorem isoC_len (c : Cat) : (isoC c).length = c.ob.toNat:=(clsI_facts _ _).1
/-! ### The least ones of the classes -/
def Fst (L : List Int) (x : Nat) : Prop:=∀ y,y < x → L.getD y 0 ≠ L.getD x 0
theorem fst_idx {L : List Int} {x : Nat} (hx : x < L.length) : idxOf L (L.getD x 0) = x ↔ Fst L x:=by
  constructor
  · intro h y hy e
    have h1 : scan y (idxO L (L.getD x 0)) = none ∨ ¬ scan y (idxO L (L.getD x 0)) = none:=Classical.em _
    -- the first place is not behind y
    have key : ∀ k,k ≤ y → (∃ j,j ≤ k ∧ L.getD j 0 = L.getD x 0) → ∃ j,j ≤ y ∧ idxOf L (L.getD x 0) = j:=by
      intro k
      induction k using Nat.strongRecOn with
      | ind k ih =>
        intro hk hj
        cases hs : scan k (idxO L (L.getD x 0)) with
        | none =>
          obtain ⟨j,hj,ej⟩:=hj
          by_cases q : j = k
          · subst q
            exact ⟨j,hk,idxOf_hit hs (by omega) ej⟩
          · have:=scan_none.1 hs j (by omega)
            unfold idxO at this
            rw [if_pos ej] at this
            cases this
        | some r =>
          obtain ⟨i,hi,ki⟩:=scan_some hs
          unfold idxO at ki
          split at ki
          · rename_i q
            exact ih i hi (by omega) ⟨i,Nat.le_refl _,q⟩
          · cases ki
    obtain ⟨j,hj,ej⟩:=key y (Nat.le_refl _) ⟨y,Nat.le_refl _,e⟩
    rw [h] at ej
    omega
  · intro h
    refine idxOf_hit (scan_none.2 fun y hy=>idxO_f (h y hy)) hx rfl
theorem clsI_pre (l : List Int) : ∀ {i j : Nat},i ≤ j → ∃ R,(clsI l j).1 = (clsI l i).1 ++ R
  | i,0,h=>⟨[],by rw [show i = 0 by omega,List.append_nil]⟩
  | i,j + 1,h=>by
    by_cases e : i = j + 1
    · exact ⟨[],by rw [e,List.append_nil]⟩
    · obtain ⟨R,hR⟩:=clsI_pre l (show i ≤ j by omega)
      by_cases q : idxOf (clsI l j).2 (l.getD j 0) < 0
      · exact ⟨R ++ [((clsI l j).2.length : Int)],by rw [clsI_new q,hR,List.append_assoc]⟩
      · exact ⟨R ++ [idxOf (clsI l j).2 (l.getD j 0)],by rw [clsI_old q,hR,List.append_assoc]⟩
theorem clsI_at (l : List Int) {n i : Nat} (hi : i < n) : ((clsI l n).1.getD i 0 = ((clsI l i).2.length : Int) ∧ (clsI l (i + 1)).2.length = (clsI l i).2.length + 1) ∨ ((0 ≤ (clsI l n).1.getD i 0 ∧ (clsI l n).1.getD i 0 < (clsI l i).2.length) ∧ (clsI l (i + 1)).2.length = (clsI l i).2.length):=by
  obtain ⟨R,hR⟩:=clsI_pre l (show i + 1 ≤ n by omega)
  have hl:=(clsI_facts l i).1
  have e : ∀ (v : Int) (M : List Int),(((clsI l i).1 ++ [v]) ++ M).getD i 0 = v:=fun v M=>by
    rw [List.append_assoc,List.getD_eq_getElem?_getD,List.getElem?_append_right (by omega),hl,Nat.sub_self];rfl
  by_cases q : idxOf (clsI l i).2 (l.getD i 0) < 0
  · rw [hR,clsI_new q]
    simp only [e,List.length_append]
    exact .inl ⟨trivial,rfl⟩
  · rw [hR,clsI_old q]
    simp only [e]
    have:=idxOf_of (l:=(clsI l i).2) (n:=l.getD i 0) (by omega)
    exact .inr ⟨⟨by omega,by omega⟩,trivial⟩
theorem cls_first (l : List Int) {n : Nat} : ∀ i,i ≤ n → (∀ j,j < i → 0 ≤ (clsI l n).1.getD j 0 ∧ (clsI l n).1.getD j 0 < (clsI l i).2.length) ∧ (∀ v : Nat,v < (clsI l i).2.length → ∃ j,j < i ∧ (clsI l n).1.getD j 0 = v) ∧ (selP (Fst (clsI l n).1) i).length = (clsI l i).2.length
  | 0,_=>⟨fun j hj=>by omega,fun v hv=>by rw [clsI_zero] at hv;simp at hv,rfl⟩
  | i + 1,hi=>by
    obtain ⟨h1,h2,h3⟩:=cls_first (n:=n) l i (by omega)
    rcases clsI_at l (show i < n by omega) with ⟨e1,e2⟩|⟨e1,e2⟩
    · have hf : Fst (clsI l n).1 i:=fun y hy q=>by
        have:=h1 y hy
        rw [q,e1] at this;omega
      refine ⟨fun j hj=>?_,fun v hv=>?_,by rw [selP_yes hf,List.length_append,h3,e2];rfl⟩
      · by_cases q : j = i
        · subst q;rw [e1,e2];omega
        · have:=h1 j (by omega);omega
      · by_cases q : v = (clsI l i).2.length
        · exact ⟨i,by omega,by rw [e1,q]⟩
        · obtain ⟨j,hj,e⟩:=h2 v (by omega);exact ⟨j,by omega,e⟩
    · have hf : ¬ Fst (clsI l n).1 i:=fun h=>by
        obtain ⟨j,hj,e⟩:=h2 ((clsI l n).1.getD i 0).toNat (by omega)
        exact h j hj (by rw [e];omega)
      refine ⟨fun j hj=>?_,fun v hv=>?_,by rw [selP_no hf,h3,e2]⟩
      · by_cases q : j = i
        · subst q;rw [e2];omega
        · have:=h1 j (by omega);omega
      · obtain ⟨j,hj,e⟩:=h2 v (by omega);exact ⟨j,by omega,e⟩
theorem cls_lead (l : List Int) {n i : Nat} (hi : i < n) : (clsI l n).1.getD i 0 = ((selP (Fst (clsI l n).1) i).length : Int) ↔ Fst (clsI l n).1 i:=by
  obtain ⟨h1,h2,h3⟩:=cls_first l (n:=n) i (by omega)
  rw [h3]
  constructor
  · intro e y hy q
    have:=h1 y hy
    rw [q,e] at this;omega
  · intro h
    rcases clsI_at l hi with ⟨e1,_⟩|⟨e1,_⟩
    · exact e1
    · obtain ⟨j,hj,e⟩:=h2 ((clsI l n).1.getD i 0).toNat (by omega)
      exact absurd (show (clsI l n).1.getD j 0 = (clsI l n).1.getD i 0 by omega) (h j hj)
noncomputable def skO (c : Cat) (i : Nat) : List Int:=selP (Fst (isoC c)) i
noncomputable def skA (c : Cat) : List Int:=fullS c (skO c c.ob.toNat)
noncomputable def skC (c : Cat) : Cat:=subC c (skA c)
theorem skC_cat {c : Cat} (s : IsCat c) : IsCat (skC c):=subC_cat s (full_sub s _)
end Go.Cats
