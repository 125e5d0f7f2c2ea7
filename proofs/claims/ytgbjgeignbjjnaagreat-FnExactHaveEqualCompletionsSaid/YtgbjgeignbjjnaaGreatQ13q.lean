/- The reference: colours of arrows that isomorphisms keep. -/
import Derived.Test.YtgbjgeignbjjnaaGreatQ11q
import Derived.Test.YtgbjgeignbjjnaaGreatQ12q
set_option linter.unusedSimpArgs false
set_option linter.unusedVariables false
set_option maxRecDepth 100000
set_option maxHeartbeats 16000000
namespace Go.Eng
open Go Go.Proofs Go.Cats
attribute [local go_sem] List.set_cons_zero List.set_cons_succ
/-! ### What the loops have built -/
def cP (c : Cat) : Nat → List Int
  | 0=>List.replicate c.fr.length 0
  | f + 1=>if c.id.getD (c.fr.getD f 0).toNat 0 = f then (cP c f).set f 1 else cP c f
@[go_sem] theorem cP_zero (c : Cat) : cP c 0 = List.replicate c.fr.length 0:=rfl
theorem cP_len (c : Cat) : ∀ f,(cP c f).length = c.fr.length
  | 0=>List.length_replicate
  | f + 1=>by rw [cP];split;rw [List.length_set];all_goals exact cP_len c f
theorem cP_at (c : Cat) {j : Nat} (hj : j < c.fr.length) : ∀ f,(cP c f).getD j 0 = if j < f ∧ c.id.getD (c.fr.getD j 0).toNat 0 = j then 1 else 0
  | 0=>by rw [cP,List.getD_eq_getElem?_getD,List.getElem?_replicate,if_pos hj,if_neg (by omega)];rfl
  | f + 1=>by
    have ih:=cP_at c hj f
    have hl:=cP_len c f
    rw [cP]
    by_cases q : f = j
    · subst q
      split
      · rename_i h;rw [if_pos ⟨by omega,h⟩,List.getD_eq_getElem?_getD,List.getElem?_set_self (by omega)];rfl
      · rename_i h;rw [ih,if_neg (by omega),if_neg fun q=>h q.2]
    · have e : (j < f + 1 ∧ c.id.getD (c.fr.getD j 0).toNat 0 = j) ↔ (j < f ∧ c.id.getD (c.fr.getD j 0).toNat 0 = j):=by omega
      rw [show (if j < f + 1 ∧ c.id.getD (c.fr.getD j 0).toNat 0 = j then (1 : Int) else 0) = if j < f ∧ c.id.getD (c.fr.getD j 0).toNat 0 = j then 1 else 0 by simp only [e],← ih]
      split
      · rw [List.getD_eq_getElem?_getD,List.getElem?_set_ne q,← List.getD_eq_getElem?_getD]
      · rfl
theorem cP_end (c : Cat) : cP c c.fr.length = col0 c:=by
  refine List.ext_getElem (by rw [cP_len];simp [col0]) fun j h1 h2=>?_
  have hj : j < c.fr.length:=by rw [cP_len] at h1;exact h1
  have e1:=cP_at c hj c.fr.length
  have e2 : (col0 c).getD j 0 = if c.id.getD (c.fr.getD j 0).toNat 0 = j then 1 else 0:=by unfold col0;rw [map_range_at hj]
  rw [List.getD_eq_getElem?_getD,List.getElem?_eq_getElem h1] at e1
  rw [List.getD_eq_getElem?_getD,List.getElem?_eq_getElem h2] at e2
  simp only [Option.getD_some] at e1 e2
  rw [e1,e2]
  by_cases q : c.id.getD (c.fr.getD j 0).toNat 0 = j
  · rw [if_pos ⟨hj,q⟩,if_pos q]
  · rw [if_neg fun h=>q h.2,if_neg q]
def lkN (c : Cat) (cc : List Int) : Nat → List (List Int)
  | 0=>[]
  | f + 1=>lkN c cc f ++ [Go.Cats.look c cc f]
@[go_sem] theorem lkN_zero (c : Cat) (cc : List Int) : lkN c cc 0 = []:=rfl
theorem lkN_eq (c : Cat) (cc : List Int) : ∀ n,lkN c cc n = (List.range n).map (Go.Cats.look c cc)
  | 0=>rfl
  | n + 1=>by rw [lkN,lkN_eq c cc n,List.range_succ,List.map_append];rfl
theorem lkN_all (c d : Cat) (cc dd : List Int) : lkN c cc c.fr.length ++ lkN d dd d.fr.length = lookAll c d cc dd:=by rw [lkN_eq,lkN_eq];rfl
theorem look_len {c : Cat} (sc : Shape c) (cc : List Int) (f : Nat) : (Go.Cats.look c cc f).length ≤ 400000:=by
  have m40:=sc.m40
  have gl : (coll c.fr.length (lookE c cc f)).length ≤ c.fr.length * 2:=coll_length_le fun i _=>lookE_len c cc f i
  have hsl:=srt_len (coll c.fr.length (lookE c cc f))
  have hsr : ∀ i,i < (srt (coll c.fr.length (lookE c cc f))).length → ((srt (coll c.fr.length (lookE c cc f))).getD i []).length ≤ 4096:=fun i hi=>by rw [lookE_rows ((srt_perm _).mem_iff.1 (getD_mem (d:=[]) hi))];omega
  have hfl:=flat_le hsr _ (Nat.le_refl _)
  rw [List.take_length] at hfl
  unfold Go.Cats.look
  rw [List.length_cons]
  omega
theorem lookAll_row {c d : Cat} (sc : Shape c) (sd : Shape d) (cc dd : List Int) {r : List Int} (h : r ∈ lookAll c d cc dd) : r.length ≤ 400000:=by
  unfold lookAll at h
  rcases List.mem_append.1 h with h|h <;> obtain ⟨f,_,rfl⟩:=List.mem_map.1 h
  · exact look_len sc cc f
  · exact look_len sd dd f
def kzN (Z : Zs) : Nat → Zs
  | 0=>[]
  | k + 1=>if fnd ((kzN Z k).map (·.2)) ((Z.map (·.2)).getD k []) < 0 then kzN Z k ++ [((Z.map (·.1)).getD k (.slice none 0 0),(Z.map (·.2)).getD k [])] else kzN Z k
@[go_sem] theorem kzN_zero (Z : Zs) : kzN Z 0 = []:=rfl
theorem kzN_snd (Z : Zs) : ∀ k,(kzN Z k).map (·.2) = kindsN (Z.map (·.2)) k
  | 0=>rfl
  | k + 1=>by
    rw [kzN,kindsN,← kzN_snd Z k]
    split
    · rw [List.map_append];rfl
    · rfl
theorem kzN_mem (Z : Zs) : ∀ k,k ≤ Z.length → ∀ p ∈ kzN Z k,p ∈ Z
  | 0,_,p,hp=>by cases hp
  | k + 1,h,p,hp=>by
    rw [kzN] at hp
    split at hp
    · rcases List.mem_append.1 hp with hp | hp
      · exact kzN_mem Z k (by omega) p hp
      · rw [List.mem_singleton] at hp;subst hp;exact zs_at (by omega)
    · exact kzN_mem Z k (by omega) p hp
theorem kzN_len (Z : Zs) : ∀ k,(kzN Z k).length ≤ k
  | 0=>Nat.le_refl _
  | k + 1=>by
    have:=kzN_len Z k
    rw [kzN]
    split
    · rw [List.length_append,List.length_singleton];omega
    · omega
def aN (K L : List (List Int)) (m : Nat) : Nat → List Int
  | 0=>[]
  | k + 1=>if k < m then aN K L m k ++ [fnd K (L.getD k [])] else aN K L m k
def bN (K L : List (List Int)) (m : Nat) : Nat → List Int
  | 0=>[]
  | k + 1=>if k < m then bN K L m k else bN K L m k ++ [fnd K (L.getD k [])]
@[go_sem] theorem aN_zero (K L : List (List Int)) (m : Nat) : aN K L m 0 = []:=rfl
@[go_sem] theorem bN_zero (K L : List (List Int)) (m : Nat) : bN K L m 0 = []:=rfl
theorem aN_low (K L : List (List Int)) (m : Nat) : ∀ k,k ≤ m → aN K L m k = (List.range k).map fun j=>fnd K (L.getD j [])
  | 0,_=>rfl
  | k + 1,h=>by rw [aN,if_pos (by omega),aN_low K L m k (by omega),List.range_succ,List.map_append];rfl
theorem aN_high (K L : List (List Int)) (m : Nat) : ∀ k,aN K L m (m + k) = (List.range m).map fun j=>fnd K (L.getD j [])
  | 0=>aN_low K L m m (Nat.le_refl _)
  | k + 1=>by rw [← Nat.add_assoc,aN,if_neg (by omega),aN_high K L m k]
theorem bN_low (K L : List (List Int)) (m : Nat) : ∀ k,k ≤ m → bN K L m k = []
  | 0,_=>rfl
  | k + 1,h=>by rw [bN,if_pos (by omega),bN_low K L m k (by omega)]
theorem bN_high (K L : List (List Int)) (m : Nat) : ∀ k,bN K L m (m + k) = (List.range k).map fun j=>fnd K (L.getD (m + j) [])
  | 0=>bN_low K L m m (Nat.le_refl _)
  | k + 1=>by rw [← Nat.add_assoc,bN,if_neg (by omega),bN_high K L m k,List.range_succ,List.map_append];rfl
theorem aN_end (c d : Cat) (cc dd : List Int) : aN (kindsA c d cc dd) (lookAll c d cc dd) c.fr.length (c.fr.length + d.fr.length) = colA c d cc dd:=by
  rw [aN_high]
  unfold colA
  exact List.map_congr_left fun f hf=>by rw [lookAll_a (List.mem_range.1 hf)]
theorem bN_end (c d : Cat) (cc dd : List Int) : bN (kindsA c d cc dd) (lookAll c d cc dd) c.fr.length (c.fr.length + d.fr.length) = colB c d cc dd:=by
  rw [bN_high]
  unfold colB
  exact List.map_congr_left fun f hf=>by rw [lookAll_b (List.mem_range.1 hf)]
theorem aN_len (K L : List (List Int)) (m : Nat) : ∀ k,(aN K L m k).length ≤ k
  | 0=>Nat.le_refl _
  | k + 1=>by
    have:=aN_len K L m k
    rw [aN]
    split
    · rw [List.length_append,List.length_singleton];omega
    · omega
theorem bN_len (K L : List (List Int)) (m : Nat) : ∀ k,(bN K L m k).length ≤ k
  | 0=>Nat.le_refl _
  | k + 1=>by
    have:=bN_len K L m k
    rw [bN]
    split
    · omega
    · rw [List.length_append,List.length_singleton];omega
theorem sp_l02Unit_k {c : Cat} {f : Nat} {v : Bool} (hs : Shape c) (hf : f < c.fr.length) (h : decide (c.id.getD (c.fr.getD f 0).toNat 0 = f) = v) : Spec Tryz.prog 69 [catV c,iv f] [] (bv v) []:=by
  subst h
  exact sp_l02Unit hs hf
theorem sp_l10Alike_k {a b : List Int} {v : Bool} (ha : a.length ≤ 1048576) (hb : b.length ≤ 1048576) (h : dec (AlikeP a b) = v) : Spec Tryz.prog 72 [.bor [] (ints a),.bor [] (ints b)] [] (bv v) []:=by
  subst h
  exact sp_l10Alike ha hb
end Go.Eng
