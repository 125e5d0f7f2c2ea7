/- Isomorphisms by the program: the first one. -/
import Derived.Test.YtmpopmololpaoaaGreatKdx
import Derived.Test.YtmpopmololpaoaaGreatKex
import Derived.Test.YtmpopmololpaoaaGreatKix
import Derived.Test.YtmpopmololpaoaaGreatEngFtq
import Derived.Test.YtmpopmololpaoaaGreatQ04q
set_option linter.unusedSimpArgs false
set_option linter.unusedVariables false
set_option maxRecDepth 100000
set_option maxHeartbeats 16000000
namespace Go.Eng
open Go Go.Proofs Go.Cats
attribute [local go_sem] List.set_cons_zero List.set_cons_succ
theorem view0L_cat (c : Cat) {V : List Nat} {rs : Nat → Rs} : view0L V rs [iv c.ob, .bor [] (ints c.fr), .bor [] (ints c.to), .bor [] (ints c.id), .bor [] (intss c.co)] (catD c) :=
  ⟨_, _, rfl, .inl rfl, _, _, rfl, ⟨rfl, tagV_nil _, fun p hp => by cases hp⟩, _, _, rfl, ⟨rfl, tagV_nil _, fun p hp => by cases hp⟩, _, _, rfl, ⟨rfl, tagV_nil _, fun p hp => by cases hp⟩, _, _, rfl, ⟨rfl, tagV_nil _, fun p hp => by cases hp⟩, rfl⟩
theorem Imp.lendCat {X : Cx} {σ : Ss} (k i cv : Nat) (c : Cat) (hk : lk σ.tm k = .ptr i 0) (hi : rsL σ.rs i = ⟨cv, .box [iv c.ob, .bor [] (ints c.fr), .bor [] (ints c.to), .bor [] (ints c.id), .bor [] (intss c.co)]⟩) (hcv : 1 ≤ cv) : Imp X σ ⟨(k, .bptr [(i, cv)] (catD c)) :: σ.tm, σ.rs, σ.nx⟩ := by
  have h := Imp.lendPtr (X := X) (σ := σ) k i 0 (catD c) [i] hk ⟨List.mem_singleton.2 rfl, .inl ⟨_, by rw [hi], view0L_cat c⟩⟩ (fun j hj => by rw [List.mem_singleton.1 hj, hi]; exact hcv)
  rw [List.map_cons, List.map_nil, hi] at h
  exact h
structure _root_.Go.Cats.IYes (c d : Cat) (g : Fun) : Prop where
  src : IsCat c
  tgt : IsCat d
  small : c.fr.length ≤ 16 ∧ d.fr.length ≤ 16
  ob : c.ob = d.ob
  ar : c.fr.length = d.fr.length
  fst : ∃ D, funX c d true c.ob.toNat [] = g :: D
end Go.Eng
