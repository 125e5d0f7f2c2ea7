/- Several texts in one: R21, R22. -/
import Derived.Test.YtmpopmololpaoaaGreatKacx
set_option linter.unusedSimpArgs false
set_option linter.unusedVariables false
set_option maxRecDepth 100000
set_option maxHeartbeats 16000000
section
namespace Go.Eng
open Go Go.Proofs Go.Cats
def btO (pl : Nat → Nat) (i : Nat) : List Int:=(List.range i).map fun i=>(pl i : Int)
def btK (pl : Nat → Nat) (A : List (List Int)) (cm : Nat → List Int) (a : Nat) : List Int:=(pl ((A.getD a []).getD 0 0).toNat : Int) :: (pl ((A.getD a []).getD 1 0).toNat : Int) :: cm a
def btA (pl : Nat → Nat) (A A2 : List (List Int)) (cm : Nat → List Int) (a : Nat) : List Int:=(List.range a).map fun a=>fnd A2 (btK pl A cm a)
section
variable {pl : Nat → Nat} {A A2 : List (List Int)} {cm : Nat → List Int} {i a n : Nat}
theorem btO_zero (pl) : btO pl 0 = []:=rfl
theorem btA_zero (pl A A2 cm) : btA pl A A2 cm 0 = []:=rfl
end
structure BtW (L L2 : List Fun) (A A2 : List (List Int)) (pl : Nat → Nat) (cm : Nat → List Int) (img : Nat → Fun) : Prop where
  ob : ∀ i,i < L.length → ObOK L2 (img i).obs (img i).ars (pl i)
  key : KeyOK A2
  mem : ∀ a,a < A.length → btK pl A cm a ∈ A2
  cl : ∀ a,a < A.length → (cm a).length ≤ 60
  a40 : A.length ≤ 40
  l8 : L.length ≤ 8
  ar : ∀ a,a < A.length → 2 ≤ (A.getD a []).length ∧ (A.getD a []).length ≤ 60 ∧ (0 ≤ (A.getD a []).getD 0 0 ∧ ((A.getD a []).getD 0 0).toNat < L.length) ∧ 0 ≤ (A.getD a []).getD 1 0 ∧ ((A.getD a []).getD 1 0).toNat < L.length
attribute [local go_sem] List.set_cons_zero List.set_cons_succ btO_zero btA_zero
end Go.Eng
end
section
namespace Go.Eng
open Go Go.Proofs Go.Cats
theorem fit_A {f : Fun} (hf : Fits f) {a : Int} (h0 : 0 ≤ a) (h1 : a < f.src.fr.length) : 0 ≤ f.A a ∧ f.A a < f.tgt.fr.length ∧ f.tgt.F (f.A a) = f.O (f.src.F a) ∧ f.tgt.T (f.A a) = f.O (f.src.T a):=by
  have l:=hf.arl
  have w:=hf.arw a.toNat (by omega)
  have e:=hf.endf a.toNat (by omega)
  rw [Int.toNat_of_nonneg h0] at e
  exact ⟨w.1,w.2,e.1,e.2⟩
theorem thn_O {f g : Fun} (hf : Fits f) {x : Int} (h0 : 0 ≤ x) (h1 : x < f.src.ob) : (thF f g).O x = g.O (f.O x):=by
  have l:=hf.obl
  exact thn_at (by omega)
theorem thn_A {f g : Fun} (hf : Fits f) {a : Int} (h0 : 0 ≤ a) (h1 : a < f.src.fr.length) : (thF f g).A a = g.A (f.A a):=by
  have l:=hf.arl
  exact thn_at (by omega)
theorem comp_rng {c : Cat} (s : Shape c) {a b : Int} (a0 : 0 ≤ a) (a1 : a < c.fr.length) (b0 : 0 ≤ b) (b1 : b < c.fr.length) (e : c.T a = c.F b) : 0 ≤ c.C a b ∧ c.C a b < c.fr.length:=by
  have:=(s.coe a.toNat (by omega)).2 b.toNat (by omega)
  unfold Cat.Entry at this
  rw [Int.toNat_of_nonneg a0,Int.toNat_of_nonneg b0] at this
  rcases this with ⟨_,h,_⟩|⟨h,_⟩
  · exact h
  · exact absurd e h
theorem fit_C {f : Fun} (sc : Shape f.src) (hf : Fits f) {a b : Int} (a0 : 0 ≤ a) (a1 : a < f.src.fr.length) (b0 : 0 ≤ b) (b1 : b < f.src.fr.length) (e : f.src.T a = f.src.F b) : f.A (f.src.C a b) = f.tgt.C (f.A a) (f.A b):=by
  have h:=comp_rng sc a0 a1 b0 b1 e
  have:=hf.comp a.toNat b.toNat (by omega) (by omega)
  rw [Int.toNat_of_nonneg a0,Int.toNat_of_nonneg b0] at this
  exact this h.1
theorem thF_fits {f g : Fun} (sc : Shape f.src) (st : Shape f.tgt) (hf : Fits f) (hg : Fits g) (e : g.src = f.tgt) : Fits (thF f g):=by
  have sg : Shape g.src:=by rw [e];exact st
  have fo:=hf.obl
  have fa:=hf.arl
  have ga:=hg.arl
  have go:=hg.obl
  rw [e] at ga go
  have c0:=sc.ob0
  refine ⟨?_,?_,?_,?_,fun a ha=>?_,fun x hx=>?_,fun a b ha hb h0=>?_⟩
  · show ((thn f.obs g.obs).length : Int) = f.src.ob;rw [thn_len];exact fo
  · show (thn f.ars g.ars).length = f.src.fr.length;rw [thn_len];exact fa
  · exact thn_in (by rw [go];exact hf.obw) hg.obw
  · exact thn_in (by rw [ga];exact hf.arw) hg.arw
  · have ha : a < f.src.fr.length:=by have : a < (thn f.ars g.ars).length:=ha;rw [thn_len] at this;omega
    have f1:=sc.frw a ha
    have f2:=sc.tow a (by rw [sc.tol];exact ha)
    have h1:=fit_A hf (a:=(a : Int)) (by omega) (by omega)
    have h2:=fit_A hg (a:=f.A (a : Int)) h1.1 (by rw [e];exact h1.2.1)
    have e1 : (thF f g).ars.getD a 0 = g.A (f.A (a : Int)):=thn_at (by omega)
    rw [e1]
    have e2 : (thF f g).O ((thF f g).src.F (a : Int)) = g.O (f.O (f.src.F (a : Int))):=thn_O hf (x:=f.src.F (a : Int)) (by simpa [Cat.F] using f1.1) (by simpa [Cat.F] using f1.2)
    have e3 : (thF f g).O ((thF f g).src.T (a : Int)) = g.O (f.O (f.src.T (a : Int))):=thn_O hf (x:=f.src.T (a : Int)) (by simpa [Cat.T] using f2.1) (by simpa [Cat.T] using f2.2)
    rw [e2,e3]
    have e4:=h2.2.2.1
    have e5:=h2.2.2.2
    rw [e,h1.2.2.1] at e4
    rw [e,h1.2.2.2] at e5
    exact ⟨e4,e5⟩
  · have hx : x < f.src.id.length:=hx
    have il:=sc.idl
    have iw:=sc.idw x hx
    have u1:=hf.unit x hx
    have ow:=hf.obw x (by omega)
    have tl:=st.idl
    have u2 := hg.unit (f.O (x : Int)).toNat (by rw [e]; have : f.O (x : Int) = f.obs.getD x 0 := by simp [Fun.O]
                                                 omega)
    have ox : 0 ≤ f.O (x : Int) := by have : f.O (x : Int) = f.obs.getD x 0 := by simp [Fun.O]
                                      omega
    rw [e,Int.toNat_of_nonneg ox] at u2
    show (thF f g).A (f.src.id.getD x 0) = g.tgt.I ((thF f g).O (x : Int))
    rw [thn_A hf iw.1 iw.2,u1,thn_O hf (by omega) (by omega)]
    exact u2
  · have ha : a < f.src.fr.length:=ha
    have hb : b < f.src.fr.length:=hb
    have h0 : 0 ≤ f.src.C a b:=h0
    have hT : f.src.T a = f.src.F b:=by
      have:=sc.neg ha hb
      exact Classical.byContradiction fun q=>by have:=this.2 q;omega
    have hc:=comp_rng sc (a:=a) (b:=b) (by omega) (by omega) (by omega) (by omega) hT
    have h1:=fit_A hf (a:=(a : Int)) (by omega) (by omega)
    have h2:=fit_A hf (a:=(b : Int)) (by omega) (by omega)
    show (thF f g).A (f.src.C a b) = g.tgt.C ((thF f g).A a) ((thF f g).A b)
    rw [thn_A hf hc.1 hc.2,thn_A hf (by omega) (by omega),thn_A hf (by omega) (by omega),fit_C sc hf (by omega) (by omega) (by omega) (by omega) hT]
    have:=fit_C sg hg (a:=f.A (a : Int)) (b:=f.A (b : Int)) h1.1 (by rw [e];exact h1.2.1) h2.1 (by rw [e];exact h2.2.1) (by rw [e,h1.2.2.2,h2.2.2.1,hT])
    rw [e] at this
    exact this
end Go.Eng
end
