/- Plain law: a functor into a functor category, told as a functor of two variables. -/
import Derived.Test.YtmpopmololpaoaaGreatN35q
set_option linter.unusedSimpArgs false
set_option linter.unusedVariables false
namespace Go.Cats
open Go.Eng
def unO (L : List Fun) (p : List Int) (k : Nat) : List Int:=(p.take k).flatMap fun i=>(L.getD i.toNat default).obs
def unP (e : Nat → Nat → Int) (m u v : Nat) : List Int:=((List.range u).flatMap fun u=>(List.range m).map (e u)) ++ (List.range v).map (e u)
section
variable {L : List Fun} {p : List Int} {k m u v n : Nat} {e : Nat → Nat → Int}
theorem unO_zero (L p) : unO L p 0 = []:=rfl
theorem unO_succ (h : k < p.length) : unO L p (k + 1) = unO L p k ++ (L.getD (p.getD k 0).toNat default).obs:=by
  unfold unO
  rw [List.take_succ_eq_append_getElem h,List.flatMap_append,List.getD_eq_getElem?_getD (l:=p),List.getElem?_eq_getElem h]
  simp
theorem unO_len (hn : ∀ i,i < p.length → (L.getD (p.getD i 0).toNat default).obs.length = n) : k ≤ p.length → (unO L p k).length = k * n:=by
  induction k with
  | zero=>intro _;simp [unO_zero]
  | succ k ih =>
    intro h
    rw [unO_succ (by omega),List.length_append,ih (by omega),hn k (by omega),Nat.succ_mul]
theorem unP_zero (e m) : unP e m 0 0 = []:=rfl
theorem unP_succ : unP e m u (v + 1) = unP e m u v ++ [e u v]:=by
  unfold unP;rw [List.range_succ,List.map_append,List.map_singleton,List.append_assoc]
theorem unP_next : unP e m u m = unP e m (u + 1) 0:=by
  unfold unP;rw [List.range_succ,List.flatMap_append];simp
theorem unP_len : (unP e m u v).length = u * m + v:=by
  have h : ∀ u,((List.range u).flatMap fun u=>(List.range m).map (e u)).length = u * m:=fun u=>by
    induction u with
    | zero=>simp
    | succ u ih=>rw [List.range_succ,List.flatMap_append,List.length_append,ih,Nat.succ_mul];simp
  unfold unP
  rw [List.length_append,h,List.length_map,List.length_range]
end
def unE (a b d : Cat) (L : List Fun) (A : List (List Int)) (p q : List Int) (u v : Nat) : Int :=
  d.C ((L.getD (p.getD (a.fr.getD u 0).toNat 0).toNat default).ars.getD v 0) ((A.getD (q.getD u 0).toNat []).getD (2 + b.to.getD v 0).toNat 0)
structure UnW (a b d : Cat) (L : List Fun) (g : Fun) : Prop where
  sa : IsCat a
  sb : IsCat b
  sd : IsCat d
  hg : IsFun g
  es : g.src = a
  et : g.tgt = fcK d L
  fl : FL b d L
  l8 : L.length ≤ 8
  a40 : (fcA L).length ≤ 40
section
variable {a b d : Cat} {L : List Fun} {g : Fun} {i u v t : Nat}
theorem fcK_fr (h : t < (fcA L).length) : (fcK d L).fr.getD t 0 = ((fcA L).getD t []).getD 0 0:=by
  show (((fcA L).take (fcA L).length).map fun r=>r.getD 0 0).getD t 0 = _
  rw [List.take_length,List.getD_eq_getElem?_getD,List.getElem?_map,List.getElem?_eq_getElem h,List.getD_eq_getElem?_getD (l:=fcA L),List.getElem?_eq_getElem h];rfl
theorem fcK_to (h : t < (fcA L).length) : (fcK d L).to.getD t 0 = ((fcA L).getD t []).getD 1 0:=by
  show (((fcA L).take (fcA L).length).map fun r=>r.getD 1 0).getD t 0 = _
  rw [List.take_length,List.getD_eq_getElem?_getD,List.getElem?_map,List.getElem?_eq_getElem h,List.getD_eq_getElem?_getD (l:=fcA L),List.getElem?_eq_getElem h];rfl
theorem UnW.ol (h : UnW a b d L g) : g.obs.length = a.ob.toNat:=by
  have h1:=h.hg.fits.obl
  rw [h.es] at h1
  omega
theorem UnW.al (h : UnW a b d L g) : g.ars.length = a.fr.length:=by
  have h1:=h.hg.fits.arl
  rw [h.es] at h1
  exact h1
theorem UnW.ob (h : UnW a b d L g) (hi : i < g.obs.length) : 0 ≤ g.obs.getD i 0 ∧ (g.obs.getD i 0).toNat < L.length:=by
  have h1:=h.hg.fits.obw i hi
  rw [h.et] at h1
  have e : (fcK d L).ob = (L.length : Int):=rfl
  rw [e] at h1
  omega
theorem UnW.ar (h : UnW a b d L g) (hi : u < g.ars.length) : 0 ≤ g.ars.getD u 0 ∧ (g.ars.getD u 0).toNat < (fcA L).length:=by
  have h1:=h.hg.fits.arw u hi
  rw [h.et] at h1
  have e : (fcK d L).fr.length = (fcA L).length:=by
    show (((fcA L).take (fcA L).length).map _).length = _
    rw [List.length_map,List.take_length]
  rw [e] at h1
  omega
theorem UnW.at (h : UnW a b d L g) (hu : u < a.fr.length) : ArrF b d L ((fcA L).getD (g.ars.getD u 0).toNat []) ∧
    ((fcA L).getD (g.ars.getD u 0).toNat []).getD 0 0 = g.obs.getD (a.fr.getD u 0).toNat 0 ∧ ((fcA L).getD (g.ars.getD u 0).toNat []).getD 1 0 = g.obs.getD (a.to.getD u 0).toNat 0:=by
  have hal:=h.al
  have hr:=h.ar (u:=u) (by omega)
  refine ⟨h.fl.arr (getD_mem hr.2),?_⟩
  have he:=h.hg.fits.endf u (by omega)
  rw [h.et,h.es] at he
  have e1 : (fcK d L).F (g.ars.getD u 0) = (fcK d L).fr.getD (g.ars.getD u 0).toNat 0:=rfl
  have e2 : (fcK d L).T (g.ars.getD u 0) = (fcK d L).to.getD (g.ars.getD u 0).toNat 0:=rfl
  rw [e1,e2,fcK_fr hr.2,fcK_to hr.2] at he
  have e3 : a.F (u : Int) = a.fr.getD u 0:=by show a.fr.getD (u : Int).toNat 0 = _;rw [Int.toNat_natCast]
  have e4 : a.T (u : Int) = a.to.getD u 0:=by show a.to.getD (u : Int).toNat 0 = _;rw [Int.toNat_natCast]
  rw [e3,e4] at he
  exact he
theorem two_at {x : Int} (h : 0 ≤ x) : (2 + x).toNat = x.toNat + 2:=by omega
theorem UnW.ends (h : UnW a b d L g) (hu : u < a.fr.length) : (a.fr.getD u 0).toNat < g.obs.length ∧ (a.to.getD u 0).toNat < g.obs.length:=by
  have f1:=h.sa.toShape.frw u hu
  have f2:=h.sa.toShape.tow u (by rw [h.sa.toShape.tol];exact hu)
  have:=h.ol
  omega
theorem UnW.in1 (h : UnW a b d L g) (hi : i < L.length) (hv : v < b.fr.length) : v < (L.getD i default).ars.length ∧ 0 ≤ (L.getD i default).ars.getD v 0 ∧ (L.getD i default).ars.getD v 0 < d.fr.length:=by
  obtain ⟨h1,h2,h3⟩:=h.fl i hi
  have h4:=h3.arl
  rw [h1] at h4
  have h5:=h3.arw v (by omega)
  rw [h2] at h5
  exact ⟨by omega,h5⟩
theorem UnW.in2 (h : UnW a b d L g) (hu : u < a.fr.length) {x : Int} (h0 : 0 ≤ x) (h1 : x < b.ob) : (2 + x).toNat < ((fcA L).getD (g.ars.getD u 0).toNat []).length ∧ 0 ≤ ((fcA L).getD (g.ars.getD u 0).toNat []).getD (2 + x).toNat 0 ∧ ((fcA L).getD (g.ars.getD u 0).toNat []).getD (2 + x).toNat 0 < d.fr.length:=by
  have hal:=h.al
  have ha:=(h.at hu).1
  have hr:=h.ar (u:=u) (by omega)
  have hl:=ha.len
  rw [two_at h0]
  exact ⟨by omega,h.fl.comp (getD_mem hr.2) x.toNat (by omega)⟩
theorem UnW.nat (h : UnW a b d L g) (hu : u < a.fr.length) (hv : v < b.fr.length) :
    d.C (((fcA L).getD (g.ars.getD u 0).toNat []).getD (2 + b.fr.getD v 0).toNat 0) ((L.getD (((fcA L).getD (g.ars.getD u 0).toNat []).getD 1 0).toNat default).ars.getD v 0) = unE a b d L (fcA L) g.obs g.ars u v:=by
  obtain ⟨ha,e0,e1⟩:=h.at hu
  have f1:=h.sb.toShape.frw v hv
  have f2:=h.sb.toShape.tow v (by rw [h.sb.toShape.tol];exact hv)
  have hs:=(mem_natA.1 ha.nat).2.sq v (by rw [(h.fl _ ha.i1).1];exact hv)
  unfold SqP at hs
  rw [(h.fl _ ha.i1).1,(h.fl _ ha.i1).2.1] at hs
  have e : ∀ (r : List Int) (x : Nat),(r.drop 2).getD x 0 = r.getD (x + 2) 0:=fun r x=>by
    rw [List.getD_eq_getElem?_getD,List.getElem?_drop,List.getD_eq_getElem?_getD,Nat.add_comm]
  rw [e,e] at hs
  unfold unE
  rw [two_at f1.1,two_at f2.1,← e0]
  exact hs.symm
end
end Go.Cats
