/- Several texts in one: U03, U04, U05. -/
import Derived.Test.YtmpopmololpaoaaGreatKaex
import Derived.Test.YtmpopmololpaoaaGreatKaqx
set_option linter.unusedSimpArgs false
set_option linter.unusedVariables false
set_option maxRecDepth 100000
set_option maxHeartbeats 16000000
section
namespace Go.Cats
open Go.Eng
structure EndF (c : Cat) (f : Fun) : Prop where
  sc : IsCat c
  es : f.src = c
  et : f.tgt = c
  fit : Fits f
def LawX (c : Cat) (f : Fun) (u j : List Int) (x : Nat) : Prop :=
  c.C (f.ars.getD (u.getD x 0).toNat 0) (j.getD x 0) = c.I (f.obs.getD x 0) ∧ c.C (u.getD (f.obs.getD x 0).toNat 0) (j.getD x 0) = c.I (f.obs.getD x 0) ∧ c.C (f.ars.getD (j.getD x 0).toNat 0) (j.getD x 0) = c.C (j.getD (f.obs.getD x 0).toNat 0) (j.getD x 0)
def LawP (c : Cat) (f : Fun) (u j : List Int) : Prop:=∀ x,x < c.ob.toNat → LawX c f u j x
noncomputable def unitsL (c : Cat) (f : Fun) : List (List Int):=natA (selfF c) f
noncomputable def joinsL (f : Fun) : List (List Int):=natA (thF f f) f
noncomputable def moJ (c : Cat) (f : Fun) (J : List (List Int)) (u : List Int) (k : Nat) : List Mon:=((J.take k).filter fun j=>dec (LawP c f u j)).map fun j=>⟨f,u,j⟩
noncomputable def moU (c : Cat) (f : Fun) (U J : List (List Int)) (i k : Nat) : List Mon:=(coll i fun i=>moJ c f J (U.getD i []) J.length) ++ moJ c f J (U.getD i []) k
noncomputable def moF (c : Cat) (f : Fun) : List Mon:=moU c f (unitsL c f) (joinsL f) (unitsL c f).length 0
noncomputable def moA (c : Cat) (L : List Fun) (i : Nat) : List Mon:=coll i fun i=>moF c (L.getD i default)
section
variable {c : Cat} {f : Fun} {U J : List (List Int)} {u j : List Int} {i k x : Nat} {L : List Fun}
theorem moJ_zero : moJ c f J u 0 = []:=rfl
theorem moJ_yes (hk : k < J.length) (h : LawP c f u (J.getD k [])) : moJ c f J u (k + 1) = moJ c f J u k ++ [⟨f,u,J.getD k []⟩]:=by
  have e : (J.getD k []) = J[k]:=by rw [List.getD_eq_getElem?_getD,List.getElem?_eq_getElem hk];rfl
  rw [e] at h ⊢
  unfold moJ
  rw [List.take_succ_eq_append_getElem hk,List.filter_append,List.map_append]
  simp [dec_t h]
theorem moJ_no (hk : k < J.length) (h : ¬ LawP c f u (J.getD k [])) : moJ c f J u (k + 1) = moJ c f J u k:=by
  have e : (J.getD k []) = J[k]:=by rw [List.getD_eq_getElem?_getD,List.getElem?_eq_getElem hk];rfl
  rw [e] at h
  unfold moJ
  rw [List.take_succ_eq_append_getElem hk,List.filter_append,List.map_append]
  simp [dec_f h]
theorem moJ_len : (moJ c f J u k).length ≤ J.length:=by
  unfold moJ
  rw [List.length_map]
  exact Nat.le_trans (List.length_filter_le _ _) (by rw [List.length_take];omega)
theorem moU_zero : moU c f U J 0 0 = []:=rfl
theorem moU_yes (hk : k < J.length) (h : LawP c f (U.getD i []) (J.getD k [])) : moU c f U J i (k + 1) = moU c f U J i k ++ [⟨f,U.getD i [],J.getD k []⟩]:=by
  unfold moU;rw [moJ_yes hk h,List.append_assoc]
theorem moU_no (hk : k < J.length) (h : ¬ LawP c f (U.getD i []) (J.getD k [])) : moU c f U J i (k + 1) = moU c f U J i k:=by
  unfold moU;rw [moJ_no hk h]
theorem moU_next : moU c f U J i J.length = moU c f U J (i + 1) 0:=by
  unfold moU;rw [coll_succ,moJ_zero,List.append_nil]
theorem coll_len {α : Type} {n b : Nat} {g : Nat → List α} (h : ∀ i,i < n → (g i).length ≤ b) : (coll n g).length ≤ n * b:=by
  induction n with
  | zero=>exact Nat.zero_le _
  | succ n ih =>
    rw [coll_succ,List.length_append,Nat.succ_mul]
    have:=ih fun i hi=>h i (by omega)
    have:=h n (by omega)
    omega
theorem moU_len : (moU c f U J i k).length ≤ i * J.length + J.length:=by
  unfold moU
  rw [List.length_append]
  have:=coll_len (n:=i) (b:=J.length) (g:=fun i=>moJ c f J (U.getD i []) J.length) fun i _=>moJ_len
  have:=moJ_len (c:=c) (f:=f) (J:=J) (u:=U.getD i []) (k:=k)
  omega
theorem moA_zero : moA c L 0 = []:=rfl
theorem moA_succ : moA c L (i + 1) = moA c L i ++ moF c (L.getD i default):=by unfold moA;rw [coll_succ]
theorem EndF.self (h : EndF c f) : Par (selfF c) f:=by
  have hs:=selfF_fun h.sc
  exact ⟨h.sc,h.sc,hs.fits,h.fit,h.es,h.et⟩
theorem EndF.twice (h : EndF c f) : Par (thF f f) f:=by
  have e1 : (thF f f).src = c:=h.es
  have e2 : (thF f f).tgt = c:=h.et
  have s : Shape f.src:=by rw [h.es];exact h.sc.toShape
  have t : Shape f.tgt:=by rw [h.et];exact h.sc.toShape
  exact ⟨by rw [e1];exact h.sc,by rw [e2];exact h.sc,thF_fits s t h.fit h.fit (by rw [h.es,h.et]),h.fit,by rw [e1,h.es],by rw [e2,h.et]⟩
theorem EndF.ol (h : EndF c f) : f.obs.length = c.ob.toNat:=by have:=h.fit.obl;rw [h.es] at this;omega
theorem EndF.al (h : EndF c f) : f.ars.length = c.fr.length:=by have:=h.fit.arl;rw [h.es] at this;exact this
theorem EndF.ob (h : EndF c f) (hx : x < c.ob.toNat) : 0 ≤ f.obs.getD x 0 ∧ f.obs.getD x 0 < c.ob:=by
  have:=h.fit.obw x (by rw [h.ol];exact hx)
  rw [h.et] at this
  exact this
theorem EndF.hom (h : EndF c f) {y z a : Int} (ha : a ∈ c.hom y z) : f.ars.getD a.toNat 0 ∈ c.hom (f.obs.getD y.toNat 0) (f.obs.getD z.toNat 0):=by
  obtain ⟨a0,a1,a2,a3⟩:=Cat.mem_hom.1 ha
  have:=fit_hom (f:=f) (by rw [h.es];exact h.sc.toShape) h.fit (a:=a.toNat) (by rw [h.es];omega)
  rw [h.es,h.et] at this
  have e1 : c.fr.getD a.toNat 0 = y:=a2
  have e2 : c.to.getD a.toNat 0 = z:=a3
  rw [e1,e2] at this
  exact this
theorem EndF.unit (h : EndF c f) (hu : u ∈ unitsL c f) : u.length = c.ob.toNat ∧ ∀ x,x < c.ob.toNat → u.getD x 0 ∈ c.hom x (f.obs.getD x 0):=by
  obtain ⟨h1,h2⟩:=mem_natA.1 hu
  refine ⟨h1,fun x hx=>?_⟩
  have h3 : u.length = c.ob.toNat:=h1
  have:=h2.end_ x (by omega)
  have e : (selfF c).obs.getD x 0 = x:=nums_at hx
  rw [e] at this
  exact this
theorem EndF.join (h : EndF c f) (hj : j ∈ joinsL f) : j.length = c.ob.toNat ∧ ∀ x,x < c.ob.toNat → j.getD x 0 ∈ c.hom (f.obs.getD (f.obs.getD x 0).toNat 0) (f.obs.getD x 0):=by
  obtain ⟨h1,h2⟩:=mem_natA.1 hj
  have e1 : (thF f f).src = c:=h.es
  have e2 : (thF f f).tgt = c:=h.et
  rw [e1] at h1
  refine ⟨h1,fun x hx=>?_⟩
  have:=h2.end_ x (by omega)
  have e : (thF f f).obs.getD x 0 = f.obs.getD (f.obs.getD x 0).toNat 0:=by
    exact thn_at (f:=f.obs) (g:=f.obs) (i:=x) (by rw [h.ol];exact hx)
  rw [e,e2] at this
  exact this
theorem hom_in {y z a : Int} (ha : a ∈ c.hom y z) : 0 ≤ a ∧ a < c.fr.length:=⟨(Cat.mem_hom.1 ha).1,(Cat.mem_hom.1 ha).2.1⟩
structure MoX (c : Cat) (f : Fun) (u j : List Int) (x : Nat) : Prop where
  y0 : 0 ≤ f.obs.getD x 0
  y1 : f.obs.getD x 0 < c.ob
  u0 : 0 ≤ u.getD x 0 ∧ u.getD x 0 < c.fr.length
  fu : 0 ≤ f.ars.getD (u.getD x 0).toNat 0 ∧ f.ars.getD (u.getD x 0).toNat 0 < c.fr.length
  jx : 0 ≤ j.getD x 0 ∧ j.getD x 0 < c.fr.length
  uy : 0 ≤ u.getD (f.obs.getD x 0).toNat 0 ∧ u.getD (f.obs.getD x 0).toNat 0 < c.fr.length
  fj : 0 ≤ f.ars.getD (j.getD x 0).toNat 0 ∧ f.ars.getD (j.getD x 0).toNat 0 < c.fr.length
  jy : 0 ≤ j.getD (f.obs.getD x 0).toNat 0 ∧ j.getD (f.obs.getD x 0).toNat 0 < c.fr.length
  c1 : c.C (f.ars.getD (u.getD x 0).toNat 0) (j.getD x 0) ∈ c.hom (f.obs.getD x 0) (f.obs.getD x 0)
  c2 : c.C (u.getD (f.obs.getD x 0).toNat 0) (j.getD x 0) ∈ c.hom (f.obs.getD x 0) (f.obs.getD x 0)
theorem EndF.at (h : EndF c f) (hu : u ∈ unitsL c f) (hj : j ∈ joinsL f) (hx : x < c.ob.toNat) : MoX c f u j x:=by
  obtain ⟨u1,u2⟩:=h.unit hu
  obtain ⟨j1,j2⟩:=h.join hj
  have y:=h.ob hx
  have hy : (f.obs.getD x 0).toNat < c.ob.toNat:=by omega
  have a1:=u2 x hx
  have a2:=j2 x hx
  have a3:=u2 _ hy
  have a4:=j2 _ hy
  have b1:=h.hom a1
  have b2:=h.hom a2
  rw [Int.toNat_natCast] at b1
  rw [Int.toNat_of_nonneg y.1] at a3
  exact ⟨y.1,y.2,hom_in a1,hom_in b1,hom_in a2,hom_in a3,hom_in b2,hom_in a4,hom_comp h.sc b1 a2,hom_comp h.sc a3 a2⟩
theorem unit_iff {y a : Int} (ha : a ∈ c.hom y y) : c.id.getD (c.fr.getD a.toNat 0).toNat 0 = a ↔ a = c.I y:=by
  obtain ⟨_,_,a2,_⟩:=Cat.mem_hom.1 ha
  have e : c.fr.getD a.toNat 0 = y:=a2
  rw [e]
  exact ⟨fun q=>q.symm,fun q=>q.symm⟩
end
def MoOK (c : Cat) (L : List Fun) (i : Nat) : Prop:=(∀ k,k < i → (unitsL c (L.getD k default)).length ≤ 200 ∧ (joinsL (L.getD k default)).length ≤ 200) ∧ (moA c L i).length ≤ 200
theorem moA_mono {c : Cat} {L : List Fun} {i n : Nat} (h : i ≤ n) : (moA c L i).length ≤ (moA c L n).length:=by
  induction n with
  | zero=>rw [show i = 0 by omega];exact Nat.le_refl _
  | succ n ih =>
    by_cases e : i = n + 1
    · subst e;exact Nat.le_refl _
    · have:=ih (by omega)
      rw [moA_succ,List.length_append];omega
theorem MoOK.pre {c : Cat} {L : List Fun} {i n : Nat} (h : MoOK c L n) (hi : i ≤ n) : MoOK c L i :=
  ⟨fun k hk=>h.1 k (by omega),Nat.le_trans (moA_mono hi) h.2⟩
def MoOut (c : Cat) (F : List Mon) (code : Int) : Prop :=
  (¬ IsCat c ∧ F = [] ∧ code = 1) ∨ (IsCat c ∧ ((¬ (c.fr.length ≤ 6 ∧ (fcL c c).length ≤ 200 ∧ MoOK c (fcL c c) (fcL c c).length) ∧ F = [] ∧ code = 3) ∨ ((c.fr.length ≤ 6 ∧ (fcL c c).length ≤ 200 ∧ MoOK c (fcL c c) (fcL c c).length) ∧ F = moA c (fcL c c) (fcL c c).length ∧ code = 0)))
theorem MoOut.ex (c : Cat) : ∃ F code,MoOut c F code:=by
  by_cases h : IsCat c
  · by_cases h2 : c.fr.length ≤ 6 ∧ (fcL c c).length ≤ 200 ∧ MoOK c (fcL c c) (fcL c c).length
    · exact ⟨_,_,.inr ⟨h,.inr ⟨h2,rfl,rfl⟩⟩⟩
    · exact ⟨_,_,.inr ⟨h,.inl ⟨h2,rfl,rfl⟩⟩⟩
  · exact ⟨_,_,.inl ⟨h,rfl,rfl⟩⟩
end Go.Cats
end
section
namespace Go.Eng
open Go Go.Proofs Go.Cats
theorem law_succ {c : Cat} {f : Fun} {u j : List Int} {x : Nat} (h : ∀ z,z < x → LawX c f u j z) (k : LawX c f u j x) : ∀ z,z < x + 1 → LawX c f u j z:=fun z hz=>by
  by_cases e : z = x
  · subst e;exact k
  · exact h z (by omega)
theorem law_x {c : Cat} {f : Fun} {u j : List Int} {x : Nat} (h1 : c.C (f.ars.getD (u.getD x 0).toNat 0) (j.getD x 0) = c.id.getD (f.obs.getD x 0).toNat 0) (h2 : c.C (u.getD (f.obs.getD x 0).toNat 0) (j.getD x 0) = c.id.getD (f.obs.getD x 0).toNat 0) (h3 : c.C (f.ars.getD (j.getD x 0).toNat 0) (j.getD x 0) = c.C (j.getD (f.obs.getD x 0).toNat 0) (j.getD x 0)) : LawX c f u j x:=⟨h1,h2,h3⟩
theorem cal_Monad_object : Callable Tryz.prog 171:=⟨_,Tryz.func171,rfl,rfl⟩
theorem sp_Monad_object {m : Mon} {x : Nat} (h : x < m.on.obs.length) : Spec Tryz.prog 171 [.bptr [] [.v (.int .i64 m.on.src.ob),ints m.on.src.fr,ints m.on.src.to,ints m.on.src.id,intss m.on.src.co,.v (.int .i64 m.on.tgt.ob),ints m.on.tgt.fr,ints m.on.tgt.to,ints m.on.tgt.id,intss m.on.tgt.co,ints m.on.obs,ints m.on.ars,ints m.unit,ints m.join],iv x] [] (iv (m.on.obs.getD x 0)) []:=by
  refine spec_of_V (E:=TE) 0 Tryz.func171 rfl (by simp [Tryz.f171]) fun X hn hX=>?_
  repeat' (first|(with_reducible first|refine V_seq ?_|refine V_skip ?_|refine V_ret ?_)|((with_reducible refine V_cond ?_);simp only [go_sem,simprocAttr])|((refine V_region (by rw [hn];rfl) ?_);intro K hK)|((first|with_reducible refine evOps_n ?_|((with_reducible apply evOps_g);rfl));intro K hK;simp (contextual:=true) only [go_sem,simprocAttr])|with_reducible refine evOps_nil ?_|((with_reducible refine hK _ ?_);clear hK K)|(with_reducible first|refine And.intro ?_ ?_|refine nxt_n ?_|refine nxt_r ?_|refine inR_mk ?_ ?_)|(refine fun (hc : (_ : Bool) = _)=>?_;try simp only [hcS] at hc))
  all_goals try exact om_
  · (first|refine ret_auto ?_|refine ret_auto' ?_);simp only [go_sem,simprocAttr,Tryz.f171]
theorem cal_Monad_arrow : Callable Tryz.prog 172:=⟨_,Tryz.func172,rfl,rfl⟩
theorem sp_Monad_arrow {m : Mon} {a : Int} (h0 : 0 ≤ a) (h : a < m.on.ars.length) : Spec Tryz.prog 172 [.bptr [] [.v (.int .i64 m.on.src.ob),ints m.on.src.fr,ints m.on.src.to,ints m.on.src.id,intss m.on.src.co,.v (.int .i64 m.on.tgt.ob),ints m.on.tgt.fr,ints m.on.tgt.to,ints m.on.tgt.id,intss m.on.tgt.co,ints m.on.obs,ints m.on.ars,ints m.unit,ints m.join],iv a] [] (iv (m.on.ars.getD a.toNat 0)) []:=by
  refine spec_of_V (E:=TE) 0 Tryz.func172 rfl (by simp [Tryz.f172]) fun X hn hX=>?_
  repeat' (first|(with_reducible first|refine V_seq ?_|refine V_skip ?_|refine V_ret ?_)|((with_reducible refine V_cond ?_);simp only [go_sem,simprocAttr])|((refine V_region (by rw [hn];rfl) ?_);intro K hK)|((first|with_reducible refine evOps_n ?_|((with_reducible apply evOps_g);rfl));intro K hK;simp (contextual:=true) only [go_sem,simprocAttr])|with_reducible refine evOps_nil ?_|((with_reducible refine hK _ ?_);clear hK K)|(with_reducible first|refine And.intro ?_ ?_|refine nxt_n ?_|refine nxt_r ?_|refine inR_mk ?_ ?_)|(refine fun (hc : (_ : Bool) = _)=>?_;try simp only [hcS] at hc))
  all_goals try exact om_
  · (first|refine ret_auto ?_|refine ret_auto' ?_);simp only [go_sem,simprocAttr,Tryz.f172]
theorem cal_Monad_isLawful : Callable Tryz.prog 144:=⟨_,Tryz.func144,rfl,rfl⟩
theorem sp_Monad_isLawful {m : Mon} (h : EndF m.on.src m.on) (hu : m.unit ∈ unitsL m.on.src m.on) (hj : m.join ∈ joinsL m.on) : Spec Tryz.prog 144 [.bptr [] [.v (.int .i64 m.on.src.ob),ints m.on.src.fr,ints m.on.src.to,ints m.on.src.id,intss m.on.src.co,.v (.int .i64 m.on.tgt.ob),ints m.on.tgt.fr,ints m.on.tgt.to,ints m.on.tgt.id,intss m.on.tgt.co,ints m.on.obs,ints m.on.ars,ints m.unit,ints m.join]] [] (bv (dec (LawP m.on.src m.on m.unit m.join))) []:=by
  refine spec_of_V (E:=TE) 0 Tryz.func144 rfl (by simp [Tryz.f144]) fun X hn hX=>?_
  have sc:=h.sc.toShape
  have c0:=sc.ob0
  have c8:=sc.ob8
  have c40:=sc.m40
  have ol:=h.ol
  have al:=h.al
  have ul:=(h.unit hu).1
  have jl:=(h.join hj).1
  have idl:=sc.idl
  repeat' (first|(with_reducible first|refine V_seq ?_|refine V_block ?_|refine V_skip ?_|refine V_ret ?_|refine V_exit ?_)|((with_reducible refine V_cond ?_);simp only [go_sem,simprocAttr])|((first|refine V_region (by rw [hn];rfl) ?_|refine V_drawn hmix (by rw [hn];rfl) ?_);intro K hK)|((first|with_reducible refine evOps_n ?_|((with_reducible apply evOps_g);rfl)|with_reducible refine evOpsD_n ?_|((with_reducible apply evOpsD_g);rfl));intro K hK;simp (contextual:=true) only [go_sem,simprocAttr])|with_reducible refine evOps_nil ?_|((with_reducible refine evOpsD_nil ?_ ?_);kernel_rfl)|((with_reducible refine hK _ ?_);clear hK K)|(with_reducible first|refine And.intro ?_ ?_|refine nxt_n ?_|refine nxt_r ?_|refine nxt_e ?_|refine blk_n ?_|refine blk_r ?_|refine blk_same ?_|refine blk_other (by decide) ?_|refine noG_n ?_|refine noG_r ?_|refine noG_e ?_|refine inR_mk ?_ ?_)|(refine fun (hc : (_ : Bool) = _)=>?_;try simp only [hcS] at hc))
  all_goals try exact om_
  refine V_loopK (G:={x : Nat // x ≤ m.on.src.ob.toNat ∧ (∀ z,z < x → LawX m.on.src m.on m.unit m.join z)}) (fun ⟨x,_⟩=>[(4,iv x)]) [0,3] (fun ⟨x,_⟩=>[]) [] (fun zz=>m.on.src.ob.toNat - zz.1) ⟨0,Nat.zero_le _,(fun z hz=>absurd hz (Nat.not_lt_zero z))⟩ ?_ ?_
  · exact Imp.au hX
  rintro ⟨x,hix,hwx⟩
  simp only [go_sem,simprocAttr]
  rcases Nat.lt_or_ge x m.on.src.ob.toNat with hlx | hgx
  · obtain ⟨y0,y1,u0,fu,jx,uy,fj,jy,c1,c2⟩:=h.at hu hj hlx
    have r1:=rows_len sc fu.1 fu.2
    have r2:=rows_len sc uy.1 uy.2
    have r3:=rows_len sc fj.1 fj.2
    have r4:=rows_len sc jy.1 jy.2
    have t1:=sp_Category_then (c:=m.on.src) (f:=m.on.ars.getD (m.unit.getD x 0).toNat 0) (g:=m.join.getD x 0) fu.1 (by omega) jx.1 (by omega)
    have t2:=sp_Category_then (c:=m.on.src) (f:=m.unit.getD (m.on.obs.getD x 0).toNat 0) (g:=m.join.getD x 0) uy.1 (by omega) jx.1 (by omega)
    have t3:=sp_Category_then (c:=m.on.src) (f:=m.on.ars.getD (m.join.getD x 0).toNat 0) (g:=m.join.getD x 0) fj.1 (by omega) jx.1 (by omega)
    have t4:=sp_Category_then (c:=m.on.src) (f:=m.join.getD (m.on.obs.getD x 0).toNat 0) (g:=m.join.getD x 0) jy.1 (by omega) jx.1 (by omega)
    have a1:=sp_Monad_arrow (m:=m) (a:=m.unit.getD x 0) u0.1 (by omega)
    have a2:=sp_Monad_arrow (m:=m) (a:=m.join.getD x 0) jx.1 (by omega)
    have o1:=sp_Monad_object (m:=m) (x:=x) (by omega)
    repeat' (first|(with_reducible first|refine V_seq ?_|refine V_block ?_|refine V_skip ?_|refine V_ret ?_|refine V_exit ?_)|((with_reducible refine V_cond ?_);simp only [go_sem,simprocAttr])|((first|refine V_region (by rw [hn];rfl) ?_|refine V_drawn hmix (by rw [hn];rfl) ?_);intro K hK)|((first|with_reducible refine evOps_n ?_|((with_reducible apply evOps_g);rfl)|with_reducible refine evOpsD_n ?_|((with_reducible apply evOpsD_g);rfl));intro K hK;simp (contextual:=true) only [go_sem,simprocAttr])|with_reducible refine evOps_nil ?_|((with_reducible refine evOpsD_nil ?_ ?_);kernel_rfl)|((with_reducible refine hK _ ?_);clear hK K)|(with_reducible first|refine And.intro ?_ ?_|refine nxt_n ?_|refine nxt_r ?_|refine nxt_e ?_|refine blk_n ?_|refine blk_r ?_|refine blk_same ?_|refine blk_other (by decide) ?_|refine noG_n ?_|refine noG_r ?_|refine noG_e ?_|refine inR_mk ?_ ?_)|((with_reducible refine evCall_at 171 ?_);refine EvCall.mk (o1) cal_Monad_object [] [] (by simp [go_sem] <;> (repeat' (first|rfl|constructor))) (by simp [go_sem] <;> (repeat' (first|rfl|constructor))) ?_;all_goals try simp only [go_sem,simprocAttr])|((with_reducible refine (id ?_ : EvCall _ _ [_,iv (m.unit.getD x 0)] _ _));refine EvCall.mk (a1) cal_Monad_arrow [] [] (by simp [go_sem] <;> (repeat' (first|rfl|constructor))) (by simp [go_sem] <;> (repeat' (first|rfl|constructor))) ?_;all_goals try simp only [go_sem,simprocAttr])|((with_reducible refine (id ?_ : EvCall _ _ [_,iv (m.join.getD x 0)] _ _));refine EvCall.mk (a2) cal_Monad_arrow [] [] (by simp [go_sem] <;> (repeat' (first|rfl|constructor))) (by simp [go_sem] <;> (repeat' (first|rfl|constructor))) ?_;all_goals try simp only [go_sem,simprocAttr])|((with_reducible refine (id ?_ : EvCall _ _ [_,iv (m.on.ars.getD (m.unit.getD x 0).toNat 0),_] _ _));refine EvCall.mk (t1) cal_Category_then [] [] (by simp [go_sem] <;> (repeat' (first|rfl|constructor))) (by simp [go_sem] <;> (repeat' (first|rfl|constructor))) ?_;all_goals try simp only [go_sem,simprocAttr])|((with_reducible refine (id ?_ : EvCall _ _ [_,iv (m.unit.getD (m.on.obs.getD x 0).toNat 0),_] _ _));refine EvCall.mk (t2) cal_Category_then [] [] (by simp [go_sem] <;> (repeat' (first|rfl|constructor))) (by simp [go_sem] <;> (repeat' (first|rfl|constructor))) ?_;all_goals try simp only [go_sem,simprocAttr])|((with_reducible refine (id ?_ : EvCall _ _ [_,iv (m.on.ars.getD (m.join.getD x 0).toNat 0),_] _ _));refine EvCall.mk (t3) cal_Category_then [] [] (by simp [go_sem] <;> (repeat' (first|rfl|constructor))) (by simp [go_sem] <;> (repeat' (first|rfl|constructor))) ?_;all_goals try simp only [go_sem,simprocAttr])|((with_reducible refine (id ?_ : EvCall _ _ [_,iv (m.join.getD (m.on.obs.getD x 0).toNat 0),_] _ _));refine EvCall.mk (t4) cal_Category_then [] [] (by simp [go_sem] <;> (repeat' (first|rfl|constructor))) (by simp [go_sem] <;> (repeat' (first|rfl|constructor))) ?_;all_goals try simp only [go_sem,simprocAttr])|(refine fun (hc : (_ : Bool) = _)=>?_;try simp only [hcS] at hc))
    all_goals try exact om_
    · (first|refine ret_auto ?_|refine ret_auto' ?_);simp only [go_sem,simprocAttr,Tryz.f144]
      exact bv_f fun s=>hc (s x hlx).2.1
    · (first|refine ret_auto ?_|refine ret_auto' ?_);simp only [go_sem,simprocAttr,Tryz.f144]
      exact bv_f fun s=>hc (s x hlx).2.2
    · refine ⟨⟨x + 1,by omega,(by exact law_succ hwx (law_x (by assumption) (by assumption) hc))⟩,by simp only;omega,Imp.ao hX⟩
    · (first|refine ret_auto ?_|refine ret_auto' ?_);simp only [go_sem,simprocAttr,Tryz.f144]
      exact bv_f fun s=>hc (s x hlx).1
  · have ex : x = m.on.src.ob.toNat:=by omega
    subst ex
    repeat' (first|(with_reducible first|refine V_seq ?_|refine V_block ?_|refine V_skip ?_|refine V_ret ?_|refine V_exit ?_)|((with_reducible refine V_cond ?_);simp only [go_sem,simprocAttr])|((first|refine V_region (by rw [hn];rfl) ?_|refine V_drawn hmix (by rw [hn];rfl) ?_);intro K hK)|((first|with_reducible refine evOps_n ?_|((with_reducible apply evOps_g);rfl)|with_reducible refine evOpsD_n ?_|((with_reducible apply evOpsD_g);rfl));intro K hK;simp (contextual:=true) only [go_sem,simprocAttr])|with_reducible refine evOps_nil ?_|((with_reducible refine evOpsD_nil ?_ ?_);kernel_rfl)|((with_reducible refine hK _ ?_);clear hK K)|(with_reducible first|refine And.intro ?_ ?_|refine nxt_n ?_|refine nxt_r ?_|refine nxt_e ?_|refine blk_n ?_|refine blk_r ?_|refine blk_same ?_|refine blk_other (by decide) ?_|refine noG_n ?_|refine noG_r ?_|refine noG_e ?_|refine inR_mk ?_ ?_)|(refine fun (hc : (_ : Bool) = _)=>?_;try simp only [hcS] at hc))
    all_goals try exact om_
    · (first|refine ret_auto ?_|refine ret_auto' ?_);simp only [go_sem,simprocAttr,Tryz.f144]
      exact bv_t hwx
theorem cal_Functor_copy : Callable Tryz.prog 173:=⟨_,Tryz.func173,rfl,rfl⟩
theorem sp_Functor_copy {f : Fun} (hb : FunB f) : Spec Tryz.prog 173 [.bptr [] (funD f)] [] (.agg [iv f.src.ob,.sl 0,.sl 1,.sl 2,.sl 3,iv f.tgt.ob,.sl 4,.sl 5,.sl 6,.sl 7,.sl 8,.sl 9]) [(0,⟨1,.arr (ints f.src.fr)⟩),(1,⟨1,.arr (ints f.src.to)⟩),(2,⟨1,.arr (ints f.src.id)⟩),(3,⟨1,.arr (intss f.src.co)⟩),(4,⟨1,.arr (ints f.tgt.fr)⟩),(5,⟨1,.arr (ints f.tgt.to)⟩),(6,⟨1,.arr (ints f.tgt.id)⟩),(7,⟨1,.arr (intss f.tgt.co)⟩),(8,⟨1,.arr (ints f.obs)⟩),(9,⟨1,.arr (ints f.ars)⟩)]:=by
  refine spec_of_V (E:=TE) 0 Tryz.func173 rfl (by simp [Tryz.f173]) fun X hn hX=>?_
  obtain ⟨b1,b2,b3,b4⟩:=hb
  repeat' (first|(with_reducible first|refine V_seq ?_|refine V_skip ?_|refine V_ret ?_)|((with_reducible refine V_cond ?_);simp only [go_sem,simprocAttr])|((first|refine V_region (by rw [hn];rfl) ?_|refine V_drawn hmix (by rw [hn];rfl) ?_);intro K hK)|((first|with_reducible refine evOps_n ?_|((with_reducible apply evOps_g);rfl)|with_reducible refine evOpsD_n ?_|((with_reducible apply evOpsD_g);rfl));intro K hK;simp (contextual:=true) only [go_sem,simprocAttr])|with_reducible refine evOps_nil ?_|((with_reducible refine evOpsD_nil ?_ ?_);kernel_rfl)|((with_reducible refine hK _ ?_);clear hK K)|(with_reducible first|refine And.intro ?_ ?_|refine nxt_n ?_|refine nxt_r ?_|refine inR_mk ?_ ?_)|((with_reducible refine evCall_at 63 ?_);refine EvCall.rq (a:=(sp_functor (c:=f.src) (d:=f.tgt) (p:=f.obs) (q:=f.ars) ?_ ?_ ?_ ?_)) (b:=cal_functor) (c:=?_);all_goals try simp only [go_sem,simprocAttr])|(refine fun (hc : (_ : Bool) = _)=>?_;try simp only [hcS] at hc))
  all_goals try exact om_
  all_goals ((first|refine ret_auto ?_|refine ret_auto' ?_);simp only [go_sem,simprocAttr,Tryz.f173])
theorem cal_monad : Callable Tryz.prog 145:=⟨_,Tryz.func145,rfl,rfl⟩
theorem sp_monad {f : Fun} {u j : List Int} (hb : FunB f) (hu : u.length ≤ 1048576) (hj : j.length ≤ 1048576) : Spec Tryz.prog 145 [.bptr [] (funD f),.bor [] (ints u),.bor [] (ints j)] [] (.agg [iv f.src.ob,.sl 0,.sl 1,.sl 2,.sl 3,iv f.tgt.ob,.sl 4,.sl 5,.sl 6,.sl 7,.sl 8,.sl 9,.sl 10,.sl 11]) [(0,⟨1,.arr (ints f.src.fr)⟩),(1,⟨1,.arr (ints f.src.to)⟩),(2,⟨1,.arr (ints f.src.id)⟩),(3,⟨1,.arr (intss f.src.co)⟩),(4,⟨1,.arr (ints f.tgt.fr)⟩),(5,⟨1,.arr (ints f.tgt.to)⟩),(6,⟨1,.arr (ints f.tgt.id)⟩),(7,⟨1,.arr (intss f.tgt.co)⟩),(8,⟨1,.arr (ints f.obs)⟩),(9,⟨1,.arr (ints f.ars)⟩),(10,⟨1,.arr (ints u)⟩),(11,⟨1,.arr (ints j)⟩)]:=by
  refine spec_of_V (E:=TE) 0 Tryz.func145 rfl (by simp [Tryz.f145]) fun X hn hX=>?_
  repeat' (first|(with_reducible first|refine V_seq ?_|refine V_skip ?_|refine V_ret ?_)|((with_reducible refine V_cond ?_);simp only [go_sem,simprocAttr])|((refine V_region (by rw [hn];rfl) ?_);intro K hK)|((first|with_reducible refine evOps_n ?_|((with_reducible apply evOps_g);rfl));intro K hK;simp (contextual:=true) only [go_sem,simprocAttr])|with_reducible refine evOps_nil ?_|((with_reducible refine hK _ ?_);clear hK K)|(with_reducible first|refine And.intro ?_ ?_|refine nxt_n ?_|refine nxt_r ?_|refine inR_mk ?_ ?_)|((with_reducible refine evCall_at 173 ?_);refine EvCall.rq (a:=(sp_Functor_copy (f:=f) ?_)) (b:=cal_Functor_copy) (c:=?_);all_goals try simp only [go_sem,simprocAttr])|((with_reducible refine evCall_at 121 ?_);refine EvCall.rq (a:=(sp_clone (l:=u) ?_)) (b:=cal_clone) (c:=?_);all_goals try simp only [go_sem,simprocAttr])|((with_reducible refine evCall_at 121 ?_);refine EvCall.rq (a:=(sp_clone (l:=j) ?_)) (b:=cal_clone) (c:=?_);all_goals try simp only [go_sem,simprocAttr])|(refine fun (hc : (_ : Bool) = _)=>?_;try simp only [hcS] at hc))
  all_goals try exact om_
  all_goals ((first|refine ret_auto ?_|refine ret_auto' ?_);simp only [go_sem,simprocAttr,Tryz.f145])
end Go.Eng
end
section
namespace Go.Eng
open Go Go.Proofs Go.Cats
theorem cal_l16Twice : Callable Tryz.prog 140:=⟨_,Tryz.func140,rfl,rfl⟩
theorem sp_l16Twice {f : Fun} (h : ThF f f) : Spec Tryz.prog 140 [funV f] [] (.agg [iv (thF f f).src.ob,.sl 0,.sl 1,.sl 2,.sl 3,iv (thF f f).tgt.ob,.sl 4,.sl 5,.sl 6,.sl 7,.sl 8,.sl 9]) [(0,⟨1,.arr (ints (thF f f).src.fr)⟩),(1,⟨1,.arr (ints (thF f f).src.to)⟩),(2,⟨1,.arr (ints (thF f f).src.id)⟩),(3,⟨1,.arr (intss (thF f f).src.co)⟩),(4,⟨1,.arr (ints (thF f f).tgt.fr)⟩),(5,⟨1,.arr (ints (thF f f).tgt.to)⟩),(6,⟨1,.arr (ints (thF f f).tgt.id)⟩),(7,⟨1,.arr (intss (thF f f).tgt.co)⟩),(8,⟨1,.arr (ints (thF f f).obs)⟩),(9,⟨1,.arr (ints (thF f f).ars)⟩)]:=by
  refine spec_of_V (E:=TE) 0 Tryz.func140 rfl (by simp [Tryz.f140]) fun X hn hX=>?_
  have ht:=sp_l06Then h
  repeat' (first|(with_reducible first|refine V_seq ?_|refine V_skip ?_|refine V_ret ?_)|((with_reducible refine V_cond ?_);simp only [go_sem,simprocAttr])|((refine V_region (by rw [hn];rfl) ?_);intro K hK)|((first|with_reducible refine evOps_n ?_|((with_reducible apply evOps_g);rfl));intro K hK;simp (contextual:=true) only [go_sem,simprocAttr])|with_reducible refine evOps_nil ?_|((with_reducible refine hK _ ?_);clear hK K)|(with_reducible first|refine And.intro ?_ ?_|refine nxt_n ?_|refine nxt_r ?_|refine inR_mk ?_ ?_)|((with_reducible refine evCall_at 73 ?_);refine EvCall.mk (ht) cal_l06Then [(0,2),(1,3),(2,4),(3,5),(4,6),(5,7),(6,8),(7,9),(8,10),(9,11)] [] (by simp [go_sem] <;> (repeat' (first|rfl|constructor))) (by simp [go_sem] <;> (repeat' (first|rfl|constructor))) ?_;all_goals try simp only [go_sem,simprocAttr])|(refine fun (hc : (_ : Bool) = _)=>?_;try simp only [hcS] at hc))
  all_goals try exact om_
  all_goals ((first|refine ret_auto ?_|refine ret_auto' ?_);simp only [go_sem,simprocAttr,Tryz.f140])
theorem cal_l15Units : Callable Tryz.prog 138:=⟨_,Tryz.func138,rfl,rfl⟩
theorem sp_l15Units {f g : Fun} (h : Par f g) : Spec Tryz.prog 138 [funV f,funV g] [] (.sl 0) [(0,⟨1,.arr (intss ((natA f g).take 201))⟩)]:=by
  refine spec_of_V (E:=TE) 0 Tryz.func138 rfl (by simp [Tryz.f138]) fun X hn hX=>?_
  have hf:=sp_l07Find_n (m:=201) h (by decide) (by decide)
  rw [show ((201 : Nat) : Int) = 201 from rfl] at hf
  repeat' (first|(with_reducible first|refine V_seq ?_|refine V_skip ?_|refine V_ret ?_)|((with_reducible refine V_cond ?_);simp only [go_sem,simprocAttr])|((refine V_region (by rw [hn];rfl) ?_);intro K hK)|((first|with_reducible refine evOps_n ?_|((with_reducible apply evOps_g);rfl));intro K hK;simp (contextual:=true) only [go_sem,simprocAttr])|with_reducible refine evOps_nil ?_|((with_reducible refine hK _ ?_);clear hK K)|(with_reducible first|refine And.intro ?_ ?_|refine nxt_n ?_|refine nxt_r ?_|refine inR_mk ?_ ?_)|((with_reducible refine evCall_at 150 ?_);refine EvCall.mk (hf) cal_l07Find [(0,2)] [] (by simp [go_sem] <;> (repeat' (first|rfl|constructor))) (by simp [go_sem] <;> (repeat' (first|rfl|constructor))) ?_;all_goals try simp only [go_sem,simprocAttr])|(refine fun (hc : (_ : Bool) = _)=>?_;try simp only [hcS] at hc))
  all_goals try exact om_
  all_goals ((first|refine ret_auto ?_|refine ret_auto' ?_);simp only [go_sem,simprocAttr,Tryz.f138])
theorem cal_l15Own : Callable Tryz.prog 142:=⟨_,Tryz.func142,rfl,rfl⟩
theorem sp_l15Own {f : Fun} (hb : FunB f) : Spec Tryz.prog 142 [funV f] [] (.agg [iv f.src.ob,.sl 0,.sl 1,.sl 2,.sl 3,iv f.tgt.ob,.sl 4,.sl 5,.sl 6,.sl 7,.sl 8,.sl 9]) [(0,⟨1,.arr (ints f.src.fr)⟩),(1,⟨1,.arr (ints f.src.to)⟩),(2,⟨1,.arr (ints f.src.id)⟩),(3,⟨1,.arr (intss f.src.co)⟩),(4,⟨1,.arr (ints f.tgt.fr)⟩),(5,⟨1,.arr (ints f.tgt.to)⟩),(6,⟨1,.arr (ints f.tgt.id)⟩),(7,⟨1,.arr (intss f.tgt.co)⟩),(8,⟨1,.arr (ints f.obs)⟩),(9,⟨1,.arr (ints f.ars)⟩)]:=by
  refine spec_of_V (E:=TE) 0 Tryz.func142 rfl (by simp [Tryz.f142]) fun X hn hX=>?_
  obtain ⟨b1,b2,b3,b4⟩:=hb
  repeat' (first|(with_reducible first|refine V_seq ?_|refine V_skip ?_|refine V_ret ?_)|((with_reducible refine V_cond ?_);simp only [go_sem,simprocAttr])|((refine V_region (by rw [hn];rfl) ?_);intro K hK)|((first|with_reducible refine evOps_n ?_|((with_reducible apply evOps_g);rfl));intro K hK;simp (contextual:=true) only [go_sem,simprocAttr])|with_reducible refine evOps_nil ?_|((with_reducible refine hK _ ?_);clear hK K)|(with_reducible first|refine And.intro ?_ ?_|refine nxt_n ?_|refine nxt_r ?_|refine inR_mk ?_ ?_)|((with_reducible refine evCall_at 61 ?_);refine EvCall.rq (a:=(sp_l06Make (c:=f.src) (d:=f.tgt) (p:=f.obs) (q:=f.ars) ?_ ?_ ?_ ?_)) (b:=cal_l06Make) (c:=?_);all_goals try simp only [go_sem,simprocAttr])|(refine fun (hc : (_ : Bool) = _)=>?_;try simp only [hcS] at hc))
  all_goals try exact om_
  all_goals ((first|refine ret_auto ?_|refine ret_auto' ?_);simp only [go_sem,simprocAttr,Tryz.f142])
theorem sp_l02Unit_h {c : Cat} {a y : Int} (hs : Shape c) (ha : a ∈ c.hom y y) : Spec Tryz.prog 168 [catV c,iv a] [] (bv (dec (a = c.I y))) []:=by
  obtain ⟨h0,h1⟩:=hom_in ha
  have hu:=sp_l02Unit hs (f:=a.toNat) (by omega)
  rw [Int.toNat_of_nonneg h0] at hu
  have e : decide (c.id.getD (c.fr.getD a.toNat 0).toNat 0 = a) = dec (a = c.I y):=by
    rw [← dec_eq];exact dec_congr (unit_iff ha)
  rw [e] at hu
  exact hu
theorem cal_l16Laws : Callable Tryz.prog 141:=⟨_,Tryz.func141,rfl,rfl⟩
theorem sp_l16Laws {f : Fun} {u j : List Int} (h : EndF f.src f) (hu : u ∈ unitsL f.src f) (hj : j ∈ joinsL f) : Spec Tryz.prog 141 [funV f,.bor [] (ints u),.bor [] (ints j)] [] (bv (dec (LawP f.src f u j))) []:=by
  refine spec_of_V (E:=TE) 0 Tryz.func141 rfl (by simp [Tryz.f141]) fun X hn hX=>?_
  have sc:=h.sc.toShape
  have c0:=sc.ob0
  have c8:=sc.ob8
  have c40:=sc.m40
  have ol:=h.ol
  have al:=h.al
  have ul:=(h.unit hu).1
  have jl:=(h.join hj).1
  have idl:=sc.idl
  repeat' (first|(with_reducible first|refine V_seq ?_|refine V_block ?_|refine V_skip ?_|refine V_ret ?_|refine V_exit ?_)|((with_reducible refine V_cond ?_);simp only [go_sem,simprocAttr])|((first|refine V_region (by rw [hn];rfl) ?_|refine V_drawn hmix (by rw [hn];rfl) ?_);intro K hK)|((first|with_reducible refine evOps_n ?_|((with_reducible apply evOps_g);rfl)|with_reducible refine evOpsD_n ?_|((with_reducible apply evOpsD_g);rfl));intro K hK;simp (contextual:=true) only [go_sem,simprocAttr])|with_reducible refine evOps_nil ?_|((with_reducible refine evOpsD_nil ?_ ?_);kernel_rfl)|((with_reducible refine hK _ ?_);clear hK K)|(with_reducible first|refine And.intro ?_ ?_|refine nxt_n ?_|refine nxt_r ?_|refine nxt_e ?_|refine blk_n ?_|refine blk_r ?_|refine blk_same ?_|refine blk_other (by decide) ?_|refine noG_n ?_|refine noG_r ?_|refine noG_e ?_|refine inR_mk ?_ ?_)|(refine fun (hc : (_ : Bool) = _)=>?_;try simp only [hcS] at hc))
  all_goals try exact om_
  refine V_loopK (G:={x : Nat // x ≤ f.src.ob.toNat ∧ (∀ z,z < x → LawX f.src f u j z)}) (fun ⟨x,_⟩=>[(8,iv x),(3,.ptr 0 0),(7,.ptr 1 0)]) [1,2] (fun ⟨x,_⟩=>[]) [] (fun zz=>f.src.ob.toNat - zz.1) ⟨0,Nat.zero_le _,(fun z hz=>absurd hz (Nat.not_lt_zero z))⟩ ?_ ?_
  · exact Imp.au hX
  rintro ⟨x,hix,hwx⟩
  simp only [go_sem,simprocAttr]
  rcases Nat.lt_or_ge x f.src.ob.toNat with hlx | hgx
  · obtain ⟨y0,y1,u0,fu,jx,uy,fj,jy,c1,c2⟩:=h.at hu hj hlx
    have r1:=rows_len sc fu.1 fu.2
    have r2:=rows_len sc uy.1 uy.2
    have r3:=rows_len sc fj.1 fj.2
    have r4:=rows_len sc jy.1 jy.2
    have t1:=sp_l02Then (c:=f.src) (f:=f.ars.getD (u.getD x 0).toNat 0) (g:=j.getD x 0) fu.1 (by omega) jx.1 (by omega)
    have t2:=sp_l02Then (c:=f.src) (f:=u.getD (f.obs.getD x 0).toNat 0) (g:=j.getD x 0) uy.1 (by omega) jx.1 (by omega)
    have t3:=sp_l02Then (c:=f.src) (f:=f.ars.getD (j.getD x 0).toNat 0) (g:=j.getD x 0) fj.1 (by omega) jx.1 (by omega)
    have t4:=sp_l02Then (c:=f.src) (f:=j.getD (f.obs.getD x 0).toNat 0) (g:=j.getD x 0) jy.1 (by omega) jx.1 (by omega)
    have n1:=sp_l02Unit_h sc c1
    have n2:=sp_l02Unit_h sc c2
    repeat' (first|(with_reducible first|refine V_seq ?_|refine V_block ?_|refine V_skip ?_|refine V_ret ?_|refine V_exit ?_)|((with_reducible refine V_cond ?_);simp only [go_sem,simprocAttr])|((first|refine V_region (by rw [hn];rfl) ?_|refine V_drawn hmix (by rw [hn];rfl) ?_);intro K hK)|((first|with_reducible refine evOps_n ?_|((with_reducible apply evOps_g);rfl)|with_reducible refine evOpsD_n ?_|((with_reducible apply evOpsD_g);rfl));intro K hK;simp (contextual:=true) only [go_sem,simprocAttr])|with_reducible refine evOps_nil ?_|((with_reducible refine evOpsD_nil ?_ ?_);kernel_rfl)|((with_reducible refine hK _ ?_);clear hK K)|(with_reducible first|refine And.intro ?_ ?_|refine nxt_n ?_|refine nxt_r ?_|refine nxt_e ?_|refine blk_n ?_|refine blk_r ?_|refine blk_same ?_|refine blk_other (by decide) ?_|refine noG_n ?_|refine noG_r ?_|refine noG_e ?_|refine inR_mk ?_ ?_)|((with_reducible refine (id ?_ : EvCall _ _ [_,iv (f.ars.getD (u.getD x 0).toNat 0),_] _ _));refine EvCall.mk (t1) cal_l02Then [] [] (by simp [go_sem] <;> (repeat' (first|rfl|constructor))) (by simp [go_sem] <;> (repeat' (first|rfl|constructor))) ?_;all_goals try simp only [go_sem,simprocAttr])|((with_reducible refine (id ?_ : EvCall _ _ [_,iv (u.getD (f.obs.getD x 0).toNat 0),_] _ _));refine EvCall.mk (t2) cal_l02Then [] [] (by simp [go_sem] <;> (repeat' (first|rfl|constructor))) (by simp [go_sem] <;> (repeat' (first|rfl|constructor))) ?_;all_goals try simp only [go_sem,simprocAttr])|((with_reducible refine (id ?_ : EvCall _ _ [_,iv (f.ars.getD (j.getD x 0).toNat 0),_] _ _));refine EvCall.mk (t3) cal_l02Then [] [] (by simp [go_sem] <;> (repeat' (first|rfl|constructor))) (by simp [go_sem] <;> (repeat' (first|rfl|constructor))) ?_;all_goals try simp only [go_sem,simprocAttr])|((with_reducible refine (id ?_ : EvCall _ _ [_,iv (j.getD (f.obs.getD x 0).toNat 0),_] _ _));refine EvCall.mk (t4) cal_l02Then [] [] (by simp [go_sem] <;> (repeat' (first|rfl|constructor))) (by simp [go_sem] <;> (repeat' (first|rfl|constructor))) ?_;all_goals try simp only [go_sem,simprocAttr])|((with_reducible refine (id ?_ : EvCall _ _ [_,iv (f.src.C (f.ars.getD (u.getD x 0).toNat 0) (j.getD x 0))] _ _));refine EvCall.mk (n1) cal_l02Unit [] [] (by simp [go_sem] <;> (repeat' (first|rfl|constructor))) (by simp [go_sem] <;> (repeat' (first|rfl|constructor))) ?_;all_goals try simp only [go_sem,simprocAttr])|((with_reducible refine (id ?_ : EvCall _ _ [_,iv (f.src.C (u.getD (f.obs.getD x 0).toNat 0) (j.getD x 0))] _ _));refine EvCall.mk (n2) cal_l02Unit [] [] (by simp [go_sem] <;> (repeat' (first|rfl|constructor))) (by simp [go_sem] <;> (repeat' (first|rfl|constructor))) ?_;all_goals try simp only [go_sem,simprocAttr])|(refine fun (hc : (_ : Bool) = _)=>?_;try simp only [hcS] at hc))
    all_goals try exact om_
    · (first|refine ret_auto ?_|refine ret_auto' ?_);simp only [go_sem,simprocAttr,Tryz.f141]
      exact bv_f fun s=>hc (s x hlx).2.1
    · (first|refine ret_auto ?_|refine ret_auto' ?_);simp only [go_sem,simprocAttr,Tryz.f141]
      exact bv_f fun s=>hc (s x hlx).2.2
    · refine ⟨⟨x + 1,by omega,(by exact law_succ hwx (law_x (by assumption) (by assumption) hc))⟩,by simp only;omega,Imp.ao hX⟩
    · (first|refine ret_auto ?_|refine ret_auto' ?_);simp only [go_sem,simprocAttr,Tryz.f141]
      exact bv_f fun s=>hc (s x hlx).1
  · have ex : x = f.src.ob.toNat:=by omega
    subst ex
    repeat' (first|(with_reducible first|refine V_seq ?_|refine V_block ?_|refine V_skip ?_|refine V_ret ?_|refine V_exit ?_)|((with_reducible refine V_cond ?_);simp only [go_sem,simprocAttr])|((first|refine V_region (by rw [hn];rfl) ?_|refine V_drawn hmix (by rw [hn];rfl) ?_);intro K hK)|((first|with_reducible refine evOps_n ?_|((with_reducible apply evOps_g);rfl)|with_reducible refine evOpsD_n ?_|((with_reducible apply evOpsD_g);rfl));intro K hK;simp (contextual:=true) only [go_sem,simprocAttr])|with_reducible refine evOps_nil ?_|((with_reducible refine evOpsD_nil ?_ ?_);kernel_rfl)|((with_reducible refine hK _ ?_);clear hK K)|(with_reducible first|refine And.intro ?_ ?_|refine nxt_n ?_|refine nxt_r ?_|refine nxt_e ?_|refine blk_n ?_|refine blk_r ?_|refine blk_same ?_|refine blk_other (by decide) ?_|refine noG_n ?_|refine noG_r ?_|refine noG_e ?_|refine inR_mk ?_ ?_)|(refine fun (hc : (_ : Bool) = _)=>?_;try simp only [hcS] at hc))
    all_goals try exact om_
    · (first|refine ret_auto ?_|refine ret_auto' ?_);simp only [go_sem,simprocAttr,Tryz.f141]
      exact bv_t hwx
end Go.Eng
end
