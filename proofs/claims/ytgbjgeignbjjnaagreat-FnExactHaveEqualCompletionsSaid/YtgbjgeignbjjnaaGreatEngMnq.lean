/- The engine, part MN: a map that numbers the numbers it has met, in their order. -/
import Derived.Test.YtgbjgeignbjjnaaGreatKex
import Derived.Maps.OwnSet
set_option linter.unusedVariables false
set_option linter.unusedSimpArgs false
namespace Go.Eng
open Go Go.Maps Go.RowKit Go.WideMaps Go.Cats
theorem idxO_app {S : List Int} {v x : Int} {i : Nat} (h : i < S.length) : idxO (S ++ [v]) x i = idxO S x i:=by
  unfold idxO
  rw [List.getD_eq_getElem?_getD,List.getElem?_append_left h,← List.getD_eq_getElem?_getD]
theorem scan_app {S : List Int} {v x : Int} : ∀ i,i ≤ S.length → scan i (idxO (S ++ [v]) x) = scan i (idxO S x)
  | 0,_=>rfl
  | i + 1,h=>by rw [scan_succ,scan_succ,scan_app i (by omega),idxO_app (by omega)]
theorem idxOf_app {S : List Int} {v x : Int} : idxOf (S ++ [v]) x = if 0 ≤ idxOf S x then idxOf S x else if v = x then (S.length : Int) else -1:=by
  have e : idxO (S ++ [v]) x S.length = if v = x then some (S.length : Int) else none:=by
    unfold idxO
    rw [List.getD_eq_getElem?_getD,List.getElem?_append_right (Nat.le_refl _),Nat.sub_self]
    rfl
  have e2 : idxOf (S ++ [v]) x = ((scan S.length (idxO S x)).or (if v = x then some (S.length : Int) else none)).getD (-1):=by
    unfold idxOf
    rw [List.length_append,List.length_singleton,scan_succ,scan_app _ (Nat.le_refl _),e]
  rw [e2]
  have e3 : idxOf S x = (scan S.length (idxO S x)).getD (-1):=rfl
  cases hs : scan S.length (idxO S x) with
  | none =>
    rw [hs] at e3
    simp only [Option.getD_none] at e3
    rw [e3,if_neg (show ¬ (0 : Int) ≤ -1 by decide)]
    split <;> rfl
  | some r =>
    rw [hs] at e3
    simp only [Option.getD_some] at e3
    obtain ⟨i,hi,k⟩:=scan_some hs
    have : 0 ≤ r:=by
      unfold idxO at k
      split at k
      · injection k with k;omega
      · cases k
    rw [e3,if_pos this];rfl
structure MapN (P : Program) (t k e : TypeId) : Prop where
  und : P.underlying t = some (.map k e)
  key : P.underlying k = some (.int .i64)
  el : P.underlying e = some (.int .i64)
  z : ∀ w,(zeroValue e).run P w = .ok (.int .i64 0) w
def NumOk (D : DataW Unit) (S : List Int) : Prop:=size D = S.length ∧ ∀ x,(idxOf S x < 0 → has D (.int .i64 x) = false) ∧ (0 ≤ idxOf S x → has D (.int .i64 x) = true ∧ ∀ z,D.atKey (.int .i64 x) z = .lit (.int .i64 (idxOf S x)))
def numAb (P : Program) (k e : TypeId) (S : List Int) : Ab :=
  ⟨fun w v F=>∃ b D,v = .map (some b) ∧ F b ∧ w.ownsMap P k (plainElem P e) b S.length D ∧ NumOk D S,by
    rintro w w' v F ag ⟨b,D,h1,h2,⟨es,clock,h3,h4⟩,h5⟩
    exact ⟨b,D,h1,h2,⟨es,clock,(ag b h2).trans h3,h4⟩,h5⟩⟩
def numD (P : Program) (k e : TypeId) (S : List Int) : Dt:=.ab (numAb P k e S)
theorem num_of_own {P : Program} {k e : TypeId} {S : List Int} {w : World} {F : Nat → Prop} {u : Value} (h : OwV w F (numD P k e S) u) : ∃ b D,u = .map (some b) ∧ F b ∧ w.ownsMap P k (plainElem P e) b S.length D ∧ NumOk D S:=by
  simp only [numD,OwV] at h
  obtain ⟨_,F',h1,b,D,h2,h3,h4⟩:=h
  exact ⟨b,D,h2,h1 b h3,h4⟩
theorem num_own {P : Program} {k e : TypeId} {S : List Int} {w : World} {F : Nat → Prop} {b : Nat} {D : DataW Unit} (hb : F b) (h : w.ownsMap P k (plainElem P e) b S.length D) (h2 : NumOk D S) : OwV w F (numD P k e S) (.map (some b)):=by
  simp only [numD,OwV]
  exact ⟨rfl,F,fun _ h=>h,b,D,rfl,hb,h,h2⟩
theorem numOk_nil : NumOk (.map []) []:=⟨rfl,fun x=>⟨fun _=>rfl,fun h=>absurd h (by rw [show idxOf [] x = -1 from rfl];decide)⟩⟩
theorem NumOk.put {D : DataW Unit} {S : List Int} {v : Int} (h : NumOk D S) (hT : Tidy D) (hv : idxOf S v < 0) : NumOk (D.put (.int .i64 v) (.lit (.int .i64 S.length))) (S ++ [v]):=by
  obtain ⟨h1,h2⟩:=h
  refine ⟨?_,fun x=>?_⟩
  · rw [size_put hT,(h2 v).1 hv,List.length_append,List.length_singleton,h1];rfl
  · have hk : WideAt.IsKeyLit (.int .i64 v):=trivial
    rw [idxOf_app]
    by_cases hx : v = x
    · subst hx
      rw [if_neg (by omega),if_pos rfl]
      exact ⟨fun q=>by omega,fun _=>⟨has_put_same hT.isMap hk _,fun z=>atKey_put_same hT.isMap hk _ z⟩⟩
    · have hne : (Lit.int .i64 x) ≠ .int .i64 v:=fun e=>hx (by injection e with _ e;exact e.symm)
      rw [has_put_other hne]
      have hat:=fun z=>atKey_put_other (D:=D) hne (.lit (.int .i64 S.length)) z
      by_cases hi : 0 ≤ idxOf S x
      · rw [if_pos hi]
        exact ⟨fun q=>absurd q (by omega),fun _=>⟨((h2 x).2 hi).1,fun z=>by rw [hat z];exact ((h2 x).2 hi).2 z⟩⟩
      · rw [if_neg hi,if_neg hx]
        exact ⟨fun _=>(h2 x).1 (by omega),fun q=>absurd q (by decide)⟩
section
variable {E : Env} {d : Option Nat} {σ : Ss} {K : Ss → Prop}
theorem hook_makeN {t k e : TypeId} (hf : σ.get σ.nx = ⟨0,.gone⟩) (hK : K (σ.ap d (.sl σ.nx) [(σ.nx,⟨1,.arr (numD E.P k e [])⟩)] (σ.nx + 1))) : EvHook E d (.makeMap t none) σ K:=by
  refine ⟨[σ.nx],_,[(σ.nx,_)],_,fun X o _ hd ho hdn tm rs h1 h2=>?_,hK,fun i hi=>.inr hi⟩
  have hu : rs σ.nx = ⟨0,.gone⟩:=(h2 _ (by simp)).trans hf
  refine SStep0.inn ?_
  rintro a w K Q ⟨hdf,hn,c,hp,ht,hpin⟩ hK
  have hag : Agree (fun b=>b < w.heap.size) w (w.alloc (.map #[] 0)):=fun b hb=>Go.RowKit.Below.heap_alloc w _ b hb
  obtain ⟨hp',hx⟩:=new_res (X:=X) (w':=w.alloc (.map #[] 0)) hp σ.nx hu ⟨w.heap.size,.map (some w.heap.size),fun b=>b = w.heap.size⟩ (.arr (numD E.P k e [])) rfl rfl rfl (by simp) hag
    (fun b hb=>by have hb' : b = w.heap.size:=hb;subst hb';simp) rfl (fun _=>⟨num_own rfl (World.ownsMap_made w E.P k (plainElem E.P e)) numOk_nil,fun _ _ _ h=>by cases h⟩)
  unfold Oper.wp
  have hrun : (execOp a.eval o).run E.P w = .ok (.value (.map (some w.heap.size))) (w.alloc (.map #[] 0)):=by
    simp [execOp,ho,run_makeMap]
  rw [hrun]
  refine hK _ _ (gam_put hdf hn ht hpin hx hp' (by rw [hd];exact hdn) ?_)
  simp [Sv.ok,upd_same]
theorem hook_lookN {t k e : TypeId} {m x : Operand} {i cv : Nat} {S : List Int} {v : Int} (hT : MapN E.P t k e) (hm : σ.opd m = .sl i) (hi : σ.get i = ⟨cv,.arr (numD E.P k e S)⟩) (hx : σ.opd x = iv v) (hv : inR v)
    (hK : K (σ.ap d (.tup [iv (if 0 ≤ idxOf S v then idxOf S v else 0),bv (decide (0 ≤ idxOf S v))]) [] σ.nx)) : EvHook E d (.lookup t m x true) σ K:=by
  refine ⟨[i],_,[],_,fun X o _ hd ho hdn tm rs h1 h2=>?_,hK,fun j hj=>.inl ?_⟩
  · have hr : rs i = ⟨cv,.arr (numD E.P k e S)⟩:=(h2 i (by simp)).trans hi
    have em : opd tm m = σ.opd m:=h1 m (by rw [ho];simp [Op.operands])
    have ex : opd tm x = σ.opd x:=h1 x (by rw [ho];simp [Op.operands])
    refine step_quiet (E:=E) (by rw [hd];exact hdn) fun ac w c hp h=>?_
    have hm1:=h m
    have hx1:=h x
    rw [em,hm] at hm1
    rw [ex,hx] at hx1
    simp only [Sv.ok] at hm1 hx1
    have hres:=hp.res i
    rw [hr] at hres
    obtain ⟨b,D,hb1,hb2,hown,hD⟩:=num_of_own hres.1
    obtain ⟨u,ps,hrun,hat⟩:=hown.look_ok (t:=t) (int_keyed hT.key) hT.und (hT.z w) (zd:=.lit (.int .i64 0)) (zp:=[]) (plainElem_int hT.el (by decide)) (keyI hT.key hv)
    have key : u = .int .i64 (if 0 ≤ idxOf S v then idxOf S v else 0) ∧ has D (.int .i64 v) = decide (0 ≤ idxOf S v):=by
      obtain ⟨n,hu,hz,_⟩:=plainElem_int_inv hT.el hat
      have hz1 : D.atKey (.int .i64 v) (.lit (.int .i64 0)) = .lit (.int .i64 n):=congrArg Prod.fst hz
      by_cases q : 0 ≤ idxOf S v
      · obtain ⟨g1,g2⟩:=(hD.2 v).2 q
        rw [g2] at hz1
        have : idxOf S v = n:=by injection hz1 with h;injection h
        rw [if_pos q,decide_eq_true q,g1,this]
        exact ⟨hu,rfl⟩
      · have g1:=(hD.2 v).1 (by omega)
        rw [atKey_of_not_has g1] at hz1
        have : (0 : Int) = n:=by injection hz1 with h;injection h
        rw [if_neg q,decide_eq_false q,g1,this]
        exact ⟨hu,rfl⟩
    refine ⟨.tuple #[u,.bool (has D (.int .i64 v))],?_,?_⟩
    · simp [execOp,ho,hm1.2,hb1,hx1,hrun]
    · rw [key.1,key.2]
      simp [Sv.ok,Sv.okL]
  · simp only [List.mem_singleton] at hj
    subst hj
    exact reach_self (by simp [Op.operands,hm,Sv.ids])
theorem hook_putN {t k e : TypeId} {m x v : Operand} {i cv : Nat} {S : List Int} {y : Int} (hT : MapN E.P t k e) (hd0 : d = none) (hm : σ.opd m = .sl i) (hi : σ.get i = ⟨cv,.arr (numD E.P k e S)⟩)
    (hx : σ.opd x = iv y) (hy : inR y) (hv : σ.opd v = iv S.length) (hn : S.length < maxLen) (hnew : idxOf S y < 0)
    (hK : K (σ.ap d .dead [(i,⟨cv + 1,.arr (numD E.P k e (S ++ [y]))⟩)] σ.nx)) : EvHook E d (.mapUpdate t m x v) σ K:=by
  refine ⟨[i],_,_,_,fun X o _ hd ho hdn tm rs h1 h2=>?_,hK,fun j hj=>.inr hj⟩
  have hr : rs i = ⟨cv,.arr (numD E.P k e S)⟩:=(h2 i (by simp)).trans hi
  have em : opd tm m = σ.opd m:=h1 m (by rw [ho];simp [Op.operands])
  have ex : opd tm x = σ.opd x:=h1 x (by rw [ho];simp [Op.operands])
  have ev : opd tm v = σ.opd v:=h1 v (by rw [ho];simp [Op.operands])
  refine SStep0.inn ?_
  rintro a w K Q ⟨hdf,hnn,c,hp,ht,hpin⟩ hK
  have hm1:=opd_ok ht m
  have hx1:=opd_ok ht x
  have hv1:=opd_ok ht v
  rw [em,hm] at hm1
  rw [ex,hx] at hx1
  rw [ev,hv] at hv1
  simp only [Sv.ok] at hm1 hx1 hv1
  have hres:=hp.res i
  rw [hr] at hres
  obtain ⟨b,D,hb1,hb2,hown,hD⟩:=num_of_own hres.1
  have hwf : (Lit.int .i64 (S.length : Int)).wf = true:=by
    unfold maxLen at hn
    simp [Lit.wf,IntKind.min,IntKind.max,IntKind.signed,IntKind.bits];omega
  obtain ⟨w',hrun,hown',hg⟩:=hown.update (t:=t) (int_keyed hT.key) hT.und hn (keyI hT.key hy) (plainElem_int hT.el hwf)
  have hD':=hD.put (hown.tidy (int_keyed hT.key)) hnew
  have hc1 : 1 ≤ (rs i).cv:=hm1.1
  have hsz : w'.heap.size = w.heap.size:=by
    obtain ⟨es,clock,g1,g2,g3,_⟩:=hown
    obtain ⟨es',clock',hrun3,_⟩:=Maps.fit_store (R':=plainElem (H:=Unit) E.P e) (int_keyed hT.key) hT.und g1 g2 (Nat.lt_of_le_of_lt g3 hn) (fun _ _ _ _ h=>h) (keyI hT.key hy) (plainElem_int hT.el hwf)
    rw [hrun3] at hrun
    injection hrun with _ e
    rw [← e]
    simp [Go.ChangeMaps.setBlock]
  have hag : Agree (fun b=>¬ (c i).fp b) w w':=fun j hj=>by
    by_cases hlt : j < w.heap.size
    · exact hg.block j hlt (fun h=>hj (by injection h with h;rw [h];exact hb2))
    · rw [Array.getElem?_eq_none (by omega),Array.getElem?_eq_none (by omega)]
  obtain ⟨hp',hx'⟩:=change_res (X:=X) (w':=w') hp i hc1 (cv + 1) (by rw [hr];exact Nat.lt_succ_self _) (.arr (numD E.P k e (S ++ [y]))) hg.os hg.tape hg.output hsz hag (fun _=>⟨by rw [hb1];exact num_own hb2 (by rw [List.length_append,List.length_singleton];exact hown') hD',fun _ _ _ h=>by rw [hb1] at h;cases h⟩)
  unfold Oper.wp
  have hrun2 : (execOp a.eval o).run E.P w = .ok .skip w':=by
    simp [execOp,ho,hm1.2,hb1,hx1,hv1,hrun]
  rw [hrun2]
  exact hK _ _ (gam_put hdf hnn ht hpin hx' hp' (by rw [hd];exact hdn) (by simp [Sv.ok]))
theorem hook_lenN {X : Cx} {t k e : TypeId} {m : Operand} {i cv : Nat} {S : List Int} (hT : MapN E.P t k e) (hm : σ.opd m = .sl i) (hi : σ.get i = ⟨cv,.arr (numD E.P k e S)⟩)
    (hK : K (σ.ap d (iv S.length) [] σ.nx)) : HkX X E d (.call { callee:=.builtin .len,args:=#[m],argTypes:=#[t] }) σ K:=by
  refine ⟨[i],_,[],_,fun w1 U1 ds hrb o hd ho hdn tm rs h1 h2=>?_,hK,fun j hj=>.inl ?_⟩
  · have hr : rs i = ⟨cv,.arr (numD E.P k e S)⟩:=(h2 i (by simp)).trans hi
    have em : opd tm m = σ.opd m:=h1 m (by rw [ho];simp [Op.operands,Call.operands])
    refine step_quiet (E:=E) (by rw [hd];exact hdn) fun ac w c hp h=>?_
    have hm1:=h m
    rw [em,hm] at hm1
    simp only [Sv.ok] at hm1
    have hres:=hp.res i
    rw [hr] at hres
    obtain ⟨b,D,hb1,hb2,hown,hD⟩:=num_of_own hres.1
    have hl:=hown.len hT.und o.type
    rw [hD.1] at hl
    refine ⟨.int .i64 S.length,?_,by simp [Sv.ok]⟩
    simp [execOp,ho,resolve,invoke,builtin,hm1.2,hb1,hl]
  · simp only [List.mem_singleton] at hj
    subst hj
    exact reach_self (by simp [Op.operands,Call.operands,hm,Sv.ids])
end
end Go.Eng
