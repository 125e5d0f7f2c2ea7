/- The engine, part FT: a functor is taken out of a list of one. -/
import Derived.Test.YtdphbdoabhidgaaGreatKux
set_option linter.unusedVariables false
set_option linter.unusedSimpArgs false
namespace Go.Eng
open Go Go.Cats
theorem holL_len (hs : List (Nat × Sv)) (ts : List (Nat × Nat)) : ∀ (ds : List Dt) (p : Nat),(holL hs ts p ds).length = ds.length
  | [],_=>rfl
  | d :: ds,p=>by simp [holL,holL_len hs ts ds]
section
variable {E : Env} {dst : Option Nat} {σ : Ss} {K : Ss → Prop}
theorem hook_holAgg {t : TypeId} {x : Operand} {i p cv sz : Nat} {df : Dt} {cs : List Dt} {hs : List (Nat × Sv)} (hk : (E.ti t).known = true) (ha : (E.ti t).agg = true) (hx : σ.opd x = .ptr i p) (hi : σ.get i = ⟨cv,.hol (.sl sz df cs) hs⟩) (hl : p + (E.ti t).size ≤ cs.length)
    (hK : K (σ.ap dst (.agg (((holL hs [(i,cv)] 0 cs).drop p).take (E.ti t).size)) [] σ.nx)) : EvHook E dst (.load t x) σ K:=by
  refine ⟨[i],_,[],_,fun X o _ hd ho hdn tm rs h1 h2=>?_,hK,fun j hj=>.inl ?_⟩
  · have hr : rs i = ⟨cv,.hol (.sl sz df cs) hs⟩:=(h2 i (by simp)).trans hi
    have ex : opd tm x = σ.opd x:=h1 x (by rw [ho];simp [Op.operands])
    refine step_quiet (E:=E) (by rw [hd];exact hdn) fun ac w c hp h=>?_
    have hx1:=h x
    rw [ex,hx] at hx1
    simp only [Sv.ok] at hx1
    have h2:=hp.res i
    rw [hr] at h2
    have hc1 : 1 ≤ cv:=by have:=hx1.1;rw [hr] at this;exact this
    obtain ⟨vs,h4,h5⟩:=hol_cells hr hc1 h2
    simp only at h4
    have h6:=Sv.okL.slice _ vs p (E.ti t).size h4
    have hcl:=Sv.okL.length h4
    rw [holL_len] at hcl
    have hlen : ((vs.drop p).take (E.ti t).size).length = (E.ti t).size:=by simp;omega
    refine ⟨.agg ((vs.drop p).take (E.ti t).size).toArray,?_,?_⟩
    · have:=loadAt_agg (E:=E) (t:=t) hk ha (b:=(c i).blk) (p:=p) (w:=w) (vs:=(vs.drop p).take (E.ti t).size) hlen (fun k v hkv=>by
        rw [List.getElem?_take] at hkv
        split at hkv
        · rw [List.getElem?_drop] at hkv;exact h5 _ _ hkv
        · cases hkv)
      simp only [execOp,ho,hx1.2,Sem.run_bind,this,Result.andThen_ok]
      rfl
    · simp only [Sv.ok];exact ⟨_,rfl,h6⟩
  · rw [List.mem_singleton] at hj
    subst hj
    exact reach_self (by simp [Op.operands,hx,Sv.ids])
def funH (j : Nat) : List (Nat × Sv):=[(11,.sl (j + 9)),(10,.sl (j + 8)),(9,.sl (j + 7)),(8,.sl (j + 6)),(7,.sl (j + 5)),(6,.sl (j + 4)),(4,.sl (j + 3)),(3,.sl (j + 2)),(2,.sl (j + 1)),(1,.sl j)]
theorem hook_takeFun {t : TypeId} {x : Operand} {i cv j : Nat} {g : Fun} (hk : (E.ti t).known = true) (ha : (E.ti t).agg = true) (hz : (E.ti t).size = 12) (hx : σ.opd x = .ptr i 0) (hi : σ.get i = ⟨cv,.hol (funsD [g]) (funH j)⟩)
    (hK : K (σ.ap dst (.agg [iv g.src.ob,.sl j,.sl (j + 1),.sl (j + 2),.sl (j + 3),iv g.tgt.ob,.sl (j + 4),.sl (j + 5),.sl (j + 6),.sl (j + 7),.sl (j + 8),.sl (j + 9)]) [] σ.nx)) : EvHook E dst (.load t x) σ K:=by
  refine hook_holAgg (cv:=cv) (sz:=12) (df:=.v (.int .i64 0)) (cs:=funC g) (hs:=funH j) hk ha hx (by rw [hi];simp [funsD]) (by rw [hz];simp [funC]) ?_
  rw [hz]
  exact hK
end
theorem Imp.open1 {X : Cx} {tm : List (Nat × Sv)} {rs : List (Nat × Rs)} {nx : Nat} (i k cv : Nat) (d e : Dt) (hs : List (Nat × Sv)) (hi : rsL rs i = ⟨cv,.hol d hs⟩ ∨ (rsL rs i = ⟨cv,.arr d⟩ ∧ hs = [])) (hcv : 1 ≤ cv) (hkk : k < d.nc) (hh : hlk hs k = none) (he : d.at k = e) (hsl : e.isSl = true) (hf : rsL rs nx = ⟨0,.gone⟩) :
    Imp X ⟨tm,rs,nx⟩ ⟨tm,(i,⟨cv + 1,.hol d ((k,.sl nx) :: hs)⟩) :: (nx,⟨1,.arr e⟩) :: rs,nx + 1⟩:=by
  subst he
  have e : ((⟨tm,rs,nx⟩ : Ss).get i).cv = cv:=by
    unfold Ss.get
    rcases hi with hi|⟨hi,_⟩ <;> rw [hi]
  have h:=Imp.open_ (X:=X) (σ:=⟨tm,rs,nx⟩) i k d hs (by
    unfold Ss.get
    rcases hi with hi|⟨hi,h2⟩
    · rw [hi];exact .inl rfl
    · rw [hi];exact .inr ⟨rfl,h2⟩) (by rw [e];exact hcv) hkk hh hsl hf
  rw [e] at h
  exact h
def takeL (i cv nx : Nat) (g : Fun) (rs : List (Nat × Rs)) : List (Nat × Rs):=(i,⟨cv + 10,.hol (funsD [g]) (funH nx)⟩) :: (nx + 9,⟨1,.arr (ints g.ars)⟩) :: (i,⟨cv + 9,.hol (funsD [g]) [(10,.sl (nx + 8)),(9,.sl (nx + 7)),(8,.sl (nx + 6)),(7,.sl (nx + 5)),(6,.sl (nx + 4)),(4,.sl (nx + 3)),(3,.sl (nx + 2)),(2,.sl (nx + 1)),(1,.sl nx)]⟩) :: (nx + 8,⟨1,.arr (ints g.obs)⟩) :: (i,⟨cv + 8,.hol (funsD [g]) [(9,.sl (nx + 7)),(8,.sl (nx + 6)),(7,.sl (nx + 5)),(6,.sl (nx + 4)),(4,.sl (nx + 3)),(3,.sl (nx + 2)),(2,.sl (nx + 1)),(1,.sl nx)]⟩) :: (nx + 7,⟨1,.arr (intss g.tgt.co)⟩) :: (i,⟨cv + 7,.hol (funsD [g]) [(8,.sl (nx + 6)),(7,.sl (nx + 5)),(6,.sl (nx + 4)),(4,.sl (nx + 3)),(3,.sl (nx + 2)),(2,.sl (nx + 1)),(1,.sl nx)]⟩) :: (nx + 6,⟨1,.arr (ints g.tgt.id)⟩) :: (i,⟨cv + 6,.hol (funsD [g]) [(7,.sl (nx + 5)),(6,.sl (nx + 4)),(4,.sl (nx + 3)),(3,.sl (nx + 2)),(2,.sl (nx + 1)),(1,.sl nx)]⟩) :: (nx + 5,⟨1,.arr (ints g.tgt.to)⟩) :: (i,⟨cv + 5,.hol (funsD [g]) [(6,.sl (nx + 4)),(4,.sl (nx + 3)),(3,.sl (nx + 2)),(2,.sl (nx + 1)),(1,.sl nx)]⟩) :: (nx + 4,⟨1,.arr (ints g.tgt.fr)⟩) :: (i,⟨cv + 4,.hol (funsD [g]) [(4,.sl (nx + 3)),(3,.sl (nx + 2)),(2,.sl (nx + 1)),(1,.sl nx)]⟩) :: (nx + 3,⟨1,.arr (intss g.src.co)⟩) :: (i,⟨cv + 3,.hol (funsD [g]) [(3,.sl (nx + 2)),(2,.sl (nx + 1)),(1,.sl nx)]⟩) :: (nx + 2,⟨1,.arr (ints g.src.id)⟩) :: (i,⟨cv + 2,.hol (funsD [g]) [(2,.sl (nx + 1)),(1,.sl nx)]⟩) :: (nx + 1,⟨1,.arr (ints g.src.to)⟩) :: (i,⟨cv + 1,.hol (funsD [g]) [(1,.sl nx)]⟩) :: (nx,⟨1,.arr (ints g.src.fr)⟩) :: rs
theorem rsL_free {nx : Nat} : ∀ {rs : List (Nat × Rs)},rs.all (fun p=>decide (p.1 < nx)) = true → ∀ k,rsL rs (nx + k) = ⟨0,.gone⟩
  | [],_,_=>rfl
  | (i,r) :: rs,h,k=>by
    simp only [List.all_cons,Bool.and_eq_true,decide_eq_true_eq] at h
    rw [rsL_cons,if_neg (by omega)]
    exact rsL_free h.2 k
theorem Imp.takeFun {X : Cx} {tm : List (Nat × Sv)} {rs : List (Nat × Rs)} {nx : Nat} (i cv : Nat) (g : Fun) (hi : rsL rs i = ⟨cv,.arr (funsD [g])⟩) (hcv : 1 ≤ cv) (hf : ∀ k,k < 10 → rsL rs (nx + k) = ⟨0,.gone⟩) :
    Imp X ⟨tm,rs,nx⟩ ⟨tm,takeL i cv nx g rs,nx + 10⟩:=by
  have hne : ∀ k,k < 10 → i ≠ nx + k:=fun k hk e=>by have:=hf k hk;rw [← e,hi] at this;cases this
  have n0:=hne 0 (by decide);have n1:=hne 1 (by decide);have n2:=hne 2 (by decide);have n3:=hne 3 (by decide);have n4:=hne 4 (by decide)
  have n5:=hne 5 (by decide);have n6:=hne 6 (by decide);have n7:=hne 7 (by decide);have n8:=hne 8 (by decide);have n9:=hne 9 (by decide)
  have f0:=hf 0 (by decide);have f1:=hf 1 (by decide);have f2:=hf 2 (by decide);have f3:=hf 3 (by decide);have f4:=hf 4 (by decide)
  have f5:=hf 5 (by decide);have f6:=hf 6 (by decide);have f7:=hf 7 (by decide);have f8:=hf 8 (by decide);have f9:=hf 9 (by decide)
  have hnc : (funsD [g]).nc = 12:=rfl
  simp only [Nat.add_zero] at n0 f0
  unfold takeL
  refine Imp.trans (Imp.open1 i 1 cv _ (ints g.src.fr) _ (.inr ⟨hi,rfl⟩) hcv (by rw [hnc];decide) rfl rfl rfl f0) ?_
  refine Imp.trans (Imp.open1 i 2 (cv + 1) _ (ints g.src.to) _ (.inl (by rw [rsL_cons,if_pos rfl])) (by omega) (by rw [hnc];decide) rfl rfl rfl (by rw [rsL_cons,if_neg (by omega),rsL_cons,if_neg (by omega)];exact f1)) ?_
  refine Imp.trans (Imp.open1 i 3 (cv + 2) _ (ints g.src.id) _ (.inl (by rw [rsL_cons,if_pos rfl])) (by omega) (by rw [hnc];decide) rfl rfl rfl (by rw [rsL_cons,if_neg (by omega),rsL_cons,if_neg (by omega),rsL_cons,if_neg (by omega),rsL_cons,if_neg (by omega)];exact f2)) ?_
  refine Imp.trans (Imp.open1 i 4 (cv + 3) _ (intss g.src.co) _ (.inl (by rw [rsL_cons,if_pos rfl])) (by omega) (by rw [hnc];decide) rfl rfl rfl (by rw [rsL_cons,if_neg (by omega),rsL_cons,if_neg (by omega),rsL_cons,if_neg (by omega),rsL_cons,if_neg (by omega),rsL_cons,if_neg (by omega),rsL_cons,if_neg (by omega)];exact f3)) ?_
  refine Imp.trans (Imp.open1 i 6 (cv + 4) _ (ints g.tgt.fr) _ (.inl (by rw [rsL_cons,if_pos rfl])) (by omega) (by rw [hnc];decide) rfl rfl rfl (by rw [rsL_cons,if_neg (by omega),rsL_cons,if_neg (by omega),rsL_cons,if_neg (by omega),rsL_cons,if_neg (by omega),rsL_cons,if_neg (by omega),rsL_cons,if_neg (by omega),rsL_cons,if_neg (by omega),rsL_cons,if_neg (by omega)];exact f4)) ?_
  refine Imp.trans (Imp.open1 i 7 (cv + 5) _ (ints g.tgt.to) _ (.inl (by rw [rsL_cons,if_pos rfl])) (by omega) (by rw [hnc];decide) rfl rfl rfl (by rw [rsL_cons,if_neg (by omega),rsL_cons,if_neg (by omega),rsL_cons,if_neg (by omega),rsL_cons,if_neg (by omega),rsL_cons,if_neg (by omega),rsL_cons,if_neg (by omega),rsL_cons,if_neg (by omega),rsL_cons,if_neg (by omega),rsL_cons,if_neg (by omega),rsL_cons,if_neg (by omega)];exact f5)) ?_
  refine Imp.trans (Imp.open1 i 8 (cv + 6) _ (ints g.tgt.id) _ (.inl (by rw [rsL_cons,if_pos rfl])) (by omega) (by rw [hnc];decide) rfl rfl rfl (by rw [rsL_cons,if_neg (by omega),rsL_cons,if_neg (by omega),rsL_cons,if_neg (by omega),rsL_cons,if_neg (by omega),rsL_cons,if_neg (by omega),rsL_cons,if_neg (by omega),rsL_cons,if_neg (by omega),rsL_cons,if_neg (by omega),rsL_cons,if_neg (by omega),rsL_cons,if_neg (by omega),rsL_cons,if_neg (by omega),rsL_cons,if_neg (by omega)];exact f6)) ?_
  refine Imp.trans (Imp.open1 i 9 (cv + 7) _ (intss g.tgt.co) _ (.inl (by rw [rsL_cons,if_pos rfl])) (by omega) (by rw [hnc];decide) rfl rfl rfl (by rw [rsL_cons,if_neg (by omega),rsL_cons,if_neg (by omega),rsL_cons,if_neg (by omega),rsL_cons,if_neg (by omega),rsL_cons,if_neg (by omega),rsL_cons,if_neg (by omega),rsL_cons,if_neg (by omega),rsL_cons,if_neg (by omega),rsL_cons,if_neg (by omega),rsL_cons,if_neg (by omega),rsL_cons,if_neg (by omega),rsL_cons,if_neg (by omega),rsL_cons,if_neg (by omega),rsL_cons,if_neg (by omega)];exact f7)) ?_
  refine Imp.trans (Imp.open1 i 10 (cv + 8) _ (ints g.obs) _ (.inl (by rw [rsL_cons,if_pos rfl])) (by omega) (by rw [hnc];decide) rfl rfl rfl (by rw [rsL_cons,if_neg (by omega),rsL_cons,if_neg (by omega),rsL_cons,if_neg (by omega),rsL_cons,if_neg (by omega),rsL_cons,if_neg (by omega),rsL_cons,if_neg (by omega),rsL_cons,if_neg (by omega),rsL_cons,if_neg (by omega),rsL_cons,if_neg (by omega),rsL_cons,if_neg (by omega),rsL_cons,if_neg (by omega),rsL_cons,if_neg (by omega),rsL_cons,if_neg (by omega),rsL_cons,if_neg (by omega),rsL_cons,if_neg (by omega),rsL_cons,if_neg (by omega)];exact f8)) ?_
  exact Imp.open1 i 11 (cv + 9) _ (ints g.ars) _ (.inl (by rw [rsL_cons,if_pos rfl])) (by omega) (by rw [hnc];decide) rfl rfl rfl (by rw [rsL_cons,if_neg (by omega),rsL_cons,if_neg (by omega),rsL_cons,if_neg (by omega),rsL_cons,if_neg (by omega),rsL_cons,if_neg (by omega),rsL_cons,if_neg (by omega),rsL_cons,if_neg (by omega),rsL_cons,if_neg (by omega),rsL_cons,if_neg (by omega),rsL_cons,if_neg (by omega),rsL_cons,if_neg (by omega),rsL_cons,if_neg (by omega),rsL_cons,if_neg (by omega),rsL_cons,if_neg (by omega),rsL_cons,if_neg (by omega),rsL_cons,if_neg (by omega),rsL_cons,if_neg (by omega),rsL_cons,if_neg (by omega)];exact f9)
theorem Imp.lendPtr {X : Cx} {σ : Ss} (k i o : Nat) (ds : List Dt) (V : List Nat) (hk : lk σ.tm k = .ptr i o) (hv : Sv.viewP V (rsL σ.rs) (.ptr i o) ds) (hV : ∀ j ∈ V,1 ≤ (rsL σ.rs j).cv) :
    Imp X σ ⟨(k,.bptr (V.map fun j=>(j,(rsL σ.rs j).cv)) ds) :: σ.tm,σ.rs,σ.nx⟩:=by
  rintro w1 U1 dfs a w ⟨hd,hn,c,hp,ht,hpin⟩
  refine ⟨hd,hn,c,hp,fun s=>?_,hpin⟩
  by_cases e : s = k
  · subst e
    have h1:=ht s
    rw [hk] at h1
    obtain ⟨g1,g2⟩:=viewP_ok hp hv h1
    show Sv.ok w X.S c (rsL σ.rs) (lk ((s,_) :: σ.tm) s) _
    simp only [lk,if_pos]
    simp only [Sv.ok]
    refine ⟨fun p hp'=>?_,g2,fun _=>PtrTo.mono (fun b hb=>?_) g1⟩
    · obtain ⟨j,hj,rfl⟩:=List.mem_map.1 hp'
      exact ⟨hV j hj,Nat.le_refl _⟩
    · rcases hb with hb|⟨j,hj,hb⟩
      · exact .inl hb
      · exact .inr ⟨_,List.mem_map.2 ⟨j,hj,rfl⟩,hb⟩
  · show Sv.ok w X.S c (rsL σ.rs) (lk ((k,_) :: σ.tm) s) _
    simp only [lk,if_neg e]
    exact ht s
theorem Imp.dropL {X : Cx} {σ : Ss} (i cv : Nat) (d : Dt) (h : σ.get i = ⟨cv,.arr d⟩) (hcv : 1 ≤ cv) : Imp X σ ⟨σ.tm,(i,⟨cv + 1,.gone⟩) :: σ.rs,σ.nx⟩:=by
  have e : (σ.get i).cv = cv:=by rw [h]
  have:=Imp.drop (X:=X) (σ:=σ) i (by rw [e];exact hcv)
  rw [e] at this
  exact this
end Go.Eng
