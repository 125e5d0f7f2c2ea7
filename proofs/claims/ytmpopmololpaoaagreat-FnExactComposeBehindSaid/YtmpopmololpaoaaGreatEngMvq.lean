/- The engine, part MV: a list that came in gets another number, so that it may be handed back, appended to or not. -/
import Derived.Test.YtmpopmololpaoaaGreatKex
set_option linter.unusedVariables false
set_option linter.unusedSimpArgs false
namespace Go.Eng
open Go
theorem Imp.mv {X : Cx} {σ : Ss} (k i cv : Nat) (d : Dt) (hk : lk σ.tm k = .sl i) (hi : rsL σ.rs i = ⟨cv,.arr d⟩) (hcv : 1 ≤ cv) (hf : rsL σ.rs σ.nx = ⟨0,.gone⟩) (hx : (X.rs0 σ.nx).cv = 0) :
    Imp X σ ⟨(k,.sl σ.nx) :: σ.tm,(σ.nx,⟨1,.arr d⟩) :: (i,⟨cv,.gone⟩) :: σ.rs,σ.nx + 1⟩:=by
  rintro w1 U1 ds a w ⟨hd,hn,c,hp,ht,hpin⟩
  have hne : i ≠ σ.nx:=fun e=>by rw [e,hf] at hi;cases hi
  have hres:=hp.res i
  rw [hi] at hres
  have hr:=rearr (X:=X.at w1 U1 ds) (w':=w) hp σ.nx (c i) 1 (.arr d) [i] (by simpa using Ne.symm hne) (by rw [hf];exact Nat.one_pos) (.inl hf) rfl rfl rfl (Nat.le_refl _) (Agree.refl _ _)
    (fun b hb=>.inr (.inl ⟨i,List.mem_singleton.2 rfl,hb⟩)) (hp.one i) (fun hx=>hres)
  obtain ⟨hp',hext⟩:=hr
  have e : upd (updl (rsL σ.rs) (goneL (rsL σ.rs) [i])) σ.nx ⟨1,.arr d⟩ = rsL ((σ.nx,(⟨1,.arr d⟩ : Rs)) :: (i,⟨cv,.gone⟩) :: σ.rs):=by
    have : (⟨(rsL σ.rs i).cv,.gone⟩ : Rs) = ⟨cv,.gone⟩:=by rw [hi]
    rw [← this];rfl
  rw [e] at hp' hext
  refine ⟨hd,hn,_,hp',fun s=>?_,fun l hl=>?_⟩
  · by_cases q : s = k
    · subst q
      have h1:=ht s
      rw [hk] at h1
      show Sv.ok _ _ _ _ (lk ((s,_) :: σ.tm) s) _
      simp only [lk,if_pos]
      simp only [Sv.ok] at h1 ⊢
      refine ⟨?_,?_⟩
      · rw [rsL_cons,if_pos rfl];exact Nat.le_refl _
      · rw [h1.2]
        simp [cnU,upd]
    · have:=Sv.ok_ext hext _ _ (ht s)
      show Sv.ok _ _ _ _ (lk ((k,_) :: σ.tm) s) _
      simp only [lk,if_neg q]
      exact this
  · obtain ⟨r1,r2,r3⟩:=hpin l hl
    obtain ⟨r4,r5⟩:=hext.cn l r1
    exact ⟨Nat.le_trans r1 (hext.ver l),r4.trans r2,r5.trans r3⟩
end Go.Eng
