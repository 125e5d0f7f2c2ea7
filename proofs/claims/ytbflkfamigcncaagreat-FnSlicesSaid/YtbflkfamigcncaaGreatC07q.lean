/- The reference's comma categories: the code. -/
import Derived.Test.YtbflkfamigcncaaGreatKix
import Derived.Test.YtbflkfamigcncaaGreatC02q
set_option linter.unusedSimpArgs false
set_option linter.unusedVariables false
set_option maxRecDepth 100000
set_option maxHeartbeats 16000000
namespace Go.Eng
open Go Go.Proofs Go.Cats
theorem ObjOK_len {f e : Fun} {O : List (List Int)} (h : ObjOK f e O) {k : Nat} (hk : k < 3) : ∀ i, i < O.length → k < (O.getD i []).length := fun i hi => by have := (h i hi).len; omega
theorem cal_l09Comma : Callable Tryz.prog 189 := ⟨_, Tryz.func189, rfl, rfl⟩
theorem sp_l09Comma {f e : Fun} (hf : IsFun f) (he : IsFun e) (hT : f.tgt = e.tgt) (hO : (cObj f e).length ≤ 8) : Spec Tryz.prog 189 [funV f, funV e] [] (.tup [.agg [iv (cObj f e).length, .sl 0, .sl 1, .sl 2, .sl 3], .sl 4, .sl 5]) [(0, ⟨1, .arr (ints (colN (cmA f e) 0 (cmA f e).length))⟩), (1, ⟨1, .arr (ints (colN (cmA f e) 1 (cmA f e).length))⟩), (2, ⟨1, .arr (ints (cmC f e 0).id)⟩), (3, ⟨1, .arr (intss (cmC f e (if (cmA f e).length ≤ 40 then (cmA f e).length else 0)).co)⟩), (4, ⟨1, .arr (intss (cObj f e))⟩), (5, ⟨1, .arr (intss (cmA f e))⟩)] := by
  refine spec_of_V (E := TE) 0 Tryz.func189 rfl (by simp [Tryz.f189]) fun X hn hX => ?_
  have ok := cObj_ok hf he hT
  have a1 := cArr_ok f e (cObj f e)
  have a2 := cArr_len hf.src.m40 he.src.m40 hO
  have a3 := ObjOK_len ok (k := 0) (by omega)
  have a4 := ObjOK_len ok (k := 1) (by omega)
  have a5 := col_lo ok
  have a6 := col_ro ok
  have a7 := colN_len (cObj f e) 0 (cObj f e).length
  have a8 := colN_len (cObj f e) 1 (cObj f e).length
  have a9 := hf.src
  have a10 := he.src
  repeat' (first | with_reducible refine St.f ?_ | ((with_reducible refine V_cond ?_); simp only [go_sem, simprocAttr]) | ((first | refine V_rg ?_ | refine V_dr ?_); intro K hK) | ((first | with_reducible refine So.f ?_ | ((with_reducible apply evOps_g); rfl) | ((with_reducible apply evOpsD_g); rfl)); intro K hK; simp (contextual := true) only [go_sem, simprocAttr]) | ((with_reducible refine evOpsD_nil ?_ ?_); kernel_rfl) | ((with_reducible refine hK _ ?_); clear hK K) | (with_reducible first | refine And.intro ?_ ?_ | refine inR_mk ?_ ?_) | ((with_reducible refine evCall_at 188 ?_); refine EvCall.rq (a := (sp_l09Objects ?_ ?_)) (b := cal_l09Objects) (c := ?_); all_goals try simp only [go_sem, simprocAttr]) | ((with_reducible refine evCall_at 227 ?_); refine EvCall.rq (a := (sp_l09Arrows ?_ ?_ ?_ ?_ ?_)) (b := cal_l09Arrows) (c := ?_); all_goals try simp only [go_sem, simprocAttr]) | ((with_reducible refine evCall_at 114 ?_); refine EvCall.rq (a := (sp_l09Column (k:=0) ?_ ?_)) (b := cal_l09Column) (c := ?_); all_goals try simp only [go_sem, simprocAttr]) | ((with_reducible refine evCall_at 114 ?_); refine EvCall.rq (a := (sp_l09Column (k:=1) ?_ ?_)) (b := cal_l09Column) (c := ?_); all_goals try simp only [go_sem, simprocAttr]) | ((with_reducible refine evCall_at 228 ?_); refine EvCall.rq (a := (sp_l09Build (a:=f.src) (b:=e.src) ?_ ?_ ?_ ?_ ?_ ?_ ?_ ?_ ?_)) (b := cal_l09Build) (c := ?_); all_goals try simp only [go_sem, simprocAttr]) | (refine fun (hc : (_ : Bool) = _) => ?_; try simp only [hcS] at hc))
  all_goals try exact om_
  (first | refine ret_auto ?_ | refine ret_auto' ?_); simp only [go_sem, simprocAttr, Tryz.f189]
  refine ⟨rfl, rfl, rfl, rfl, rfl⟩
@[go_sem] theorem one_nil_c : (Value.slice none 0 0).oneCell' = true := rfl
theorem cmC_ob (f e : Fun) (k : Nat) : (cmC f e k).ob = (cObj f e).length := rfl
theorem cmC_fr (f e : Fun) (k : Nat) : (cmC f e k).fr.length = (cmA f e).length := by simp [cmC, bCat, colN]
structure CYes (f e : Fun) : Prop where
  src : IsFun f
  tgt : IsFun e
  one : f.tgt = e.tgt
  obs : (cObj f e).length ≤ 8
  ars : (cmA f e).length ≤ 40
def CNo (f e : Fun) (c : Int) : Prop :=
  (¬ (IsFun f ∧ IsFun e) ∧ c = 1) ∨ ((IsFun f ∧ IsFun e) ∧ f.tgt ≠ e.tgt ∧ c = 5) ∨
  ((IsFun f ∧ IsFun e) ∧ f.tgt = e.tgt ∧ (8 < (cObj f e).length ∨ (cObj f e).length ≤ 8 ∧ 40 < (cmA f e).length) ∧ c = 3)
theorem cal_l09Code : Callable Tryz.prog 112 := ⟨_, Tryz.func112, rfl, rfl⟩
theorem sp_l09Code_yes {f e : Fun} (hf : FunB f) (he : FunB e) (h : CYes f e) : Spec Tryz.prog 112 [funV f, funV e] []
    (.tup [.agg [iv (cObj f e).length, .sl 0, .sl 1, .sl 2, .sl 3], .sl 4, .sl 5, iv 0]) [(0, ⟨1, .arr (ints (cmC f e 0).fr)⟩), (1, ⟨1, .arr (ints (cmC f e 0).to)⟩), (2, ⟨1, .arr (ints (cmC f e 0).id)⟩), (3, ⟨1, .arr (intss (cmC f e (cmA f e).length).co)⟩), (4, ⟨1, .arr (intss (cObj f e))⟩), (5, ⟨1, .arr (intss (cmA f e))⟩)] := by
  refine spec_of_V (E := TE) 0 Tryz.func112 rfl (by simp [Tryz.f112]) fun X hn hX => ?_
  obtain ⟨h1, h2, h3, h4, h5⟩ := h
  have h6 : IsFun f ∧ IsFun e := ⟨h1, h2⟩
  have f1 := hf.tgt
  have e1 := he.tgt
  have d1 : (if dec (IsFun f ∧ IsFun e) = true then (0 : Int) else 1) = 0 := by rw [dec_t h6]; rfl
  repeat' (first | with_reducible refine St.f ?_ | ((with_reducible refine V_cond ?_); simp only [go_sem, simprocAttr]) | ((refine V_rg ?_); intro K hK) | ((first | with_reducible refine So.f ?_ | ((with_reducible apply evOps_g); rfl)); intro K hK; simp (contextual := true) only [go_sem, simprocAttr]) | ((with_reducible refine hK _ ?_); clear hK K) | (with_reducible first | refine And.intro ?_ ?_ | refine inR_mk ?_ ?_) | ((with_reducible refine evCall_at 186 ?_); refine EvCall.rq (a := (sp_l06Two ?_ ?_)) (b := cal_l06Two) (c := ?_); all_goals try simp only [go_sem, simprocAttr]) | ((with_reducible refine evCall_at 187 ?_); refine EvCall.rq (a := (sp_l02Same (a:=f.tgt) (b:=e.tgt) ?_ ?_)) (b := cal_l02Same) (c := ?_); all_goals try simp only [go_sem, simprocAttr]) | ((with_reducible refine evCall_at 188 ?_); refine EvCall.rq (a := (sp_l09Objects ?_ ?_)) (b := cal_l09Objects) (c := ?_); all_goals try simp only [go_sem, simprocAttr]) | ((with_reducible refine evCall_at 189 ?_); refine EvCall.rq (a := (sp_l09Comma ?_ ?_ ?_ ?_)) (b := cal_l09Comma) (c := ?_); all_goals try simp only [go_sem, simprocAttr]) | ((with_reducible refine evCall_at 190 ?_); refine EvCall.rq (a := (sp_l02Fits (c:=cmC f e (if (cmA f e).length ≤ 40 then (cmA f e).length else 0)) ?_)) (b := cal_l02Fits) (c := ?_); all_goals try simp only [go_sem, simprocAttr]) | (refine fun (hc : (_ : Bool) = _) => ?_; try simp only [hcS] at hc))
  all_goals try exact om_
  · exact absurd h3 hc
  · rw [cmC_fr]; omega
  · rw [cmC_ob, cmC_fr] at hc; omega
  · rw [if_pos h5]
    (first | refine ret_auto ?_ | refine ret_auto' ?_); simp only [go_sem, simprocAttr, Tryz.f112]
    refine ⟨rfl, rfl⟩
theorem sp_l09Code_no {f e : Fun} {c : Int} (hf : FunB f) (he : FunB e) (h : CNo f e c) : Spec Tryz.prog 112 [funV f, funV e] []
    (.tup [.agg [iv 0, .v (.slice none 0 0), .v (.slice none 0 0), .v (.slice none 0 0), .v (.slice none 0 0)], .v (.slice none 0 0), .v (.slice none 0 0), iv c]) [] := by
  refine spec_of_V (E := TE) 0 Tryz.func112 rfl (by simp [Tryz.f112]) fun X hn hX => ?_
  have f1 := hf.tgt
  have e1 := he.tgt
  rcases h with ⟨h6, rfl⟩ | ⟨h6, h7, rfl⟩ | ⟨h6, h7, h8, rfl⟩
  · have d1 : (if dec (IsFun f ∧ IsFun e) = true then (0 : Int) else 1) = 1 := by rw [dec_f h6]; rfl
    repeat' (first | with_reducible refine St.f ?_ | ((with_reducible refine V_cond ?_); simp only [go_sem, simprocAttr]) | ((refine V_rg ?_); intro K hK) | ((first | with_reducible refine So.f ?_ | ((with_reducible apply evOps_g); rfl)); intro K hK; simp (contextual := true) only [go_sem, simprocAttr]) | ((with_reducible refine hK _ ?_); clear hK K) | (with_reducible first | refine And.intro ?_ ?_ | refine inR_mk ?_ ?_) | ((with_reducible refine evCall_at 186 ?_); refine EvCall.rq (a := (sp_l06Two ?_ ?_)) (b := cal_l06Two) (c := ?_); all_goals try simp only [go_sem, simprocAttr]) | (refine fun (hc : (_ : Bool) = _) => ?_; try simp only [hcS] at hc))
    all_goals try exact om_
    · (first | refine ret_auto ?_ | refine ret_auto' ?_); simp only [go_sem, simprocAttr, Tryz.f112]
      rw [d1]
  · have d1 : (if dec (IsFun f ∧ IsFun e) = true then (0 : Int) else 1) = 0 := by rw [dec_t h6]; rfl
    repeat' (first | with_reducible refine St.f ?_ | ((with_reducible refine V_cond ?_); simp only [go_sem, simprocAttr]) | ((refine V_rg ?_); intro K hK) | ((first | with_reducible refine So.f ?_ | ((with_reducible apply evOps_g); rfl)); intro K hK; simp (contextual := true) only [go_sem, simprocAttr]) | ((with_reducible refine hK _ ?_); clear hK K) | (with_reducible first | refine And.intro ?_ ?_ | refine inR_mk ?_ ?_) | ((with_reducible refine evCall_at 186 ?_); refine EvCall.rq (a := (sp_l06Two ?_ ?_)) (b := cal_l06Two) (c := ?_); all_goals try simp only [go_sem, simprocAttr]) | ((with_reducible refine evCall_at 187 ?_); refine EvCall.rq (a := (sp_l02Same (a:=f.tgt) (b:=e.tgt) ?_ ?_)) (b := cal_l02Same) (c := ?_); all_goals try simp only [go_sem, simprocAttr]) | (refine fun (hc : (_ : Bool) = _) => ?_; try simp only [hcS] at hc))
    all_goals try exact om_
    · (first | refine ret_auto ?_ | refine ret_auto' ?_); simp only [go_sem, simprocAttr, Tryz.f112]
    · exact absurd hc h7
  · have d1 : (if dec (IsFun f ∧ IsFun e) = true then (0 : Int) else 1) = 0 := by rw [dec_t h6]; rfl
    have g1 := h6.1
    have g2 := h6.2
    have a2 := fun h => cArr_len (O := cObj f e) g1.src.m40 g2.src.m40 h
    repeat' (first | with_reducible refine St.f ?_ | ((with_reducible refine V_cond ?_); simp only [go_sem, simprocAttr]) | ((refine V_rg ?_); intro K hK) | ((first | with_reducible refine So.f ?_ | ((with_reducible apply evOps_g); rfl)); intro K hK; simp (contextual := true) only [go_sem, simprocAttr]) | ((with_reducible refine hK _ ?_); clear hK K) | (with_reducible first | refine And.intro ?_ ?_ | refine inR_mk ?_ ?_) | ((with_reducible refine evCall_at 186 ?_); refine EvCall.rq (a := (sp_l06Two ?_ ?_)) (b := cal_l06Two) (c := ?_); all_goals try simp only [go_sem, simprocAttr]) | ((with_reducible refine evCall_at 187 ?_); refine EvCall.rq (a := (sp_l02Same (a:=f.tgt) (b:=e.tgt) ?_ ?_)) (b := cal_l02Same) (c := ?_); all_goals try simp only [go_sem, simprocAttr]) | ((with_reducible refine evCall_at 188 ?_); refine EvCall.rq (a := (sp_l09Objects ?_ ?_)) (b := cal_l09Objects) (c := ?_); all_goals try simp only [go_sem, simprocAttr]) | ((with_reducible refine evCall_at 189 ?_); refine EvCall.rq (a := (sp_l09Comma ?_ ?_ ?_ ?_)) (b := cal_l09Comma) (c := ?_); all_goals try simp only [go_sem, simprocAttr]) | ((with_reducible refine evCall_at 190 ?_); refine EvCall.rq (a := (sp_l02Fits (c:=cmC f e (if (cmA f e).length ≤ 40 then (cmA f e).length else 0)) ?_)) (b := cal_l02Fits) (c := ?_); all_goals try simp only [go_sem, simprocAttr]) | (refine fun (hc : (_ : Bool) = _) => ?_; try simp only [hcS] at hc))
    all_goals try exact om_
    · exact absurd h7 hc
    · (first | refine ret_auto ?_ | refine ret_auto' ?_); simp only [go_sem, simprocAttr, Tryz.f112]
    · have := a2 (by omega)
      have e : (cmA f e).length = (cArr f e (cObj f e)).length := rfl
      rw [cmC_fr]; omega
    · (first | refine ret_auto ?_ | refine ret_auto' ?_); simp only [go_sem, simprocAttr, Tryz.f112]
    · rw [cmC_ob, cmC_fr] at hc; omega
theorem cal_spec_CommaCategory : Callable Tryz.prog 46 := ⟨_, Tryz.func46, rfl, rfl⟩
theorem sp_spec_CommaCategory_yes {f e : Fun} (hf : FunB f) (he : FunB e) (h : CYes f e) : Spec Tryz.prog 46 [funV f, funV e] []
    (.tup [.agg [iv (cObj f e).length, .sl 0, .sl 1, .sl 2, .sl 3], iv 0]) [(0, ⟨1, .arr (ints (cmC f e 0).fr)⟩), (1, ⟨1, .arr (ints (cmC f e 0).to)⟩), (2, ⟨1, .arr (ints (cmC f e 0).id)⟩), (3, ⟨1, .arr (intss (cmC f e (cmA f e).length).co)⟩)] := by
  refine spec_of_V (E := TE) 0 Tryz.func46 rfl (by simp [Tryz.f46]) fun X hn hX => ?_
  repeat' (first | with_reducible refine St.f ?_ | ((with_reducible refine V_cond ?_); simp only [go_sem, simprocAttr]) | ((refine V_rg ?_); intro K hK) | ((first | with_reducible refine So.f ?_ | ((with_reducible apply evOps_g); rfl)); intro K hK; simp (contextual := true) only [go_sem, simprocAttr]) | ((with_reducible refine hK _ ?_); clear hK K) | (with_reducible first | refine And.intro ?_ ?_ | refine inR_mk ?_ ?_) | ((with_reducible refine evCall_at 112 ?_); refine EvCall.rq (a := (sp_l09Code_yes (by first | omega | assumption | rfl) (by first | omega | assumption | rfl) (by first | omega | assumption | rfl))) (b := cal_l09Code) (c := ?_); all_goals try simp only [go_sem, simprocAttr]) | (refine fun (hc : (_ : Bool) = _) => ?_; try simp only [hcS] at hc))
  all_goals try exact om_
  (first | refine ret_auto ?_ | refine ret_auto' ?_); simp only [go_sem, simprocAttr, Tryz.f46]
theorem sp_spec_CommaCategory_no {f e : Fun} {c : Int} (hf : FunB f) (he : FunB e) (h : CNo f e c) : Spec Tryz.prog 46 [funV f, funV e] []
    (.tup [.agg [iv 0, .v (.slice none 0 0), .v (.slice none 0 0), .v (.slice none 0 0), .v (.slice none 0 0)], iv c]) [] := by
  refine spec_of_V (E := TE) 0 Tryz.func46 rfl (by simp [Tryz.f46]) fun X hn hX => ?_
  repeat' (first | with_reducible refine St.f ?_ | ((with_reducible refine V_cond ?_); simp only [go_sem, simprocAttr]) | ((refine V_rg ?_); intro K hK) | ((first | with_reducible refine So.f ?_ | ((with_reducible apply evOps_g); rfl)); intro K hK; simp (contextual := true) only [go_sem, simprocAttr]) | ((with_reducible refine hK _ ?_); clear hK K) | (with_reducible first | refine And.intro ?_ ?_ | refine inR_mk ?_ ?_) | ((with_reducible refine evCall_at 112 ?_); refine EvCall.rq (a := (sp_l09Code_no (by first | omega | assumption | rfl) (by first | omega | assumption | rfl) (by first | omega | assumption | rfl))) (b := cal_l09Code) (c := ?_); all_goals try simp only [go_sem, simprocAttr]) | (refine fun (hc : (_ : Bool) = _) => ?_; try simp only [hcS] at hc))
  all_goals try exact om_
  (first | refine ret_auto ?_ | refine ret_auto' ?_); simp only [go_sem, simprocAttr, Tryz.f46]
end Go.Eng
