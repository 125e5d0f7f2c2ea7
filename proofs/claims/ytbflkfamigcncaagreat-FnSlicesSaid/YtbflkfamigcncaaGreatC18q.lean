/- The projections of comma categories: functors, by the program and by the reference. -/
import Derived.Test.YtbflkfamigcncaaGreatKox
set_option linter.unusedSimpArgs false
set_option linter.unusedVariables false
set_option maxRecDepth 100000
set_option maxHeartbeats 16000000
namespace Go.Eng
open Go Go.Proofs Go.Cats
attribute [local go_sem] one_nil_c8 one_ptr_c8
theorem cal_Category_copy : Callable Tryz.prog 160 := ⟨_, Tryz.func160, rfl, rfl⟩
theorem sp_Category_copy {c : Cat} (hb : CatB c) : Spec Tryz.prog 160 [.bptr [] (catD c)] [] (.agg [iv c.ob, .sl 0, .sl 1, .sl 2, .sl 3]) [(0, ⟨1, .arr (ints c.fr)⟩), (1, ⟨1, .arr (ints c.to)⟩), (2, ⟨1, .arr (ints c.id)⟩), (3, ⟨1, .arr (intss c.co)⟩)] := by
  refine spec_of_V (E := TE) 0 Tryz.func160 rfl (by simp [Tryz.f160]) fun X hn hX => ?_
  obtain ⟨b1, b2, b3, b4, b5, b6, b7⟩ := hb
  repeat' (first | with_reducible refine St.f ?_ | ((with_reducible refine V_cond ?_); simp only [go_sem, simprocAttr]) | ((first | refine V_rg ?_ | refine V_dr ?_); intro K hK) | ((first | with_reducible refine So.f ?_ | ((with_reducible apply evOps_g); rfl) | ((with_reducible apply evOpsD_g); rfl)); intro K hK; simp (contextual := true) only [go_sem, simprocAttr]) | ((with_reducible refine evOpsD_nil ?_ ?_); kernel_rfl) | ((with_reducible refine hK _ ?_); clear hK K) | (with_reducible first | refine And.intro ?_ ?_ | refine inR_mk ?_ ?_) | ((with_reducible refine evCall_at 161 ?_); refine EvCall.rq (a := (sp_clone ?_)) (b := cal_clone) (c := ?_); all_goals try simp only [go_sem, simprocAttr]) | ((with_reducible refine evCall_at 197 ?_); refine EvCall.rq (a := (sp_clones ?_ ?_)) (b := cal_clones) (c := ?_); all_goals try simp only [go_sem, simprocAttr]) | (refine fun (hc : (_ : Bool) = _) => ?_; try simp only [hcS] at hc))
  all_goals try exact om_
  (first | refine ret_auto ?_ | refine ret_auto' ?_); simp only [go_sem, simprocAttr, Tryz.f160]
theorem cal_functor : Callable Tryz.prog 86 := ⟨_, Tryz.func86, rfl, rfl⟩
theorem sp_functor {c d : Cat} {p q : List Int} (hc : CatB c) (hd : CatB d) (hp : p.length ≤ 1048576) (hq : q.length ≤ 1048576) : Spec Tryz.prog 86 [.bptr [] (catD c), .bptr [] (catD d), .bor [] (ints p), .bor [] (ints q)] [] (.agg [iv c.ob, .sl 0, .sl 1, .sl 2, .sl 3, iv d.ob, .sl 4, .sl 5, .sl 6, .sl 7, .sl 8, .sl 9]) [(0, ⟨1, .arr (ints c.fr)⟩), (1, ⟨1, .arr (ints c.to)⟩), (2, ⟨1, .arr (ints c.id)⟩), (3, ⟨1, .arr (intss c.co)⟩), (4, ⟨1, .arr (ints d.fr)⟩), (5, ⟨1, .arr (ints d.to)⟩), (6, ⟨1, .arr (ints d.id)⟩), (7, ⟨1, .arr (intss d.co)⟩), (8, ⟨1, .arr (ints p)⟩), (9, ⟨1, .arr (ints q)⟩)] := by
  refine spec_of_V (E := TE) 0 Tryz.func86 rfl (by simp [Tryz.f86]) fun X hn hX => ?_
  repeat' (first | with_reducible refine St.f ?_ | ((with_reducible refine V_cond ?_); simp only [go_sem, simprocAttr]) | ((refine V_rg ?_); intro K hK) | ((first | with_reducible refine So.f ?_ | ((with_reducible apply evOps_g); rfl)); intro K hK; simp (contextual := true) only [go_sem, simprocAttr]) | ((with_reducible refine hK _ ?_); clear hK K) | (with_reducible first | refine And.intro ?_ ?_ | refine inR_mk ?_ ?_) | ((with_reducible refine evCall_at 160 ?_); refine EvCall.rq (a := (sp_Category_copy ?_)) (b := cal_Category_copy) (c := ?_); all_goals try simp only [go_sem, simprocAttr]) | ((with_reducible refine evCall_at 161 ?_); refine EvCall.rq (a := (sp_clone ?_)) (b := cal_clone) (c := ?_); all_goals try simp only [go_sem, simprocAttr]) | (refine fun (hc : (_ : Bool) = _) => ?_; try simp only [hcS] at hc))
  all_goals try exact om_
  (first | refine ret_auto ?_ | refine ret_auto' ?_); simp only [go_sem, simprocAttr, Tryz.f86]
theorem cal_l06Make : Callable Tryz.prog 91 := ⟨_, Tryz.func91, rfl, rfl⟩
theorem sp_l06Make {c d : Cat} {p q : List Int} (hc : CatB c) (hd : CatB d) (hp : p.length ≤ 1048576) (hq : q.length ≤ 1048576) : Spec Tryz.prog 91 [catV c, catV d, .bor [] (ints p), .bor [] (ints q)] [] (.agg [iv c.ob, .sl 0, .sl 1, .sl 2, .sl 3, iv d.ob, .sl 4, .sl 5, .sl 6, .sl 7, .sl 8, .sl 9]) [(0, ⟨1, .arr (ints c.fr)⟩), (1, ⟨1, .arr (ints c.to)⟩), (2, ⟨1, .arr (ints c.id)⟩), (3, ⟨1, .arr (intss c.co)⟩), (4, ⟨1, .arr (ints d.fr)⟩), (5, ⟨1, .arr (ints d.to)⟩), (6, ⟨1, .arr (ints d.id)⟩), (7, ⟨1, .arr (intss d.co)⟩), (8, ⟨1, .arr (ints p)⟩), (9, ⟨1, .arr (ints q)⟩)] := by
  refine spec_of_V (E := TE) 0 Tryz.func91 rfl (by simp [Tryz.f91]) fun X hn hX => ?_
  repeat' (first | with_reducible refine St.f ?_ | ((with_reducible refine V_cond ?_); simp only [go_sem, simprocAttr]) | ((first | refine V_rg ?_ | refine V_dr ?_); intro K hK) | ((first | with_reducible refine So.f ?_ | ((with_reducible apply evOps_g); rfl) | ((with_reducible apply evOpsD_g); rfl)); intro K hK; simp (contextual := true) only [go_sem, simprocAttr]) | ((with_reducible refine evOpsD_nil ?_ ?_); kernel_rfl) | ((with_reducible refine hK _ ?_); clear hK K) | (with_reducible first | refine And.intro ?_ ?_ | refine inR_mk ?_ ?_) | ((with_reducible refine evCall_at 169 ?_); refine EvCall.rq (a := (sp_l02Own ?_)) (b := cal_l02Own) (c := ?_); all_goals try simp only [go_sem, simprocAttr]) | ((with_reducible refine evCall_at 170 ?_); refine EvCall.rq (a := (sp_l01Own ?_)) (b := cal_l01Own) (c := ?_); all_goals try simp only [go_sem, simprocAttr]) | (refine fun (hc : (_ : Bool) = _) => ?_; try simp only [hcS] at hc))
  all_goals try exact om_
  (first | refine ret_auto ?_ | refine ret_auto' ?_); simp only [go_sem, simprocAttr, Tryz.f91]
theorem cm_b {f e : Fun} (hy : CYes f e) : CatB (cmC f e (cmA f e).length) := COut.b (.inl ⟨hy, rfl, rfl⟩)
theorem ArrOK_len {f e : Fun} {k : Nat} (hk : k < 4) : ∀ i, i < (cmA f e).length → k < ((cmA f e).getD i []).length := fun i hi => by have := (cArr_ok f e (cObj f e) i hi).len; show k < ((cArr f e (cObj f e)).getD i []).length; omega
noncomputable def cmF (f e : Fun) : Fun := ⟨cmC f e (cmA f e).length, f.src, colN (cObj f e) 0 (cObj f e).length, colN (cmA f e) 2 (cmA f e).length⟩
noncomputable def cmG (f e : Fun) : Fun := ⟨cmC f e (cmA f e).length, e.src, colN (cObj f e) 1 (cObj f e).length, colN (cmA f e) 3 (cmA f e).length⟩
theorem cmF_b {f e : Fun} (hf : FunB f) (hy : CYes f e) : FunB (cmF f e) := ⟨cm_b hy, hf.src, by have := hy.obs; simp only [cmF, colN_len]; omega, by have := hy.ars; simp only [cmF, colN_len]; omega⟩
def nilF : Fun := ⟨⟨0, [], [], [], []⟩, ⟨0, [], [], [], []⟩, [], []⟩
theorem nilF_b : FunB nilF := by
  have h : CatB (⟨0, [], [], [], []⟩ : Cat) := ⟨by simp, by simp, by simp, by simp, by simp, by simp, fun i hi => by simp at hi⟩
  exact ⟨h, h, by simp [nilF], by simp [nilF]⟩
theorem adoptF {P : Program} {F : FuncId} {args : List Sv} {y : Value} (h : Spec P F args [] (.tup [.agg [iv 0, .v (.slice none 0 0), .v (.slice none 0 0), .v (.slice none 0 0), .v (.slice none 0 0), iv 0, .v (.slice none 0 0), .v (.slice none 0 0), .v (.slice none 0 0), .v (.slice none 0 0), .v (.slice none 0 0), .v (.slice none 0 0)], .v y]) []) : Spec P F args [] (.tup [.agg [iv nilF.src.ob, .sl 0, .sl 1, .sl 2, .sl 3, iv nilF.tgt.ob, .sl 4, .sl 5, .sl 6, .sl 7, .sl 8, .sl 9], .v y]) [(0, ⟨1, .arr (ints nilF.src.fr)⟩), (1, ⟨1, .arr (ints nilF.src.to)⟩), (2, ⟨1, .arr (ints nilF.src.id)⟩), (3, ⟨1, .arr (intss nilF.src.co)⟩), (4, ⟨1, .arr (ints nilF.tgt.fr)⟩), (5, ⟨1, .arr (ints nilF.tgt.to)⟩), (6, ⟨1, .arr (ints nilF.tgt.id)⟩), (7, ⟨1, .arr (intss nilF.tgt.co)⟩), (8, ⟨1, .arr (ints nilF.obs)⟩), (9, ⟨1, .arr (ints nilF.ars)⟩)] := by
  refine Spec.adopt h (emptyL_cons_i (emptyL_cons_i (emptyL_cons_i (emptyL_cons_s (emptyL_cons_i (emptyL_cons_i (emptyL_cons_i (emptyL_cons_s (emptyL_cons_i (emptyL_cons_i emptyL_nil)))))))))) fun w S v cn h => ?_
  simp only [Sv.ok, Sv.okL] at h ⊢
  obtain ⟨vs, rfl, x, r, rfl, ⟨us, rfl, hu⟩, hr⟩ := h
  refine ⟨_, rfl, _, _, rfl, ⟨us, rfl, ?_⟩, hr⟩
  obtain ⟨x0, r0, rfl, e0, x1, r1, rfl, e1, x2, r2, rfl, e2, x3, r3, rfl, e3, x4, r4, rfl, e4, x5, r5, rfl, e5, x6, r6, rfl, e6, x7, r7, rfl, e7, x8, r8, rfl, e8, x9, r9, rfl, e9, x10, r10, rfl, e10, x11, r11, rfl, e11, e12⟩ := hu
  exact ⟨_, _, rfl, e0, _, _, rfl, ⟨Nat.le_refl 1, e1⟩, _, _, rfl, ⟨Nat.le_refl 1, e2⟩, _, _, rfl, ⟨Nat.le_refl 1, e3⟩, _, _, rfl, ⟨Nat.le_refl 1, e4⟩, _, _, rfl, e5, _, _, rfl, ⟨Nat.le_refl 1, e6⟩, _, _, rfl, ⟨Nat.le_refl 1, e7⟩, _, _, rfl, ⟨Nat.le_refl 1, e8⟩, _, _, rfl, ⟨Nat.le_refl 1, e9⟩, _, _, rfl, ⟨Nat.le_refl 1, e10⟩, _, _, rfl, ⟨Nat.le_refl 1, e11⟩, e12⟩
theorem cal_comma_left : Callable Tryz.prog 70 := ⟨_, Tryz.func70, rfl, rfl⟩
theorem sp_comma_left {f e : Fun} (hy : CYes f e) (hs : CatB f.src) : Spec Tryz.prog 70 [.bptr [] (comD f e (cObj f e) (cmA f e))] [] (.agg [iv (cmF f e).src.ob, .sl 0, .sl 1, .sl 2, .sl 3, iv (cmF f e).tgt.ob, .sl 4, .sl 5, .sl 6, .sl 7, .sl 8, .sl 9]) [(0, ⟨1, .arr (ints (cmF f e).src.fr)⟩), (1, ⟨1, .arr (ints (cmF f e).src.to)⟩), (2, ⟨1, .arr (ints (cmF f e).src.id)⟩), (3, ⟨1, .arr (intss (cmF f e).src.co)⟩), (4, ⟨1, .arr (ints (cmF f e).tgt.fr)⟩), (5, ⟨1, .arr (ints (cmF f e).tgt.to)⟩), (6, ⟨1, .arr (ints (cmF f e).tgt.id)⟩), (7, ⟨1, .arr (intss (cmF f e).tgt.co)⟩), (8, ⟨1, .arr (ints (cmF f e).obs)⟩), (9, ⟨1, .arr (ints (cmF f e).ars)⟩)] := by
  refine spec_of_V (E := TE) 0 Tryz.func70 rfl (by simp [Tryz.f70]) fun X hn hX => ?_
  have h1 := cm_b hy
  have h2 := hy.obs
  have h3 := hy.ars
  have h4 := ObjOK_len (cObj_ok hy.src hy.tgt hy.one) (k := 0) (by omega)
  have h5 := ArrOK_len (f := f) (e := e) (k := 2) (by omega)
  have h6 := colN_len (cObj f e) 0 (cObj f e).length
  have h7 := colN_len (cmA f e) 2 (cmA f e).length
  repeat' (first | with_reducible refine St.f ?_ | ((with_reducible refine V_cond ?_); simp only [go_sem, simprocAttr]) | ((first | refine V_rg ?_ | refine V_dr ?_); intro K hK) | ((first | with_reducible refine So.f ?_ | ((with_reducible apply evOps_g); rfl) | ((with_reducible apply evOpsD_g); rfl)); intro K hK; simp (contextual := true) only [go_sem, simprocAttr]) | ((with_reducible refine evOpsD_nil ?_ ?_); kernel_rfl) | ((with_reducible refine hK _ ?_); clear hK K) | (with_reducible first | refine And.intro ?_ ?_ | refine inR_mk ?_ ?_) | ((with_reducible refine evCall_at 65 ?_); refine EvCall.rq (a := (sp_comma_category (f:=f) (e:=e) ?_)) (b := cal_comma_category) (c := ?_); all_goals try simp only [go_sem, simprocAttr]) | ((with_reducible refine evCall_at 142 ?_); refine EvCall.rq (a := (sp_column (l:=cObj f e) (k:=0) ?_ ?_)) (b := cal_column) (c := ?_); all_goals try simp only [go_sem, simprocAttr]) | ((with_reducible refine evCall_at 142 ?_); refine EvCall.rq (a := (sp_column (l:=cmA f e) (k:=2) ?_ ?_)) (b := cal_column) (c := ?_); all_goals try simp only [go_sem, simprocAttr]) | ((with_reducible refine evCall_at 86 ?_); refine EvCall.rq (a := (sp_functor (c:=cmC f e (cmA f e).length) (d:=f.src) (p:=colN (cObj f e) 0 (cObj f e).length) (q:=colN (cmA f e) 2 (cmA f e).length) ?_ ?_ ?_ ?_)) (b := cal_functor) (c := ?_); all_goals try simp only [go_sem, simprocAttr]) | (refine fun (hc : (_ : Bool) = _) => ?_; try simp only [hcS] at hc))
  all_goals try exact om_
  (first | refine ret_auto ?_ | refine ret_auto' ?_); simp only [go_sem, simprocAttr, Tryz.f70]
  exact ⟨⟨rfl, rfl, rfl, rfl, rfl, rfl, rfl, rfl, rfl, rfl⟩, rfl⟩
theorem cal_spec_CommaLeft : Callable Tryz.prog 50 := ⟨_, Tryz.func50, rfl, rfl⟩
theorem sp_spec_CommaLeft_yes {f e : Fun} (hf : FunB f) (he : FunB e) (hy : CYes f e) : Spec Tryz.prog 50 [funV f, funV e] [] (.tup [.agg [iv (cmF f e).src.ob, .sl 0, .sl 1, .sl 2, .sl 3, iv (cmF f e).tgt.ob, .sl 4, .sl 5, .sl 6, .sl 7, .sl 8, .sl 9], iv 0]) [(0, ⟨1, .arr (ints (cmF f e).src.fr)⟩), (1, ⟨1, .arr (ints (cmF f e).src.to)⟩), (2, ⟨1, .arr (ints (cmF f e).src.id)⟩), (3, ⟨1, .arr (intss (cmF f e).src.co)⟩), (4, ⟨1, .arr (ints (cmF f e).tgt.fr)⟩), (5, ⟨1, .arr (ints (cmF f e).tgt.to)⟩), (6, ⟨1, .arr (ints (cmF f e).tgt.id)⟩), (7, ⟨1, .arr (intss (cmF f e).tgt.co)⟩), (8, ⟨1, .arr (ints (cmF f e).obs)⟩), (9, ⟨1, .arr (ints (cmF f e).ars)⟩)] := by
  refine spec_of_V (E := TE) 0 Tryz.func50 rfl (by simp [Tryz.f50]) fun X hn hX => ?_
  have h0 := hf.src
  have h1 := cm_b hy
  have h2 := hy.obs
  have h3 := hy.ars
  have h4 := ObjOK_len (cObj_ok hy.src hy.tgt hy.one) (k := 0) (by omega)
  have h5 := ArrOK_len (f := f) (e := e) (k := 2) (by omega)
  have h6 := colN_len (cObj f e) 0 (cObj f e).length
  have h7 := colN_len (cmA f e) 2 (cmA f e).length
  repeat' (first | with_reducible refine St.f ?_ | ((with_reducible refine V_cond ?_); simp only [go_sem, simprocAttr]) | ((first | refine V_rg ?_ | refine V_dr ?_); intro K hK) | ((first | with_reducible refine So.f ?_ | ((with_reducible apply evOps_g); rfl) | ((with_reducible apply evOpsD_g); rfl)); intro K hK; simp (contextual := true) only [go_sem, simprocAttr]) | ((with_reducible refine evOpsD_nil ?_ ?_); kernel_rfl) | ((with_reducible refine hK _ ?_); clear hK K) | (with_reducible first | refine And.intro ?_ ?_ | refine inR_mk ?_ ?_) | ((with_reducible refine evCall_at 112 ?_); refine EvCall.rq (a := (sp_l09Code_yes (by first | omega | assumption | rfl) (by first | omega | assumption | rfl) (by first | omega | assumption | rfl))) (b := cal_l09Code) (c := ?_); all_goals try simp only [go_sem, simprocAttr]) | ((with_reducible refine evCall_at 114 ?_); refine EvCall.rq (a := (sp_l09Column (l:=cObj f e) (k:=0) ?_ ?_)) (b := cal_l09Column) (c := ?_); all_goals try simp only [go_sem, simprocAttr]) | ((with_reducible refine evCall_at 114 ?_); refine EvCall.rq (a := (sp_l09Column (l:=cmA f e) (k:=2) ?_ ?_)) (b := cal_l09Column) (c := ?_); all_goals try simp only [go_sem, simprocAttr]) | ((with_reducible refine evCall_at 91 ?_); refine EvCall.rq (a := (sp_l06Make (c:=cmC f e (cmA f e).length) (d:=f.src) (p:=colN (cObj f e) 0 (cObj f e).length) (q:=colN (cmA f e) 2 (cmA f e).length) ?_ ?_ ?_ ?_)) (b := cal_l06Make) (c := ?_); all_goals try simp only [go_sem, simprocAttr]) | (refine fun (hc : (_ : Bool) = _) => ?_; try simp only [hcS] at hc))
  all_goals try exact om_
  (first | refine ret_auto ?_ | refine ret_auto' ?_); simp only [go_sem, simprocAttr, Tryz.f50]
  exact ⟨⟨rfl, rfl, rfl, rfl, rfl, rfl, rfl, rfl, rfl, rfl⟩, rfl⟩
theorem sp_spec_CommaLeft_no {f e : Fun} {c : Int} (hf : FunB f) (he : FunB e) (h : CNo f e c) : Spec Tryz.prog 50 [funV f, funV e] [] (.tup [.agg [iv 0, .v (.slice none 0 0), .v (.slice none 0 0), .v (.slice none 0 0), .v (.slice none 0 0), iv 0, .v (.slice none 0 0), .v (.slice none 0 0), .v (.slice none 0 0), .v (.slice none 0 0), .v (.slice none 0 0), .v (.slice none 0 0)], iv c]) [] := by
  refine spec_of_V (E := TE) 0 Tryz.func50 rfl (by simp [Tryz.f50]) fun X hn hX => ?_
  have hc0 : c ≠ 0 := by rcases h with ⟨_, rfl⟩ | ⟨_, _, rfl⟩ | ⟨_, _, _, rfl⟩ <;> decide
  repeat' (first | with_reducible refine St.f ?_ | ((with_reducible refine V_cond ?_); simp only [go_sem, simprocAttr]) | ((first | refine V_rg ?_ | refine V_dr ?_); intro K hK) | ((first | with_reducible refine So.f ?_ | ((with_reducible apply evOps_g); rfl) | ((with_reducible apply evOpsD_g); rfl)); intro K hK; simp (contextual := true) only [go_sem, simprocAttr]) | ((with_reducible refine evOpsD_nil ?_ ?_); kernel_rfl) | ((with_reducible refine hK _ ?_); clear hK K) | (with_reducible first | refine And.intro ?_ ?_ | refine inR_mk ?_ ?_) | ((with_reducible refine evCall_at 112 ?_); refine EvCall.rq (a := (sp_l09Code_no (by first | omega | assumption | rfl) (by first | omega | assumption | rfl) (by first | omega | assumption | rfl))) (b := cal_l09Code) (c := ?_); all_goals try simp only [go_sem, simprocAttr]) | (refine fun (hc : (_ : Bool) = _) => ?_; try simp only [hcS] at hc))
  all_goals try exact om_
  · (first | refine ret_auto ?_ | refine ret_auto' ?_); simp only [go_sem, simprocAttr, Tryz.f50]
def CommaLeftOut (f e g : Fun) (code : Int) : Prop := (CYes f e ∧ g = cmF f e ∧ code = 0) ∨ (CNo f e code ∧ g = nilF)
theorem CommaLeftOut.b {f e g : Fun} {code : Int} (hf : FunB f) (he : FunB e) (h : CommaLeftOut f e g code) : FunB g := by
  rcases h with ⟨hy, rfl, rfl⟩ | ⟨hn, rfl⟩
  · exact cmF_b hf hy
  · exact nilF_b
theorem sp_spec_CommaLeft_at {f e g : Fun} {code : Int} (hf : FunB f) (he : FunB e) (h : CommaLeftOut f e g code) : Spec Tryz.prog 50 [funV f, funV e] [] (.tup [.agg [iv g.src.ob, .sl 0, .sl 1, .sl 2, .sl 3, iv g.tgt.ob, .sl 4, .sl 5, .sl 6, .sl 7, .sl 8, .sl 9], iv code]) [(0, ⟨1, .arr (ints g.src.fr)⟩), (1, ⟨1, .arr (ints g.src.to)⟩), (2, ⟨1, .arr (ints g.src.id)⟩), (3, ⟨1, .arr (intss g.src.co)⟩), (4, ⟨1, .arr (ints g.tgt.fr)⟩), (5, ⟨1, .arr (ints g.tgt.to)⟩), (6, ⟨1, .arr (ints g.tgt.id)⟩), (7, ⟨1, .arr (intss g.tgt.co)⟩), (8, ⟨1, .arr (ints g.obs)⟩), (9, ⟨1, .arr (ints g.ars)⟩)] := by
  rcases h with ⟨hy, rfl, rfl⟩ | ⟨hn, rfl⟩
  · exact sp_spec_CommaLeft_yes hf he hy
  · exact adoptF (sp_spec_CommaLeft_no hf he hn)
def CommaRightOut (f e g : Fun) (code : Int) : Prop := (CYes f e ∧ g = cmG f e ∧ code = 0) ∨ (CNo f e code ∧ g = nilF)
end Go.Eng
