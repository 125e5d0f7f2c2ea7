/- Counits of right extensions by the program; by the reference. -/
import Derived.Test.YtjdjkmgjgghodaaGreatKdx
import Derived.Test.YtjdjkmgjgghodaaGreatB18q
import Derived.Test.YtjdjkmgjgghodaaGreatB19q
set_option linter.unusedSimpArgs false
set_option linter.unusedVariables false
set_option maxRecDepth 100000
set_option maxHeartbeats 16000000
namespace Go.Eng
open Go Go.Proofs Go.Cats
theorem exF_shape {k : Fun} {f : SF} : (exF k f).shape = k.tgt := rfl
theorem alF_shape {k : Fun} {g : SF} : (alF k g).shape = k.src := rfl
attribute [local go_sem] exF_shape alF_shape alSz_zero alAc_zero cuR_zero one_nilSl5 List.getD_cons_zero List.getD_cons_succ List.set_cons_zero List.set_cons_succ goneL
theorem exF_szl {k : Fun} {f : SF} : (exF k f).sizes.length = k.tgt.ob.toNat := exSz_len
theorem exF_acl {k : Fun} {f : SF} : (exF k f).acts.length = k.tgt.fr.length := exAc_len
theorem alF_b {k : Fun} {g : SF} (hk : FunB k) (hg : SFB g) (ha : Within k.ars g.acts.length) : SFB (alF k g) := by
  refine ⟨hk.src, ?_, ?_, fun a ha1 => ?_⟩
  · show (alSz k g k.obs.length).length ≤ _
    have := hk.obs
    rw [alSz_len (Nat.le_refl _)]; omega
  · show (alAc k g k.ars.length).length ≤ _
    have := hk.ars
    rw [alAc_len (Nat.le_refl _)]; omega
  · have ha' : a < k.ars.length := by have h : a < (alAc k g k.ars.length).length := ha1; rwa [alAc_len (Nat.le_refl _)] at h
    have := ha a ha'
    rw [alAc_at ha']
    exact hg.row _ (by omega)
theorem cal_RightCounit : Callable Tryz.prog 11 := ⟨_, Tryz.func11, rfl, rfl⟩
theorem sp_RightCounit_bad {k : Fun} {f : SF} {c : Int} (hk : FunB k) (hf : SFB f) (h : BCo k f c) (h0 : c ≠ 0) : Spec Tryz.prog 11 [funV k, sfV f] [] (.tup [.agg [iv 0, .v (.slice none 0 0), .v (.slice none 0 0), .v (.slice none 0 0), .v (.slice none 0 0), .v (.slice none 0 0), .v (.slice none 0 0), iv 0, .v (.slice none 0 0), .v (.slice none 0 0), .v (.slice none 0 0), .v (.slice none 0 0), .v (.slice none 0 0), .v (.slice none 0 0), .v (.slice none 0 0)], iv c]) [] := by
  refine spec_of_V (E := TE) 0 Tryz.func11 rfl (by simp [Tryz.f11]) fun X hn hX => ?_
  repeat' (first | (with_reducible first | refine V_seq ?_ | refine V_block ?_ | refine V_skip ?_ | refine V_ret ?_ | refine V_exit ?_) | ((with_reducible refine V_cond ?_); simp only [go_sem, simprocAttr]) | ((first | refine V_region (by rw [hn]; rfl) ?_ | refine V_drawn hmix (by rw [hn]; rfl) ?_); intro K hK) | ((first | with_reducible refine evOps_n ?_ | ((with_reducible apply evOps_g); rfl) | with_reducible refine evOpsD_n ?_ | ((with_reducible apply evOpsD_g); rfl)); intro K hK; simp (contextual := true) only [go_sem, simprocAttr]) | with_reducible refine evOps_nil ?_ | ((with_reducible refine evOpsD_nil ?_ ?_); kernel_rfl) | ((with_reducible refine hK _ ?_); clear hK K) | (with_reducible first | refine And.intro ?_ ?_ | refine nxt_n ?_ | refine nxt_r ?_ | refine nxt_e ?_ | refine blk_n ?_ | refine blk_r ?_ | refine blk_same ?_ | refine blk_other (by decide) ?_ | refine noG_n ?_ | refine noG_r ?_ | refine noG_e ?_ | refine inR_mk ?_ ?_) | ((with_reducible refine evCall_at 35 ?_); refine EvCall.rd (by first | (simp only [go_sem, simprocAttr]; rfl) | rfl) (sp_baseCode (k:=k) (f:=f) (c:=c) ?_ ?_ ?_) cal_baseCode (by simp [go_sem]) (by simp [go_sem]) ?_; all_goals try simp only [go_sem, simprocAttr]) | (refine fun (hc : (_ : Bool) = _) => ?_; try simp only [hcS] at hc))
  all_goals try (first | (with_reducible assumption) | ((try simp only [Cat.F, Cat.T, Cat.I, Cat.C, Fun.O, Fun.A, Cat.Entry, Int.toNat_natCast] at *); omega))
  all_goals try ((first | refine ret_auto ?_ | refine ret_auto' ?_); simp only [go_sem, simprocAttr, Tryz.f11])
  all_goals omega
theorem sp_RightCounit_far {k : Fun} {f : SF} {y0 : Nat} (hk : FunB k) (hf : SFB f) (ik : IsFun k) (jf : IsSF f) (he : k.src = f.shape) (hb : ExBad k f y0) : Spec Tryz.prog 11 [funV k, sfV f] [] (.tup [.agg [iv 0, .v (.slice none 0 0), .v (.slice none 0 0), .v (.slice none 0 0), .v (.slice none 0 0), .v (.slice none 0 0), .v (.slice none 0 0), iv 0, .v (.slice none 0 0), .v (.slice none 0 0), .v (.slice none 0 0), .v (.slice none 0 0), .v (.slice none 0 0), .v (.slice none 0 0), .v (.slice none 0 0)], iv 3]) [] := by
  have hc0 := bco_0 ik jf he
  have sp_extendRight_loc := sp_extendRight_no hk ik jf he.symm hb
  refine spec_of_V (E := TE) 0 Tryz.func11 rfl (by simp [Tryz.f11]) fun X hn hX => ?_
  repeat' (first | (with_reducible first | refine V_seq ?_ | refine V_block ?_ | refine V_skip ?_ | refine V_ret ?_ | refine V_exit ?_) | ((with_reducible refine V_cond ?_); simp only [go_sem, simprocAttr]) | ((first | refine V_region (by rw [hn]; rfl) ?_ | refine V_drawn hmix (by rw [hn]; rfl) ?_); intro K hK) | ((first | with_reducible refine evOps_n ?_ | ((with_reducible apply evOps_g); rfl) | with_reducible refine evOpsD_n ?_ | ((with_reducible apply evOpsD_g); rfl)); intro K hK; simp (contextual := true) only [go_sem, simprocAttr]) | with_reducible refine evOps_nil ?_ | ((with_reducible refine evOpsD_nil ?_ ?_); kernel_rfl) | ((with_reducible refine hK _ ?_); clear hK K) | (with_reducible first | refine And.intro ?_ ?_ | refine nxt_n ?_ | refine nxt_r ?_ | refine nxt_e ?_ | refine blk_n ?_ | refine blk_r ?_ | refine blk_same ?_ | refine blk_other (by decide) ?_ | refine noG_n ?_ | refine noG_r ?_ | refine noG_e ?_ | refine inR_mk ?_ ?_) | ((with_reducible refine evCall_at 35 ?_); refine EvCall.rd (by first | (simp only [go_sem, simprocAttr]; rfl) | rfl) (sp_baseCode (k:=k) (f:=f) (c:=0) ?_ ?_ ?_) cal_baseCode (by simp [go_sem]) (by simp [go_sem]) ?_; all_goals try simp only [go_sem, simprocAttr]) | ((with_reducible refine evCall_at 36 ?_); refine EvCall.rd (by first | (simp only [go_sem, simprocAttr]; rfl) | rfl) (sp_extendRight_loc) cal_extendRight (by simp [go_sem]) (by simp [go_sem]) ?_; all_goals try simp only [go_sem, simprocAttr]) | (refine fun (hc : (_ : Bool) = _) => ?_; try simp only [hcS] at hc))
  all_goals try (first | (with_reducible assumption) | ((try simp only [Cat.F, Cat.T, Cat.I, Cat.C, Fun.O, Fun.A, Cat.Entry, Int.toNat_natCast] at *); omega))
  all_goals try ((first | refine ret_auto ?_ | refine ret_auto' ?_); simp only [go_sem, simprocAttr, Tryz.f11])
  all_goals first | contradiction | omega
theorem sp_RightCounit_yes {k : Fun} {f : SF} (hk : FunB k) (hf : SFB f) (ik : IsFun k) (jf : IsSF f) (he : k.src = f.shape) (hg : ∀ y : Nat, (y : Int) < k.tgt.ob → (exT k y).length ≤ 64 ∧ (exL k f y).length ≤ 16) : Spec Tryz.prog 11 [funV k, sfV f] [] (.tup [.agg [iv k.src.ob, .sl 0, .sl 1, .sl 2, .sl 3, .sl 4, .sl 5, iv f.shape.ob, .sl 6, .sl 7, .sl 8, .sl 9, .sl 10, .sl 11, .sl 12], iv 0])
    [(0, ⟨1, .arr (ints k.src.fr)⟩), (1, ⟨1, .arr (ints k.src.to)⟩), (2, ⟨1, .arr (ints k.src.id)⟩), (3, ⟨1, .arr (intss k.src.co)⟩), (4, ⟨1, .arr (ints (alF k (exF k f)).sizes)⟩), (5, ⟨1, .arr (intss (alF k (exF k f)).acts)⟩), (6, ⟨1, .arr (ints f.shape.fr)⟩), (7, ⟨1, .arr (ints f.shape.to)⟩), (8, ⟨1, .arr (ints f.shape.id)⟩), (9, ⟨1, .arr (intss f.shape.co)⟩), (10, ⟨1, .arr (ints f.sizes)⟩), (11, ⟨1, .arr (intss f.acts)⟩), (12, ⟨1, .arr (intss (cuR k f k.obs.length))⟩)] := by
  have hc0 := bco_0 ik jf he
  have hx := sp_extendRight_yes hk ik jf he.symm hg
  have hAt : ∀ i : Nat, (i : Int) < k.tgt.ob → (ptsB ((List.range k.tgt.ob.toNat).map fun y : Nat => rAtD k f y)).at i = .pt (rAtD k f i) := fun i hi => by
    rw [ptsB_at (by simp; omega), List.getD_eq_getElem?_getD, List.getElem?_map, List.getElem?_range (by omega)]; rfl
  have hAl : ((List.range k.tgt.ob.toNat).map fun y : Nat => rAtD k f y).length = k.tgt.ob.toNat := by simp
  have hlend : ∀ (w : World) (R : Nat → Prop) (u : Value), RdV w R (ptsD (rAts k f k.tgt.ob.toNat)) u → RdV w R (ptsB ((List.range k.tgt.ob.toNat).map fun y : Nat => rAtD k f y)) u := fun w R u h => pts_lend _ w R u (by unfold rAts at h; rw [List.map_map]; exact h)
  obtain ⟨A, hA⟩ : ∃ A, (List.range k.tgt.ob.toNat).map (fun y : Nat => rAtD k f y) = A := ⟨_, rfl⟩
  obtain ⟨P, hP⟩ : ∃ P, rAts k f k.tgt.ob.toNat = P := ⟨_, rfl⟩
  rw [hA] at hAt hAl hlend
  rw [hP] at hx hlend
  have ho := ik.fits.obw
  have ha := ik.fits.arw
  have ob0 := ik.tgt.ob0
  have ob8 := ik.tgt.ob8
  have idl := ik.tgt.idl
  have hxb := exF_b ik hk hg
  have hxs := exF_szl (k := k) (f := f)
  have hxa := exF_acl (k := k) (f := f)
  have w1 : Within k.obs (exF k f).sizes.length := by
    have e : ((exF k f).sizes.length : Int) = k.tgt.ob := by omega
    rw [e]; exact ho
  have w2 : Within k.ars (exF k f).acts.length := by rw [hxa]; exact ha
  have hal := alF_b hk hxb w2
  have halong := sp_along hk hxb w1 w2
  have hcl := cuR_len (k := k) (f := f) (n := k.obs.length)
  have kb := hk.obs
  have hcr : ∀ i, i < (cuR k f k.obs.length).length → ((cuR k f k.obs.length).getD i []).length ≤ 1048576 := fun i hi => by
    rw [hcl] at hi
    have o := ho i hi
    obtain ⟨y, hy⟩ : ∃ y : Nat, k.obs.getD i 0 = y := ⟨_, (Int.toNat_of_nonneg o.1).symm⟩
    have := (hg y (by omega)).2
    rw [cuR_at hi, colN_len, hy]; omega
  refine spec_of_V (E := TE) 0 Tryz.func11 rfl (by simp [Tryz.f11]) fun X hn hX => ?_
  repeat' (first | (with_reducible first | refine V_seq ?_ | refine V_block ?_ | refine V_skip ?_ | refine V_ret ?_ | refine V_exit ?_) | ((with_reducible refine V_cond ?_); simp only [go_sem, simprocAttr]) | ((first | refine V_region (by rw [hn]; rfl) ?_ | refine V_drawn hmix (by rw [hn]; rfl) ?_); intro K hK) | ((first | with_reducible refine evOps_n ?_ | ((with_reducible apply evOps_g); rfl) | with_reducible refine evOpsD_n ?_ | ((with_reducible apply evOpsD_g); rfl)); intro K hK; simp (contextual := true) only [go_sem, simprocAttr]) | with_reducible refine evOps_nil ?_ | ((with_reducible refine evOpsD_nil ?_ ?_); kernel_rfl) | ((with_reducible refine hK _ ?_); clear hK K) | (with_reducible first | refine And.intro ?_ ?_ | refine nxt_n ?_ | refine nxt_r ?_ | refine nxt_e ?_ | refine blk_n ?_ | refine blk_r ?_ | refine blk_same ?_ | refine blk_other (by decide) ?_ | refine noG_n ?_ | refine noG_r ?_ | refine noG_e ?_ | refine inR_mk ?_ ?_) | ((with_reducible refine evCall_at 35 ?_); refine EvCall.rd (by first | (simp only [go_sem, simprocAttr]; rfl) | rfl) (sp_baseCode (k:=k) (f:=f) (c:=0) ?_ ?_ ?_) cal_baseCode (by simp [go_sem]) (by simp [go_sem]) ?_; all_goals try simp only [go_sem, simprocAttr]) | ((with_reducible refine evCall_at 36 ?_); refine EvCall.mk (hx) cal_extendRight [(0,3),(1,4),(2,5),(3,6),(4,7),(5,8),(6,9),(7,10)] [0,1] (by simp [go_sem] <;> first | rfl | (constructor <;> first | rfl | (constructor <;> rfl))) (by simp [go_sem] <;> first | rfl | (constructor <;> first | rfl | (constructor <;> rfl))) ?_; all_goals try simp only [go_sem, simprocAttr]) | (refine fun (hc : (_ : Bool) = _) => ?_; try simp only [hcS] at hc))
  all_goals try (first | (with_reducible assumption) | ((try simp only [Cat.F, Cat.T, Cat.I, Cat.C, Fun.O, Fun.A, Cat.Entry, Int.toNat_natCast] at *); omega))
  refine V_imp (Imp.cellLend 3 8 10 _ _ (ptsB A) rfl (Nat.le_refl 1) rfl rfl (Nat.le_refl 1) (by decide) hlend) ?_
  simp only [List.set_cons_zero, List.set_cons_succ]
  refine V_loopK (G := {x : Nat // x ≤ k.obs.length ∧ (True)}) (fun ⟨x, _⟩ => [(29, iv x), (9, .sl 11), (2, .ptr 0 0), (3, .ptr 1 0), (4, .ptr 2 0), (7, .ptr 3 0)]) [5, 27, 28] (fun ⟨x, _⟩ => [(11, ⟨1, .arr (intss (cuR k f x))⟩)]) [11] (fun zz => k.obs.length - zz.1) ⟨0, Nat.zero_le _, by first | trivial | simp⟩ ?_ ?_
  · exact Imp.auto hX (by simp [go_sem, simprocAttr])
  rintro ⟨x, hix, hwx⟩
  simp only [go_sem, simprocAttr]
  rcases Nat.lt_or_ge x k.obs.length with hlt | hge
  · have o := ho x hlt
    obtain ⟨y, hy⟩ : ∃ y : Nat, k.obs.getD x 0 = y := ⟨_, (Int.toNat_of_nonneg o.1).symm⟩
    obtain ⟨q1, q2, q3⟩ := cu_seat ik hlt
    have s1 := cuR_succ (k := k) (f := f) (n := x)
    have s2 := cuR_len (k := k) (f := f) (n := x)
    rw [hy] at q1 q2 q3 s1 o
    have ra := hAt y o.2
    have hko : KeyOK (exT k y) := keyOK_seats ik
    obtain ⟨g1, g2⟩ := hg y o.2
    have tl : ∀ i, i < (exL k f y).length → cuP k x < ((exL k f y).getD i []).length := fun i hi => by rw [exL_len (memL_getD hi)]; exact q3
    repeat' (first | (rw [hy]) | (rw [ra]) | (rw [q2]) | (with_reducible first | refine V_seq ?_ | refine V_block ?_ | refine V_skip ?_ | refine V_ret ?_ | refine V_exit ?_) | ((with_reducible refine V_cond ?_); simp only [go_sem, simprocAttr]) | ((first | refine V_region (by rw [hn]; rfl) ?_ | refine V_drawn hmix (by rw [hn]; rfl) ?_); intro K hK) | ((first | with_reducible refine evOps_n ?_ | ((with_reducible apply evOps_g); rfl) | with_reducible refine evOpsD_n ?_ | ((with_reducible apply evOpsD_g); rfl)); intro K hK; simp (contextual := true) only [go_sem, simprocAttr]) | with_reducible refine evOps_nil ?_ | ((with_reducible refine evOpsD_nil ?_ ?_); kernel_rfl) | ((with_reducible refine hK _ ?_); clear hK K) | (with_reducible first | refine And.intro ?_ ?_ | refine nxt_n ?_ | refine nxt_r ?_ | refine nxt_e ?_ | refine blk_n ?_ | refine blk_r ?_ | refine blk_same ?_ | refine blk_other (by decide) ?_ | refine noG_n ?_ | refine noG_r ?_ | refine noG_e ?_ | refine inR_mk ?_ ?_) | ((with_reducible refine evCall_at 38 ?_); refine EvCall.rd (by first | (simp only [go_sem, simprocAttr]; rfl) | rfl) (sp_rightAt_seat (A:=exT k y) (x:=x) (h:=k.tgt.I y) ?_ ?_) cal_rightAt_seat (by simp [go_sem]) (by simp [go_sem]) ?_; all_goals try simp only [go_sem, simprocAttr]) | ((with_reducible refine evCall_at 37 ?_); refine EvCall.rd (by first | (simp only [go_sem, simprocAttr]; rfl) | rfl) (sp_column (l:=exL k f y) (k:=cuP k x) ?_ ?_) cal_column (by simp [go_sem]) (by simp [go_sem]) ?_; all_goals try simp only [go_sem, simprocAttr]) | (refine fun (hc : (_ : Bool) = _) => ?_; try simp only [hcS] at hc))
    all_goals try (first | (with_reducible assumption) | ((try simp only [Cat.F, Cat.T, Cat.I, Cat.C, Fun.O, Fun.A, Cat.Entry, Int.toNat_natCast] at *); omega))
    · refine ⟨⟨x + 1, by omega, (by trivial)⟩, by simp only; omega, Imp.auto hX (by simp only [go_sem, simprocAttr, s1])⟩
  · have e1 : x = k.obs.length := by omega
    subst e1
    repeat' (first | (with_reducible first | refine V_seq ?_ | refine V_block ?_ | refine V_skip ?_ | refine V_ret ?_ | refine V_exit ?_) | ((with_reducible refine V_cond ?_); simp only [go_sem, simprocAttr]) | ((first | refine V_region (by rw [hn]; rfl) ?_ | refine V_drawn hmix (by rw [hn]; rfl) ?_); intro K hK) | ((first | with_reducible refine evOps_n ?_ | ((with_reducible apply evOps_g); rfl) | with_reducible refine evOpsD_n ?_ | ((with_reducible apply evOpsD_g); rfl)); intro K hK; simp (contextual := true) only [go_sem, simprocAttr]) | with_reducible refine evOps_nil ?_ | ((with_reducible refine evOpsD_nil ?_ ?_); kernel_rfl) | ((with_reducible refine hK _ ?_); clear hK K) | (with_reducible first | refine And.intro ?_ ?_ | refine nxt_n ?_ | refine nxt_r ?_ | refine nxt_e ?_ | refine blk_n ?_ | refine blk_r ?_ | refine blk_same ?_ | refine blk_other (by decide) ?_ | refine noG_n ?_ | refine noG_r ?_ | refine noG_e ?_ | refine inR_mk ?_ ?_) | ((with_reducible refine evCall_at 39 ?_); refine EvCall.mk (halong) cal_along [(0,12),(1,13),(2,14),(3,15),(4,16),(5,17)] [0,3,4,5,6,7,8,9,10] (by simp [go_sem] <;> first | rfl | (constructor <;> first | rfl | (constructor <;> rfl))) (by simp [go_sem] <;> first | rfl | (constructor <;> first | rfl | (constructor <;> rfl))) ?_; all_goals try simp only [go_sem, simprocAttr]) | ((with_reducible refine evCall_at 40 ?_); refine EvCall.rd (by first | (simp only [go_sem, simprocAttr]; rfl) | rfl) (sp_setMap (f:=alF k (exF k f)) (g:=f) (p:=cuR k f k.obs.length) ?_ ?_ ?_ ?_) cal_setMap (by simp [go_sem]) (by simp [go_sem]) ?_; all_goals try simp only [go_sem, simprocAttr]) | (refine fun (hc : (_ : Bool) = _) => ?_; try simp only [hcS] at hc))
    all_goals try (first | (with_reducible assumption) | ((try simp only [Cat.F, Cat.T, Cat.I, Cat.C, Fun.O, Fun.A, Cat.Entry, Int.toNat_natCast] at *); omega))
    · (first | refine ret_auto ?_ | refine ret_auto' ?_); simp only [go_sem, simprocAttr, Tryz.f11]
theorem cal_l23Along : Callable Tryz.prog 30 := ⟨_, Tryz.func30, rfl, rfl⟩
theorem sp_l23Along {k : Fun} {g : SF} (hkb : FunB k) (hgb : SFB g) (ho : Within k.obs g.sizes.length) (ha : Within k.ars g.acts.length) : Spec Tryz.prog 30 [funV k, sfV g] [] (.agg [iv k.src.ob, .sl 0, .sl 1, .sl 2, .sl 3, .sl 4, .sl 5]) [(0, ⟨1, .arr (ints k.src.fr)⟩), (1, ⟨1, .arr (ints k.src.to)⟩), (2, ⟨1, .arr (ints k.src.id)⟩), (3, ⟨1, .arr (intss k.src.co)⟩), (4, ⟨1, .arr (ints (alF k g).sizes)⟩), (5, ⟨1, .arr (intss (alF k g).acts)⟩)] := by
  refine spec_of_V (E := TE) 0 Tryz.func30 rfl (by simp [Tryz.f30]) fun X hn hX => ?_
  obtain ⟨b1, b2, b3, b4⟩ := hkb
  obtain ⟨c1, c2, c3, c4⟩ := hgb
  have hZ : (alF k g).sizes = alSz k g k.obs.length := rfl
  have hC : (alF k g).acts = alAc k g k.ars.length := rfl
  rw [hZ, hC]
  repeat' (first | (with_reducible first | refine V_seq ?_ | refine V_block ?_ | refine V_skip ?_ | refine V_ret ?_ | refine V_exit ?_) | ((with_reducible refine V_cond ?_); simp only [go_sem, simprocAttr]) | ((first | refine V_region (by rw [hn]; rfl) ?_ | refine V_drawn hmix (by rw [hn]; rfl) ?_); intro K hK) | ((first | with_reducible refine evOps_n ?_ | ((with_reducible apply evOps_g); rfl) | with_reducible refine evOpsD_n ?_ | ((with_reducible apply evOpsD_g); rfl)); intro K hK; simp (contextual := true) only [go_sem, simprocAttr]) | with_reducible refine evOps_nil ?_ | ((with_reducible refine evOpsD_nil ?_ ?_); kernel_rfl) | ((with_reducible refine hK _ ?_); clear hK K) | (with_reducible first | refine And.intro ?_ ?_ | refine nxt_n ?_ | refine nxt_r ?_ | refine nxt_e ?_ | refine blk_n ?_ | refine blk_r ?_ | refine blk_same ?_ | refine blk_other (by decide) ?_ | refine noG_n ?_ | refine noG_r ?_ | refine noG_e ?_ | refine inR_mk ?_ ?_) | ((with_reducible refine evCall_at 60 ?_); refine EvCall.rd (by first | (simp only [go_sem, simprocAttr]; rfl) | rfl) (sp_l02Own (c:=k.src) ?_) cal_l02Own (by simp [go_sem]) (by simp [go_sem]) ?_; all_goals try simp only [go_sem, simprocAttr]) | (refine fun (hc : (_ : Bool) = _) => ?_; try simp only [hcS] at hc))
  all_goals try (first | (with_reducible assumption) | ((try simp only [Cat.F, Cat.T, Cat.I, Cat.C, Fun.O, Fun.A, Cat.Entry, Int.toNat_natCast] at *); omega))
  refine V_loopK (G := {x : Nat // x ≤ k.obs.length ∧ (True)}) (fun ⟨x, _⟩ => [(6, iv x), (2, .ptr 0 0), (3, .ptr 1 0), (4, .ptr 2 0), (5, .ptr 9 0)]) [] (fun ⟨x, _⟩ => [(9, ⟨1, .box [iv k.src.ob, .sl 3, .sl 4, .sl 5, .sl 6, .sl 7, .sl 8]⟩), (7, ⟨1, .arr (ints (alSz k g x))⟩)]) [7, 9] (fun zz => k.obs.length - zz.1) ⟨0, Nat.zero_le _, by first | trivial | simp⟩ ?_ ?_
  · exact Imp.auto hX (by simp [go_sem, simprocAttr])
  rintro ⟨x, hix, hwx⟩
  simp only [go_sem, simprocAttr]
  rcases Nat.lt_or_ge x k.obs.length with hlt | hge
  · have h1 := ho x hlt
    have h3 := alSz_succ (k := k) (g := g) (n := x)
    have h4 := alSz_len (k := k) (g := g) (n := x)
    repeat' (first | (with_reducible first | refine V_seq ?_ | refine V_block ?_ | refine V_skip ?_ | refine V_ret ?_ | refine V_exit ?_) | ((with_reducible refine V_cond ?_); simp only [go_sem, simprocAttr]) | ((first | refine V_region (by rw [hn]; rfl) ?_ | refine V_drawn hmix (by rw [hn]; rfl) ?_); intro K hK) | ((first | with_reducible refine evOps_n ?_ | ((with_reducible apply evOps_g); rfl) | with_reducible refine evOpsD_n ?_ | ((with_reducible apply evOpsD_g); rfl)); intro K hK; simp (contextual := true) only [go_sem, simprocAttr]) | with_reducible refine evOps_nil ?_ | ((with_reducible refine evOpsD_nil ?_ ?_); kernel_rfl) | ((with_reducible refine hK _ ?_); clear hK K) | (with_reducible first | refine And.intro ?_ ?_ | refine nxt_n ?_ | refine nxt_r ?_ | refine nxt_e ?_ | refine blk_n ?_ | refine blk_r ?_ | refine blk_same ?_ | refine blk_other (by decide) ?_ | refine noG_n ?_ | refine noG_r ?_ | refine noG_e ?_ | refine inR_mk ?_ ?_) | (refine fun (hc : (_ : Bool) = _) => ?_; try simp only [hcS] at hc))
    all_goals try (first | (with_reducible assumption) | ((try simp only [Cat.F, Cat.T, Cat.I, Cat.C, Fun.O, Fun.A, Cat.Entry, Int.toNat_natCast] at *); omega))
    · refine ⟨⟨x + 1, by omega, (by trivial)⟩, by simp only; omega, Imp.auto hX (by simp only [go_sem, simprocAttr, h3 (show x < k.obs.length by omega)])⟩
  · have e1 : x = k.obs.length := by omega
    subst e1
    repeat' (first | (with_reducible first | refine V_seq ?_ | refine V_block ?_ | refine V_skip ?_ | refine V_ret ?_ | refine V_exit ?_) | ((with_reducible refine V_cond ?_); simp only [go_sem, simprocAttr]) | ((first | refine V_region (by rw [hn]; rfl) ?_ | refine V_drawn hmix (by rw [hn]; rfl) ?_); intro K hK) | ((first | with_reducible refine evOps_n ?_ | ((with_reducible apply evOps_g); rfl) | with_reducible refine evOpsD_n ?_ | ((with_reducible apply evOpsD_g); rfl)); intro K hK; simp (contextual := true) only [go_sem, simprocAttr]) | with_reducible refine evOps_nil ?_ | ((with_reducible refine evOpsD_nil ?_ ?_); kernel_rfl) | ((with_reducible refine hK _ ?_); clear hK K) | (with_reducible first | refine And.intro ?_ ?_ | refine nxt_n ?_ | refine nxt_r ?_ | refine nxt_e ?_ | refine blk_n ?_ | refine blk_r ?_ | refine blk_same ?_ | refine blk_other (by decide) ?_ | refine noG_n ?_ | refine noG_r ?_ | refine noG_e ?_ | refine inR_mk ?_ ?_) | (refine fun (hc : (_ : Bool) = _) => ?_; try simp only [hcS] at hc))
    all_goals try (first | (with_reducible assumption) | ((try simp only [Cat.F, Cat.T, Cat.I, Cat.C, Fun.O, Fun.A, Cat.Entry, Int.toNat_natCast] at *); omega))
    refine V_loopK (G := {b : Nat // b ≤ k.ars.length ∧ (True)}) (fun ⟨b, _⟩ => [(7, iv b), (2, .ptr 0 0), (3, .ptr 1 0), (4, .ptr 2 0), (5, .ptr 9 0)]) [] (fun ⟨b, _⟩ => [(9, ⟨1, .box [iv k.src.ob, .sl 3, .sl 4, .sl 5, .sl 6, .sl 7, .sl 8]⟩), (8, ⟨1, .arr (intss (alAc k g b))⟩)]) [8, 9] (fun zz => k.ars.length - zz.1) ⟨0, Nat.zero_le _, by first | trivial | simp⟩ ?_ ?_
    · exact Imp.auto hX (by simp [go_sem, simprocAttr])
    rintro ⟨b, hib, hwb⟩
    simp only [go_sem, simprocAttr]
    have h1 := ha b
    have h2 := c4 (k.ars.getD b 0).toNat
    have h3 := alAc_succ (k := k) (g := g) (n := b)
    have h4 := alAc_len (k := k) (g := g) (n := b)
    repeat' (first | (with_reducible first | refine V_seq ?_ | refine V_block ?_ | refine V_skip ?_ | refine V_ret ?_ | refine V_exit ?_) | ((with_reducible refine V_cond ?_); simp only [go_sem, simprocAttr]) | ((first | refine V_region (by rw [hn]; rfl) ?_ | refine V_drawn hmix (by rw [hn]; rfl) ?_); intro K hK) | ((first | with_reducible refine evOps_n ?_ | ((with_reducible apply evOps_g); rfl) | with_reducible refine evOpsD_n ?_ | ((with_reducible apply evOpsD_g); rfl)); intro K hK; simp (contextual := true) only [go_sem, simprocAttr]) | with_reducible refine evOps_nil ?_ | ((with_reducible refine evOpsD_nil ?_ ?_); kernel_rfl) | ((with_reducible refine hK _ ?_); clear hK K) | (with_reducible first | refine And.intro ?_ ?_ | refine nxt_n ?_ | refine nxt_r ?_ | refine nxt_e ?_ | refine blk_n ?_ | refine blk_r ?_ | refine blk_same ?_ | refine blk_other (by decide) ?_ | refine noG_n ?_ | refine noG_r ?_ | refine noG_e ?_ | refine inR_mk ?_ ?_) | ((with_reducible refine evCall_at 61 ?_); refine EvCall.rd (by first | (simp only [go_sem, simprocAttr]; rfl) | rfl) (sp_l01Own ?_) cal_l01Own (by simp [go_sem]) (by simp [go_sem]) ?_; all_goals try simp only [go_sem, simprocAttr]) | (refine fun (hc : (_ : Bool) = _) => ?_; try simp only [hcS] at hc))
    all_goals try (first | (with_reducible assumption) | ((try simp only [Cat.F, Cat.T, Cat.I, Cat.C, Fun.O, Fun.A, Cat.Entry, Int.toNat_natCast] at *); omega))
    · refine ⟨⟨b + 1, by omega, (by trivial)⟩, by simp only; omega, Imp.auto hX (by simp only [go_sem, simprocAttr, h3 (show b < k.ars.length by omega)])⟩
    · (first | refine ret_auto ?_ | refine ret_auto' ?_); simp only [go_sem, simprocAttr, Tryz.f30]
      rw [show b = k.ars.length by omega]
theorem cal_l23Counit : Callable Tryz.prog 31 := ⟨_, Tryz.func31, rfl, rfl⟩
theorem sp_l23Counit {k : Fun} {f : SF} (hkb : FunB k) (hk : IsFun k) (hg : ∀ y : Nat, (y : Int) < k.tgt.ob → (exT k y).length ≤ 64 ∧ (exL k f y).length ≤ 16) : Spec Tryz.prog 31 [funV k, .agg [iv k.tgt.ob, .bor [] (ints k.tgt.fr), .bor [] (ints k.tgt.to), .bor [] (ints k.tgt.id), .bor [] (intss k.tgt.co), .bor [] (ints (exF k f).sizes), .bor [] (intss (exF k f).acts), .bor [] (intsss (exTs k k.tgt.ob.toNat)), .bor [] (intsss (exLs k f k.tgt.ob.toNat)), .v (.bool true)]] [] (.sl 0) [(0, ⟨1, .arr (intss (cuR k f k.obs.length))⟩)] := by
  refine spec_of_V (E := TE) 0 Tryz.func31 rfl (by simp [Tryz.f31]) fun X hn hX => ?_
  obtain ⟨A, hA⟩ : ∃ A, exTs k k.tgt.ob.toNat = A := ⟨_, rfl⟩
  obtain ⟨B, hB⟩ : ∃ B, exLs k f k.tgt.ob.toNat = B := ⟨_, rfl⟩
  have hAt : ∀ i : Nat, (i : Int) < k.tgt.ob → A.getD i [] = exT k i := fun i hi => by rw [← hA]; exact exTs_at (by omega)
  have hBt : ∀ i : Nat, (i : Int) < k.tgt.ob → B.getD i [] = exL k f i := fun i hi => by rw [← hB]; exact exLs_at (by omega)
  have hAl : A.length = k.tgt.ob.toNat := by rw [← hA]; exact exTs_len
  have hBl : B.length = k.tgt.ob.toNat := by rw [← hB]; exact exLs_len
  rw [hA, hB]
  have ho := hk.fits.obw
  have hol := hk.fits.obl
  have ob0 := hk.tgt.ob0
  have ob8 := hk.tgt.ob8
  have idl := hk.tgt.idl
  have sb0 := hk.src.ob0
  have sb8 := hk.src.ob8
  have tbl : ∀ (y : Int) (i : Nat), i < (exT k y).length → ((exT k y).getD i []).length ≤ 1048576 := fun y i hi => by have := (seat_ok hk (memL_getD (l := exT k y) hi)).len; omega
  repeat' (first | (with_reducible first | refine V_seq ?_ | refine V_block ?_ | refine V_skip ?_ | refine V_ret ?_ | refine V_exit ?_) | ((with_reducible refine V_cond ?_); simp only [go_sem, simprocAttr]) | ((first | refine V_region (by rw [hn]; rfl) ?_ | refine V_drawn hmix (by rw [hn]; rfl) ?_); intro K hK) | ((first | with_reducible refine evOps_n ?_ | ((with_reducible apply evOps_g); rfl) | with_reducible refine evOpsD_n ?_ | ((with_reducible apply evOpsD_g); rfl)); intro K hK; simp (contextual := true) only [go_sem, simprocAttr]) | with_reducible refine evOps_nil ?_ | ((with_reducible refine evOpsD_nil ?_ ?_); kernel_rfl) | ((with_reducible refine hK _ ?_); clear hK K) | (with_reducible first | refine And.intro ?_ ?_ | refine nxt_n ?_ | refine nxt_r ?_ | refine nxt_e ?_ | refine blk_n ?_ | refine blk_r ?_ | refine blk_same ?_ | refine blk_other (by decide) ?_ | refine noG_n ?_ | refine noG_r ?_ | refine noG_e ?_ | refine inR_mk ?_ ?_) | (refine fun (hc : (_ : Bool) = _) => ?_; try simp only [hcS] at hc))
  all_goals try (first | (with_reducible assumption) | ((try simp only [Cat.F, Cat.T, Cat.I, Cat.C, Fun.O, Fun.A, Cat.Entry, Int.toNat_natCast] at *); omega))
  refine V_loopK (G := {x : Nat // x ≤ k.obs.length ∧ (True)}) (fun ⟨x, _⟩ => [(6, iv x), (5, .sl 2), (2, .ptr 0 0), (3, .ptr 1 0)]) [4] (fun ⟨x, _⟩ => [(2, ⟨1, .arr (intss (cuR k f x))⟩)]) [2] (fun zz => k.obs.length - zz.1) ⟨0, Nat.zero_le _, by first | trivial | simp⟩ ?_ ?_
  · exact Imp.auto hX (by simp [go_sem, simprocAttr])
  rintro ⟨x, hix, hwx⟩
  simp only [go_sem, simprocAttr]
  rcases Nat.lt_or_ge x k.obs.length with hlt | hge
  · have o := ho x hlt
    obtain ⟨y, hy⟩ : ∃ y : Nat, k.obs.getD x 0 = y := ⟨_, (Int.toNat_of_nonneg o.1).symm⟩
    obtain ⟨q1, q2, q3⟩ := cu_seat hk hlt
    have s1 := cuR_succ (k := k) (f := f) (n := x)
    have s2 := cuR_len (k := k) (f := f) (n := x)
    rw [hy] at q1 q2 q3 s1 o
    have ra := hAt y o.2
    have rb := hBt y o.2
    obtain ⟨g1, g2⟩ := hg y o.2
    have tb1 := fun i => tbl y i
    have tl : ∀ i, i < (exL k f y).length → cuP k x < ((exL k f y).getD i []).length := fun i hi => by rw [exL_len (memL_getD hi)]; exact q3
    have l2 : ([(x : Int), k.tgt.I y] : List Int).length ≤ 1048576 := by simp
    repeat' (first | (rw [hy]) | (rw [ra]) | (rw [rb]) | (rw [q2]) | (with_reducible first | refine V_seq ?_ | refine V_block ?_ | refine V_skip ?_ | refine V_ret ?_ | refine V_exit ?_) | ((with_reducible refine V_cond ?_); simp only [go_sem, simprocAttr]) | ((first | refine V_region (by rw [hn]; rfl) ?_ | refine V_drawn hmix (by rw [hn]; rfl) ?_); intro K hK) | ((first | with_reducible refine evOps_n ?_ | ((with_reducible apply evOps_g); rfl) | with_reducible refine evOpsD_n ?_ | ((with_reducible apply evOpsD_g); rfl)); intro K hK; simp (contextual := true) only [go_sem, simprocAttr]) | with_reducible refine evOps_nil ?_ | ((with_reducible refine evOpsD_nil ?_ ?_); kernel_rfl) | ((with_reducible refine hK _ ?_); clear hK K) | (with_reducible first | refine And.intro ?_ ?_ | refine nxt_n ?_ | refine nxt_r ?_ | refine nxt_e ?_ | refine blk_n ?_ | refine blk_r ?_ | refine blk_same ?_ | refine blk_other (by decide) ?_ | refine noG_n ?_ | refine noG_r ?_ | refine noG_e ?_ | refine inR_mk ?_ ?_) | ((with_reducible refine evCall_at 51 ?_); refine EvCall.rd (by first | (simp only [go_sem, simprocAttr]; rfl) | rfl) (sp_l09Find (l:=exT k y) (r:=[(x:Int),k.tgt.I y]) ?_ ?_ ?_) cal_l09Find (by simp [go_sem]) (by simp [go_sem]) ?_; all_goals try simp only [go_sem, simprocAttr]) | (refine fun (hc : (_ : Bool) = _) => ?_; try simp only [hcS] at hc))
    all_goals try (first | (with_reducible assumption) | ((try simp only [Cat.F, Cat.T, Cat.I, Cat.C, Fun.O, Fun.A, Cat.Entry, Int.toNat_natCast] at *); omega))
    refine V_loopK (G := {i : Nat // i ≤ (exL k f y).length ∧ (True)}) (fun ⟨i, _⟩ => [(10, iv i), (9, .sl 4), (36, .sl 3), (2, .ptr 0 0), (3, .ptr 1 0)]) [4, 5, 6, 7, 8] (fun ⟨i, _⟩ => [(4, ⟨1, .arr (ints (colN (exL k f y) (cuP k x) i))⟩)]) [4] (fun zz => (exL k f y).length - zz.1) ⟨0, Nat.zero_le _, by first | trivial | simp⟩ ?_ ?_
    · exact Imp.auto hX (by simp [go_sem, simprocAttr])
    rintro ⟨i, hii, hwi⟩
    simp only [go_sem, simprocAttr]
    have t1 := tl i
    have t2 := colN_succ (l := exL k f y) (k := cuP k x) (n := i)
    have t3 := colN_len (exL k f y) (cuP k x) i
    rcases Nat.lt_or_ge i (exL k f y).length with hlt2 | hge2
    · repeat' (first | (rw [rb]) | (with_reducible first | refine V_seq ?_ | refine V_block ?_ | refine V_skip ?_ | refine V_ret ?_ | refine V_exit ?_) | ((with_reducible refine V_cond ?_); simp only [go_sem, simprocAttr]) | ((first | refine V_region (by rw [hn]; rfl) ?_ | refine V_drawn hmix (by rw [hn]; rfl) ?_); intro K hK) | ((first | with_reducible refine evOps_n ?_ | ((with_reducible apply evOps_g); rfl) | with_reducible refine evOpsD_n ?_ | ((with_reducible apply evOpsD_g); rfl)); intro K hK; simp (contextual := true) only [go_sem, simprocAttr]) | with_reducible refine evOps_nil ?_ | ((with_reducible refine evOpsD_nil ?_ ?_); kernel_rfl) | ((with_reducible refine hK _ ?_); clear hK K) | (with_reducible first | refine And.intro ?_ ?_ | refine nxt_n ?_ | refine nxt_r ?_ | refine nxt_e ?_ | refine blk_n ?_ | refine blk_r ?_ | refine blk_same ?_ | refine blk_other (by decide) ?_ | refine noG_n ?_ | refine noG_r ?_ | refine noG_e ?_ | refine inR_mk ?_ ?_) | (refine fun (hc : (_ : Bool) = _) => ?_; try simp only [hcS] at hc))
      all_goals try (first | (with_reducible assumption) | ((try simp only [Cat.F, Cat.T, Cat.I, Cat.C, Fun.O, Fun.A, Cat.Entry, Int.toNat_natCast] at *); omega))
      · refine ⟨⟨i + 1, by omega, (by trivial)⟩, by simp only; omega, Imp.auto hX (by simp only [go_sem, simprocAttr, t2 hlt2])⟩
    · have e1 : i = (exL k f y).length := by omega
      subst e1
      repeat' (first | (rw [rb]) | (with_reducible first | refine V_seq ?_ | refine V_block ?_ | refine V_skip ?_ | refine V_ret ?_ | refine V_exit ?_) | ((with_reducible refine V_cond ?_); simp only [go_sem, simprocAttr]) | ((first | refine V_region (by rw [hn]; rfl) ?_ | refine V_drawn hmix (by rw [hn]; rfl) ?_); intro K hK) | ((first | with_reducible refine evOps_n ?_ | ((with_reducible apply evOps_g); rfl) | with_reducible refine evOpsD_n ?_ | ((with_reducible apply evOpsD_g); rfl)); intro K hK; simp (contextual := true) only [go_sem, simprocAttr]) | with_reducible refine evOps_nil ?_ | ((with_reducible refine evOpsD_nil ?_ ?_); kernel_rfl) | ((with_reducible refine hK _ ?_); clear hK K) | (with_reducible first | refine And.intro ?_ ?_ | refine nxt_n ?_ | refine nxt_r ?_ | refine nxt_e ?_ | refine blk_n ?_ | refine blk_r ?_ | refine blk_same ?_ | refine blk_other (by decide) ?_ | refine noG_n ?_ | refine noG_r ?_ | refine noG_e ?_ | refine inR_mk ?_ ?_) | (refine fun (hc : (_ : Bool) = _) => ?_; try simp only [hcS] at hc))
      all_goals try (first | (with_reducible assumption) | ((try simp only [Cat.F, Cat.T, Cat.I, Cat.C, Fun.O, Fun.A, Cat.Entry, Int.toNat_natCast] at *); omega))
      · refine ⟨⟨x + 1, by omega, (by trivial)⟩, by simp only; omega, Imp.auto hX (by simp only [go_sem, simprocAttr, s1])⟩
  · have e1 : x = k.obs.length := by omega
    subst e1
    repeat' (first | (with_reducible first | refine V_seq ?_ | refine V_block ?_ | refine V_skip ?_ | refine V_ret ?_ | refine V_exit ?_) | ((with_reducible refine V_cond ?_); simp only [go_sem, simprocAttr]) | ((first | refine V_region (by rw [hn]; rfl) ?_ | refine V_drawn hmix (by rw [hn]; rfl) ?_); intro K hK) | ((first | with_reducible refine evOps_n ?_ | ((with_reducible apply evOps_g); rfl) | with_reducible refine evOpsD_n ?_ | ((with_reducible apply evOpsD_g); rfl)); intro K hK; simp (contextual := true) only [go_sem, simprocAttr]) | with_reducible refine evOps_nil ?_ | ((with_reducible refine evOpsD_nil ?_ ?_); kernel_rfl) | ((with_reducible refine hK _ ?_); clear hK K) | (with_reducible first | refine And.intro ?_ ?_ | refine nxt_n ?_ | refine nxt_r ?_ | refine nxt_e ?_ | refine blk_n ?_ | refine blk_r ?_ | refine blk_same ?_ | refine blk_other (by decide) ?_ | refine noG_n ?_ | refine noG_r ?_ | refine noG_e ?_ | refine inR_mk ?_ ?_) | (refine fun (hc : (_ : Bool) = _) => ?_; try simp only [hcS] at hc))
    all_goals try (first | (with_reducible assumption) | ((try simp only [Cat.F, Cat.T, Cat.I, Cat.C, Fun.O, Fun.A, Cat.Entry, Int.toNat_natCast] at *); omega))
    · (first | refine ret_auto ?_ | refine ret_auto' ?_); simp only [go_sem, simprocAttr, Tryz.f31]
theorem cal_spec_RightCounit : Callable Tryz.prog 8 := ⟨_, Tryz.func8, rfl, rfl⟩
theorem sp_spec_RightCounit_bad {k : Fun} {f : SF} {c : Int} (hk : FunB k) (hf : SFB f) (h : BCo k f c) (h0 : c ≠ 0) : Spec Tryz.prog 8 [funV k, sfV f] [] (.tup [.agg [iv 0, .v (.slice none 0 0), .v (.slice none 0 0), .v (.slice none 0 0), .v (.slice none 0 0), .v (.slice none 0 0), .v (.slice none 0 0), iv 0, .v (.slice none 0 0), .v (.slice none 0 0), .v (.slice none 0 0), .v (.slice none 0 0), .v (.slice none 0 0), .v (.slice none 0 0), .v (.slice none 0 0)], iv c]) [] := by
  have sp_l23RightCode_loc := sp_l23RightCode_bad hk hf h h0
  refine spec_of_V (E := TE) 0 Tryz.func8 rfl (by simp [Tryz.f8]) fun X hn hX => ?_
  repeat' (first | (with_reducible first | refine V_seq ?_ | refine V_block ?_ | refine V_skip ?_ | refine V_ret ?_ | refine V_exit ?_) | ((with_reducible refine V_cond ?_); simp only [go_sem, simprocAttr]) | ((first | refine V_region (by rw [hn]; rfl) ?_ | refine V_drawn hmix (by rw [hn]; rfl) ?_); intro K hK) | ((first | with_reducible refine evOps_n ?_ | ((with_reducible apply evOps_g); rfl) | with_reducible refine evOpsD_n ?_ | ((with_reducible apply evOpsD_g); rfl)); intro K hK; simp (contextual := true) only [go_sem, simprocAttr]) | with_reducible refine evOps_nil ?_ | ((with_reducible refine evOpsD_nil ?_ ?_); kernel_rfl) | ((with_reducible refine hK _ ?_); clear hK K) | (with_reducible first | refine And.intro ?_ ?_ | refine nxt_n ?_ | refine nxt_r ?_ | refine nxt_e ?_ | refine blk_n ?_ | refine blk_r ?_ | refine blk_same ?_ | refine blk_other (by decide) ?_ | refine noG_n ?_ | refine noG_r ?_ | refine noG_e ?_ | refine inR_mk ?_ ?_) | ((with_reducible refine evCall_at 28 ?_); refine EvCall.rd (by first | (simp only [go_sem, simprocAttr]; rfl) | rfl) (sp_l23RightCode_loc) cal_l23RightCode (by simp [go_sem]) (by simp [go_sem]) ?_; all_goals try simp only [go_sem, simprocAttr]) | (refine fun (hc : (_ : Bool) = _) => ?_; try simp only [hcS] at hc))
  all_goals try (first | (with_reducible assumption) | ((try simp only [Cat.F, Cat.T, Cat.I, Cat.C, Fun.O, Fun.A, Cat.Entry, Int.toNat_natCast] at *); omega))
  all_goals try ((first | refine ret_auto ?_ | refine ret_auto' ?_); simp only [go_sem, simprocAttr, Tryz.f8])
  all_goals omega
theorem sp_spec_RightCounit_far {k : Fun} {f : SF} {y0 : Nat} (hk : FunB k) (hf : SFB f) (ik : IsFun k) (jf : IsSF f) (he : k.src = f.shape) (hb : ExBad k f y0) : Spec Tryz.prog 8 [funV k, sfV f] [] (.tup [.agg [iv 0, .v (.slice none 0 0), .v (.slice none 0 0), .v (.slice none 0 0), .v (.slice none 0 0), .v (.slice none 0 0), .v (.slice none 0 0), iv 0, .v (.slice none 0 0), .v (.slice none 0 0), .v (.slice none 0 0), .v (.slice none 0 0), .v (.slice none 0 0), .v (.slice none 0 0), .v (.slice none 0 0)], iv 3]) [] := by
  have sp_l23RightCode_loc := sp_l23RightCode_far hk hf ik jf he hb
  refine spec_of_V (E := TE) 0 Tryz.func8 rfl (by simp [Tryz.f8]) fun X hn hX => ?_
  repeat' (first | (with_reducible first | refine V_seq ?_ | refine V_block ?_ | refine V_skip ?_ | refine V_ret ?_ | refine V_exit ?_) | ((with_reducible refine V_cond ?_); simp only [go_sem, simprocAttr]) | ((first | refine V_region (by rw [hn]; rfl) ?_ | refine V_drawn hmix (by rw [hn]; rfl) ?_); intro K hK) | ((first | with_reducible refine evOps_n ?_ | ((with_reducible apply evOps_g); rfl) | with_reducible refine evOpsD_n ?_ | ((with_reducible apply evOpsD_g); rfl)); intro K hK; simp (contextual := true) only [go_sem, simprocAttr]) | with_reducible refine evOps_nil ?_ | ((with_reducible refine evOpsD_nil ?_ ?_); kernel_rfl) | ((with_reducible refine hK _ ?_); clear hK K) | (with_reducible first | refine And.intro ?_ ?_ | refine nxt_n ?_ | refine nxt_r ?_ | refine nxt_e ?_ | refine blk_n ?_ | refine blk_r ?_ | refine blk_same ?_ | refine blk_other (by decide) ?_ | refine noG_n ?_ | refine noG_r ?_ | refine noG_e ?_ | refine inR_mk ?_ ?_) | ((with_reducible refine evCall_at 28 ?_); refine EvCall.rd (by first | (simp only [go_sem, simprocAttr]; rfl) | rfl) (sp_l23RightCode_loc) cal_l23RightCode (by simp [go_sem]) (by simp [go_sem]) ?_; all_goals try simp only [go_sem, simprocAttr]) | (refine fun (hc : (_ : Bool) = _) => ?_; try simp only [hcS] at hc))
  all_goals try (first | (with_reducible assumption) | ((try simp only [Cat.F, Cat.T, Cat.I, Cat.C, Fun.O, Fun.A, Cat.Entry, Int.toNat_natCast] at *); omega))
  all_goals try ((first | refine ret_auto ?_ | refine ret_auto' ?_); simp only [go_sem, simprocAttr, Tryz.f8])
theorem sp_spec_RightCounit_yes {k : Fun} {f : SF} (hk : FunB k) (hf : SFB f) (ik : IsFun k) (jf : IsSF f) (he : k.src = f.shape) (hg : ∀ y : Nat, (y : Int) < k.tgt.ob → (exT k y).length ≤ 64 ∧ (exL k f y).length ≤ 16) : Spec Tryz.prog 8 [funV k, sfV f] [] (.tup [.agg [iv k.src.ob, .sl 0, .sl 1, .sl 2, .sl 3, .sl 4, .sl 5, iv f.shape.ob, .sl 6, .sl 7, .sl 8, .sl 9, .sl 10, .sl 11, .sl 12], iv 0])
    [(0, ⟨1, .arr (ints k.src.fr)⟩), (1, ⟨1, .arr (ints k.src.to)⟩), (2, ⟨1, .arr (ints k.src.id)⟩), (3, ⟨1, .arr (intss k.src.co)⟩), (4, ⟨1, .arr (ints (alF k (exF k f)).sizes)⟩), (5, ⟨1, .arr (intss (alF k (exF k f)).acts)⟩), (6, ⟨1, .arr (ints f.shape.fr)⟩), (7, ⟨1, .arr (ints f.shape.to)⟩), (8, ⟨1, .arr (ints f.shape.id)⟩), (9, ⟨1, .arr (intss f.shape.co)⟩), (10, ⟨1, .arr (ints f.sizes)⟩), (11, ⟨1, .arr (intss f.acts)⟩), (12, ⟨1, .arr (intss (cuR k f k.obs.length))⟩)] := by
  have sp_l23RightCode_loc := sp_l23RightCode_yes hk hf ik jf he hg
  have ho := ik.fits.obw
  have ha := ik.fits.arw
  have ob0 := ik.tgt.ob0
  have ob8 := ik.tgt.ob8
  have hxb := exF_b ik hk hg
  have hxs := exF_szl (k := k) (f := f)
  have hxa := exF_acl (k := k) (f := f)
  have w1 : Within k.obs (exF k f).sizes.length := by
    have e : ((exF k f).sizes.length : Int) = k.tgt.ob := by omega
    rw [e]; exact ho
  have w2 : Within k.ars (exF k f).acts.length := by rw [hxa]; exact ha
  have hal := alF_b hk hxb w2
  have hcl := cuR_len (k := k) (f := f) (n := k.obs.length)
  have kb := hk.obs
  have hcr : ∀ i, i < (cuR k f k.obs.length).length → ((cuR k f k.obs.length).getD i []).length ≤ 1048576 := fun i hi => by
    rw [hcl] at hi
    have o := ho i hi
    obtain ⟨y, hy⟩ : ∃ y : Nat, k.obs.getD i 0 = y := ⟨_, (Int.toNat_of_nonneg o.1).symm⟩
    have := (hg y (by omega)).2
    rw [cuR_at hi, colN_len, hy]; omega
  refine spec_of_V (E := TE) 0 Tryz.func8 rfl (by simp [Tryz.f8]) fun X hn hX => ?_
  repeat' (first | (with_reducible first | refine V_seq ?_ | refine V_block ?_ | refine V_skip ?_ | refine V_ret ?_ | refine V_exit ?_) | ((with_reducible refine V_cond ?_); simp only [go_sem, simprocAttr]) | ((first | refine V_region (by rw [hn]; rfl) ?_ | refine V_drawn hmix (by rw [hn]; rfl) ?_); intro K hK) | ((first | with_reducible refine evOps_n ?_ | ((with_reducible apply evOps_g); rfl) | with_reducible refine evOpsD_n ?_ | ((with_reducible apply evOpsD_g); rfl)); intro K hK; simp (contextual := true) only [go_sem, simprocAttr]) | with_reducible refine evOps_nil ?_ | ((with_reducible refine evOpsD_nil ?_ ?_); kernel_rfl) | ((with_reducible refine hK _ ?_); clear hK K) | (with_reducible first | refine And.intro ?_ ?_ | refine nxt_n ?_ | refine nxt_r ?_ | refine nxt_e ?_ | refine blk_n ?_ | refine blk_r ?_ | refine blk_same ?_ | refine blk_other (by decide) ?_ | refine noG_n ?_ | refine noG_r ?_ | refine noG_e ?_ | refine inR_mk ?_ ?_) | ((with_reducible refine evCall_at 28 ?_); refine EvCall.rd (by first | (simp only [go_sem, simprocAttr]; rfl) | rfl) (sp_l23RightCode_loc) cal_l23RightCode (by simp [go_sem]) (by simp [go_sem]) ?_; all_goals try simp only [go_sem, simprocAttr]) | ((with_reducible refine evCall_at 30 ?_); refine EvCall.rd (by first | (simp only [go_sem, simprocAttr]; rfl) | rfl) (sp_l23Along (k:=k) (g:=exF k f) ?_ ?_ ?_ ?_) cal_l23Along (by simp [go_sem]) (by simp [go_sem]) ?_; all_goals try simp only [go_sem, simprocAttr]) | ((with_reducible refine evCall_at 31 ?_); refine EvCall.rd (by first | (simp only [go_sem, simprocAttr]; rfl) | rfl) (sp_l23Counit (k:=k) (f:=f) ?_ ?_ ?_) cal_l23Counit (by simp [go_sem]) (by simp [go_sem]) ?_; all_goals try simp only [go_sem, simprocAttr]) | ((with_reducible refine evCall_at 29 ?_); refine EvCall.rd (by first | (simp only [go_sem, simprocAttr]; rfl) | rfl) (sp_l19Make (f:=alF k (exF k f)) (g:=f) (p:=cuR k f k.obs.length) ?_ ?_ ?_ ?_) cal_l19Make (by simp [go_sem]) (by simp [go_sem]) ?_; all_goals try simp only [go_sem, simprocAttr]) | (refine fun (hc : (_ : Bool) = _) => ?_; try simp only [hcS] at hc))
  all_goals try (first | (with_reducible assumption) | ((try simp only [Cat.F, Cat.T, Cat.I, Cat.C, Fun.O, Fun.A, Cat.Entry, Int.toNat_natCast] at *); omega))
  all_goals try ((first | refine ret_auto ?_ | refine ret_auto' ?_); simp only [go_sem, simprocAttr, Tryz.f8])
  all_goals first | contradiction | omega
end Go.Eng
