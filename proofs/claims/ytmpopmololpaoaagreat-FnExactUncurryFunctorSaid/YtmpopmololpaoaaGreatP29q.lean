/- The law FnExactUncurryFunctor is true of the given program: for every three categories and every functor the call returns true, and all four read behind it as they did. No condition. -/
import Derived.Test.YtmpopmololpaoaaGreatR36q
import Derived.Test.YtmpopmololpaoaaGreatRows
import Derived.JoinedOf
import Derived.ProofKit
import Derived.Carry
set_option linter.unusedSimpArgs false
set_option linter.unusedVariables false
set_option maxRecDepth 100000
set_option maxHeartbeats 16000000
namespace Go.Proofs.YtmpopmololpaoaaGreat
open Go Go.Eng Go.Cats Go.ChangeShapes Go.WideShapes Go.RowKit
theorem Tryz.own29_ : ownKnob Tryz.checked.prog.godebug = none:=by kernel_rfl
theorem Tryz.laidOut29_ : laidOutB Tryz.prog = true:=by kernel_rfl
theorem uncurryFunctor_lifted (os : Os) (started : os.Started) (H : Type) (enc : TypeId × Value → H) :
    ReturnsInHanded {} Tryz.checked os 8 .any (Rows.fnExactUncurryFunctorSpec.pre6 enc Tryz.prog Tryz.f8 Rows.fnExactUncurryFunctorRow.domain Rows.fnExactUncurryFunctorRow.apart) (Rows.fnExactUncurryFunctorSpec.post enc Tryz.prog Tryz.f8 Rows.fnExactUncurryFunctorRow.apart Rows.fnExactUncurryFunctorRow.fresh Rows.fnExactUncurryFunctorRow.handsOn Rows.fnExactUncurryFunctorRow.again):=by
  refine returnsInHanded_of_change (C:=Tryz.checked) Tryz.own29_ started (by kernel_rfl) Tryz.func8
    (ChangeSpec.witness6 (enc:=enc) (C:=Tryz.checked) false ⟨#[],#[.agg #[.int .i64 0,.slice none 0 0,.slice none 0 0,.slice none 0 0,.slice none 0 0],.agg #[.int .i64 0,.slice none 0 0,.slice none 0 0,.slice none 0 0,.slice none 0 0],.agg #[.int .i64 0,.slice none 0 0,.slice none 0 0,.slice none 0 0,.slice none 0 0],.agg #[.int .i64 0,.slice none 0 0,.slice none 0 0,.slice none 0 0,.slice none 0 0,.int .i64 0,.slice none 0 0,.slice none 0 0,.slice none 0 0,.slice none 0 0,.slice none 0 0,.slice none 0 0]],[]⟩ 8 (by kernel_rfl) (by kernel_rfl) (by kernel_rfl) (by kernel_rfl)) ?_
  intro W base args ds gs before hval0 hW hcnd _
  have hval : ∀ (j : Nat) t v,Tryz.f8.params[j]? = some t → args[j]? = some v → Value.okWide Tryz.prog W .any base t v:=hval0
  have hW':=hW
  obtain ⟨p,q,hA0,hV,rfl,hfz,hnd⟩:=hW
  obtain ⟨rfl,rfl⟩:=trodVars_none hV
  have hA : DataW.TrodAll enc Tryz.prog W 0 (fun _=>true) true [25,25,25,48] args.toList ds p:=hA0
  obtain ⟨v0,v1,v2,v3,d0,d1,d2,d3,p0,p1,p2,p3,rfl,rfl,rfl,h0,h1,h2,h3⟩:=trodAll_four hA
  obtain ⟨cs0,rfl,_⟩:=okWide_struct Tryz.underlying25 (hval 0 25 v0 rfl rfl)
  obtain ⟨fuel0,hf0⟩:=h0
  have hg0:=hf0
  rw [show (Value.agg cs0).cells.toList = cs0.toList from rfl] at hf0
  obtain ⟨a0,hm0,hok0⟩:=rd_cat hf0
  obtain ⟨cs1,rfl,_⟩:=okWide_struct Tryz.underlying25 (hval 1 25 v1 rfl rfl)
  obtain ⟨fuel1,hf1⟩:=h1
  have hg1:=hf1
  rw [show (Value.agg cs1).cells.toList = cs1.toList from rfl] at hf1
  obtain ⟨a1,hm1,hok1⟩:=rd_cat hf1
  obtain ⟨cs2,rfl,_⟩:=okWide_struct Tryz.underlying25 (hval 2 25 v2 rfl rfl)
  obtain ⟨fuel2,hf2⟩:=h2
  have hg2:=hf2
  rw [show (Value.agg cs2).cells.toList = cs2.toList from rfl] at hf2
  obtain ⟨a2,hm2,hok2⟩:=rd_cat hf2
  obtain ⟨cs3,rfl,_⟩:=okWide_struct Tryz.underlying48 (hval 3 48 v3 rfl rfl)
  obtain ⟨fuel3,hf3⟩:=h3
  have hg3:=hf3
  rw [show (Value.agg cs3).cells.toList = cs3.toList from rfl] at hf3
  obtain ⟨a3,hm3,hok3⟩:=rd_fun hf3
  have hlt : ∀ y ∈ p0 ++ p1 ++ p2 ++ p3,y.block < W.heap.size:=fun y hy=>hW'.lt y (by simpa using hy)
  refine (sp_FnExactUncurryFunctor (a0:=a0) (a1:=a1) (a2:=a2) (a3:=a3) hm0 hm1 hm2 hm3 W (Old W) (Old W) _ [.agg cs0,.agg cs1,.agg cs2,.agg cs3] (hp_start W) ?_).mono fun ed W' ⟨v,c1,he,hp,hv,_⟩=>?_
  · simp only [Sv.okL,Sv.ok]
    exact ⟨_,_,rfl,⟨cs0.toList,by simp,hok0 _ _⟩,_,_,rfl,⟨cs1.toList,by simp,hok1 _ _⟩,_,_,rfl,⟨cs2.toList,by simp,hok2 _ _⟩,_,_,rfl,⟨cs3.toList,by simp,hok3 _ _⟩,rfl⟩
  · simp only [Sv.ok] at hv
    subst hv
    subst he
    have hb:=below_of_hp hp
    refine ⟨_,rfl,post_law hW' rfl rfl Tryz.underlying4 rfl hb ?_⟩
    simp only [List.append_nil,List.append_assoc]
    exact trodAll_mk4 (Below.trod Tryz.laidOut29_ (by kernel_rfl) (of_decide_eq_true (by kernel_rfl)) ⟨fuel0,hg0⟩ hb (fun y hy=>hlt y (by simp [hy]))) (Below.trod Tryz.laidOut29_ (by kernel_rfl) (of_decide_eq_true (by kernel_rfl)) ⟨fuel1,hg1⟩ hb (fun y hy=>hlt y (by simp [hy]))) (Below.trod Tryz.laidOut29_ (by kernel_rfl) (of_decide_eq_true (by kernel_rfl)) ⟨fuel2,hg2⟩ hb (fun y hy=>hlt y (by simp [hy]))) (Below.trod Tryz.laidOut29_ (by kernel_rfl) (of_decide_eq_true (by kernel_rfl)) ⟨fuel3,hg3⟩ hb (fun y hy=>hlt y (by simp [hy])))
theorem uncurryFunctor_holds : Rows.FnExactUncurryFunctorSaid :=
  OpenClaim.holds_of_wide 8 Tryz.f8 rfl rfl rfl rfl rfl rfl rfl ⟨rfl,rfl,rfl,rfl,rfl⟩ rfl rfl rfl rfl rfl (by kernel_rfl) Tryz.func8 (by kernel_rfl)
    (of_decide_eq_true (by kernel_rfl)) (by unfold Func.isWrapper;first|(rw [if_pos (by decide +kernel)];kernel_rfl)|(rw [if_neg (by decide +kernel)];exact ⟨rfl,rfl⟩))
    (fun os started H enc _=>uncurryFunctor_lifted os started H enc)
#print axioms uncurryFunctor_holds
end Go.Proofs.YtmpopmololpaoaaGreat
