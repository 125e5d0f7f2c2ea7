/- The law FnExactAllMonads is true of the given program: for every category the call returns true, and the category reads behind it as it did. No condition. -/
import Derived.Test.YtmpopmololpaoaaGreatU09q
import Derived.Test.YtmpopmololpaoaaGreatRows
import Derived.JoinedOf
import Derived.ProofKit
set_option linter.unusedSimpArgs false
set_option linter.unusedVariables false
set_option maxRecDepth 100000
set_option maxHeartbeats 16000000
namespace Go.Proofs.YtmpopmololpaoaaGreat
open Go Go.Eng Go.Cats Go.ChangeShapes Go.WideShapes Go.RowKit
theorem Tryz.own30_ : ownKnob Tryz.checked.prog.godebug = none:=by kernel_rfl
theorem Tryz.laidOut30_ : laidOutB Tryz.prog = true:=by kernel_rfl
theorem allMonads_lifted (os : Os) (started : os.Started) (H : Type) (enc : TypeId × Value → H) :
    ReturnsInHanded {} Tryz.checked os 11 .any (Rows.fnExactAllMonadsSpec.pre6 enc Tryz.prog Tryz.f11 Rows.fnExactAllMonadsRow.domain Rows.fnExactAllMonadsRow.apart) (Rows.fnExactAllMonadsSpec.post enc Tryz.prog Tryz.f11 Rows.fnExactAllMonadsRow.apart Rows.fnExactAllMonadsRow.fresh Rows.fnExactAllMonadsRow.handsOn Rows.fnExactAllMonadsRow.again):=by
  refine returnsInHanded_of_change (C:=Tryz.checked) Tryz.own30_ started (by kernel_rfl) Tryz.func11
    (ChangeSpec.witness6 (enc:=enc) (C:=Tryz.checked) false ⟨#[],#[.agg #[.int .i64 0,.slice none 0 0,.slice none 0 0,.slice none 0 0,.slice none 0 0]],[]⟩ 8 (by kernel_rfl) (by kernel_rfl) (by kernel_rfl) (by kernel_rfl)) ?_
  intro W base args ds gs before hval0 hW hcnd _
  have hval : ∀ (j : Nat) t v,Tryz.f11.params[j]? = some t → args[j]? = some v → Value.okWide Tryz.prog W .any base t v:=hval0
  have hW':=hW
  obtain ⟨p,q,hA0,hV,rfl,hfz,hnd⟩:=hW
  obtain ⟨rfl,rfl⟩:=trodVars_none hV
  have hA : DataW.TrodAll enc Tryz.prog W 0 (fun _=>true) true [25] args.toList ds p:=hA0
  obtain ⟨v0,d0,rfl,rfl,h0⟩:=trodAll_one hA
  obtain ⟨cs0,rfl,_⟩:=okWide_struct Tryz.underlying25 (hval 0 25 v0 rfl rfl)
  obtain ⟨fuel0,hf0⟩:=h0
  have hg0:=hf0
  rw [show (Value.agg cs0).cells.toList = cs0.toList from rfl] at hf0
  obtain ⟨a0,hm0,hok0⟩:=rd_cat hf0
  have hlt : ∀ y ∈ p,y.block < W.heap.size:=fun y hy=>hW'.lt y (by simpa using hy)
  refine (sp_FnExactAllMonads (a0:=a0) hm0 W (Old W) (Old W) _ [.agg cs0] (hp_start W) ?_).mono fun ed W' ⟨v,c1,he,hp,hv,_⟩=>?_
  · simp only [Sv.okL,Sv.ok]
    exact ⟨_,_,rfl,⟨cs0.toList,by simp,hok0 _ _⟩,rfl⟩
  · simp only [Sv.ok] at hv
    subst hv
    subst he
    have hb:=below_of_hp hp
    refine ⟨_,rfl,post_law hW' rfl rfl Tryz.underlying4 rfl hb ?_⟩
    rw [List.append_nil]
    exact trodAll_mk1 (Below.trod Tryz.laidOut30_ (by kernel_rfl) (of_decide_eq_true (by kernel_rfl)) ⟨fuel0,hg0⟩ hb (fun y hy=>hlt y (by simp [hy])))
theorem allMonads_holds : Rows.FnExactAllMonadsSaid :=
  OpenClaim.holds_of_wide 11 Tryz.f11 rfl rfl rfl rfl rfl rfl rfl ⟨rfl,rfl,rfl,rfl,rfl⟩ rfl rfl rfl rfl rfl (by kernel_rfl) Tryz.func11 (by kernel_rfl)
    (of_decide_eq_true (by kernel_rfl)) (by unfold Func.isWrapper;first|(rw [if_pos (by decide +kernel)];kernel_rfl)|(rw [if_neg (by decide +kernel)];exact ⟨rfl,rfl⟩))
    (fun os started H enc _=>allMonads_lifted os started H enc)
#print axioms allMonads_holds
end Go.Proofs.YtmpopmololpaoaaGreat
