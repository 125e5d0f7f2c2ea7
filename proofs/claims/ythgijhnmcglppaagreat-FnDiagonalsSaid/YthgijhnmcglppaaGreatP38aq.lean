/- The law FnDiagonals is true of the given program: for every code the call returns true, and the code reads behind it as it did. No condition. -/
import Derived.Test.YthgijhnmcglppaaGreatJ03q
import Derived.Test.YthgijhnmcglppaaGreatRows
import Derived.JoinedOf
import Derived.ProofKit
set_option linter.unusedSimpArgs false
set_option linter.unusedVariables false
set_option maxRecDepth 100000
set_option maxHeartbeats 16000000
namespace Go.Proofs.YthgijhnmcglppaaGreat
open Go Go.Eng Go.Cats Go.ChangeShapes Go.WideShapes Go.RowKit
theorem Tryz.own38_:ownKnob Tryz.checked.prog.godebug=none:=by kernel_rfl
theorem Tryz.laidOut38_:laidOutB Tryz.prog=true:=by kernel_rfl
theorem xY (os:Os) (started:os.Started) (H:Type) (enc:TypeId×Value→H):
  ReturnsInHanded {} Tryz.checked os 3 .any (Rows.fnDiagonalsSpec.pre6 enc Tryz.prog Tryz.f3 Rows.fnDiagonalsRow.domain Rows.fnDiagonalsRow.apart) (Rows.fnDiagonalsSpec.post enc Tryz.prog Tryz.f3 Rows.fnDiagonalsRow.apart Rows.fnDiagonalsRow.fresh Rows.fnDiagonalsRow.handsOn Rows.fnDiagonalsRow.again):=by
 refine returnsInHanded_of_change (C:=Tryz.checked) Tryz.own38_ started (by kernel_rfl) Tryz.func3
  (ChangeSpec.witness6 (enc:=enc) (C:=Tryz.checked) false ⟨#[],#[.slice none 0 0],[]⟩ 8 (by kernel_rfl) (by kernel_rfl) (by kernel_rfl) (by kernel_rfl)) ?_
 intro W base args ds gs before hval0 hW hcnd _
 have hval:∀(j:Nat) t v,Tryz.f3.params[j]? =some t→args[j]? =some v→Value.okWide Tryz.prog W .any base t v:=hval0
 have hW':=hW
 obtain⟨p,q,hA0,hV,rfl,hfz,hnd⟩:=hW
 obtain⟨rfl,rfl⟩:=trodVars_none hV
 have hA:DataW.TrodAll enc Tryz.prog W 0 (fun _=>true) true [22] args.toList ds p:=hA0
 obtain⟨v0,d0,rfl,rfl,h0⟩:=trodAll_one hA
 obtain⟨x0,y0,z0,rfl⟩:=okWide_slice Tryz.underlying22 (hval 0 22 v0 rfl rfl)
 obtain⟨fuel0,hf0⟩:=h0
 have hg0:=hf0
 rw [show(Value.slice x0 y0 z0).cells.toList=[Value.slice x0 y0 z0] from rfl]at hf0
 obtain⟨u0,a0,hu0,ho0,hr0,hb0,hB0⟩:=aMS Tryz.underlying22 Tryz.underlying5 (by kernel_rfl) hf0
 obtain rfl:Value.slice x0 y0 z0=u0:=by simpa using hu0
 have hlt:∀y∈p,y.block<W.heap.size:=fun y hy=>hW'.lt y (by simpa using hy)
 refine(aBz (l:=a0) hb0 hB0 W (Old W) (Old W) _ [.slice x0 y0 z0] (aFy W) ?_).mono fun ed W' ⟨v,c1,he,hp,hv,_⟩=>?_
 ·simp only [Sv.okL,Sv.ok]
  exact⟨_,_,rfl,⟨fun p hp=>(by simp at hp),ho0,fun _=>RdV.mono (fun b hb=> .inl hb) _ _ hr0⟩,rfl⟩
 ·simp only [Sv.ok]at hv
  subst hv
  subst he
  have hb:=zD hp
  refine⟨_,rfl,aFP hW' rfl rfl Tryz.underlying4 rfl hb ?_⟩
  rw [List.append_nil]
  exact trodAll_mk1 (Below.trod Tryz.laidOut38_ (by kernel_rfl) (of_decide_eq_true (by kernel_rfl)) ⟨fuel0,hg0⟩ hb (fun y hy=>hlt y (by simp [hy])))
end Go.Proofs.YthgijhnmcglppaaGreat
