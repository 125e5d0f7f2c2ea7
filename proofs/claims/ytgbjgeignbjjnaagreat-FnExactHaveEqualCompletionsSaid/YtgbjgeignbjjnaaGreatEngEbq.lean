/- The engine, part EB: a truth value compared with itself. -/
import Derived.Test.YtgbjgeignbjjnaaGreatKex
import Derived.Laws.Small
set_option linter.unusedVariables false
set_option linter.unusedSimpArgs false
namespace Go.Eng
open Go
theorem HkX.neb {X : Cx} {E : Env} {d : Option Nat} {t u : TypeId} {x y : Operand} {σ : Ss} {K : Ss → Prop} {a : Bool} (ht : E.P.underlying t = some .bool) (hx : σ.opd x = .v (.bool a)) (hy : σ.opd y = .v (.bool a))
    (hK : K (σ.ap d (.v (.bool false)) [] σ.nx)) : HkX X E d (.binOp .neq t x y u) σ K:=by
  refine ⟨[],_,[],_,fun w1 U1 ds _ o hd ho hdn tm rs h1 h2=>?_,hK,fun i hi=>by simp at hi⟩
  refine step_val (E:=E) (by rw [hd];exact hdn) _ fun ac w c hp h=>?_
  have hx1:=h x
  have hy1:=h y
  have ex : opd tm x = σ.opd x:=h1 x (by rw [ho];simp [Op.operands])
  have ey : opd tm y = σ.opd y:=h1 y (by rw [ho];simp [Op.operands])
  rw [ex,hx] at hx1
  rw [ey,hy] at hy1
  simp only [Sv.ok] at hx1 hy1
  simp [execOp,ho,hx1,hy1,eqGuard,binOp,run_equal_bool w t a a ht]
end Go.Eng
