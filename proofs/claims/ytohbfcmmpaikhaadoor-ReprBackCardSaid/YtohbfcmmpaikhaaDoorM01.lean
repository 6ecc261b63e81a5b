import Derived.Test.YtohbfcmmpaikhaaDoorTy
import Derived.Test.YtohbfcmmpaikhaaDoorLc
set_option linter.unusedVariables false
set_option linter.unusedSimpArgs false
namespace Go.Proofs.YtohbfcmmpaikhaaDoor
open Go Go.Lf Go.Proofs
attribute [local irreducible] Lf.rg Lf.ro Lf.PWp Lf.SOp Lf.ACall Lf.Scoped Lf.dg Lf.dw
set_option maxRecDepth 20000
set_option maxHeartbeats 4000000
section
variable {P : Program} {N : Nat} {o : Oper} {Γ : Env} {σ : Sto} {K : AV → Sto → Prop} {x y : Operand} {ts : Array TypeId} {k k' : IntKind} {a b : Int}
theorem n_max_l (ho : o.op = .call { callee := .builtin .max, args := #[x, y], argTypes := ts }) (hx : ev Γ x = .lit (.int k a)) (hy : ev Γ y = .lit (.int k' b)) (h : b ≤ a) (hK : K (.lit (.int k a)) σ) : SOp P N o Γ σ K := by
  refine SOp.pure (.lit (.int k a)) (fun ρ w ac hf hr => ⟨.int k a, ?_, rfl⟩) hK
  have e1 := hf.lit hx
  have e2 := hf.lit hy
  have h2 : ¬ b > a := by omega
  simp [execOp, ho, resolve, invoke, builtin, Builtin.max_, Builtin.max2, e1, e2, h2]
theorem n_max_r (ho : o.op = .call { callee := .builtin .max, args := #[x, y], argTypes := ts }) (hx : ev Γ x = .lit (.int k a)) (hy : ev Γ y = .lit (.int k' b)) (h : a ≤ b) (hK : K (.lit (.int k b)) σ) : SOp P N o Γ σ K := by
  refine SOp.pure (.lit (.int k b)) (fun ρ w ac hf hr => ⟨.int k b, ?_, rfl⟩) hK
  have e1 := hf.lit hx
  have e2 := hf.lit hy
  by_cases h2 : b > a
  · simp [execOp, ho, resolve, invoke, builtin, Builtin.max_, Builtin.max2, e1, e2, h2]
  · obtain rfl : a = b := by omega
    simp [execOp, ho, resolve, invoke, builtin, Builtin.max_, Builtin.max2, e1, e2]
end
end Go.Proofs.YtohbfcmmpaikhaaDoor
