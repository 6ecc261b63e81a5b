import Derived.Test.YtideijigonjohaaTy
import Derived.Test.YtideijigonjohaaLc
set_option linter.unusedVariables false
set_option linter.unusedSimpArgs false
namespace Go.Proofs.Ytideijigonjohaa
open Go Go.Lf Go.Proofs
attribute [local irreducible] Lf.rg Lf.ro Lf.PWp Lf.SOp Lf.ACall Lf.Scoped Lf.dg Lf.dw
set_option maxRecDepth 20000
set_option maxHeartbeats 4000000

/-- The call of a function's value that captures nothing. -/
theorem sop_callv {P : Program} {N : Nat} {o : Oper} {Γ : Env} {σ : Sto} {K : AV → Sto → Prop} {f : FuncId} {x : Operand} {args : Array Operand} {ts : Array TypeId} (ho : o.op = .call { callee := .value x, args := args, argTypes := ts }) (hx : Lf.ev Γ x = .lit (.func (.func f) #[] #[]))
    (hc : ∀ (args : Array Value) (w : World), (callFunc f args).run P w = .ok (.enter f args) w) (h : ACall P f (args.toList.map (Lf.ev Γ)) σ K) : SOp P N o Γ σ K := by
  unfold SOp
  unfold ACall at h
  intro ρ w a next Q hf hr hn
  have e := hf.lit hx
  have hrun : (execOp a.eval o).run P w = .ok (.enter f (args.map a.eval)) w := by
    simp [execOp, ho, resolve, Deferred.ofValue, e, invoke, hc]
  unfold Oper.wp
  rw [hrun, Oper.upon_enter]
  have hvs : ∀ l : List Operand, VRl σ ρ w (l.map (Lf.ev Γ)) (l.map a.eval) := by
    intro l
    induction l with
    | nil => simp [VRl]
    | cons x l ih => simp only [List.map_cons, VRl]; exact ⟨hf.ev x, ih⟩
  have := h ρ w (args.toList.map a.eval) hr (hvs _)
  have harr : (args.toList.map a.eval).toArray = args.map a.eval := Array.ext' (by simp)
  rw [harr] at this
  refine this.mono ?_
  rintro e w' ⟨r, σ', ρ', v, rfl, h2, h3, h4, h5⟩
  exact hn r σ' ρ' w' v h2 h3 h4 h5
theorem n_callv {P : Program} {N : Nat} {o : Oper} {Γ : Env} {σ : Sto} {K : AV → Sto → Prop} {f : FuncId} {x : Operand} {args : Array Operand} {ts : Array TypeId} {ys : List AV} (ho : o.op = .call { callee := .value x, args := args, argTypes := ts }) (hx : Lf.ev Γ x = .lit (.func (.func f) #[] #[]))
    (hc : ∀ (args : Array Value) (w : World), (callFunc f args).run P w = .ok (.enter f args) w) (has : args.toList.map (Lf.ev Γ) = ys) (h : ACall P f ys σ K) : SOp P N o Γ σ K := by
  subst has
  exact sop_callv ho hx hc h
end Go.Proofs.Ytideijigonjohaa
