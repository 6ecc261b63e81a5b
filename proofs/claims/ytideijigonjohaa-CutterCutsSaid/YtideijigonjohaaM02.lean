import Derived.Test.YtideijigonjohaaTy
import Derived.Test.YtideijigonjohaaLc
set_option linter.unusedVariables false
set_option linter.unusedSimpArgs false
namespace Go.Proofs.Ytideijigonjohaa
open Go Go.Lf Go.Proofs
attribute [local irreducible] Lf.rg Lf.ro Lf.PWp Lf.SOp Lf.ACall Lf.Scoped Lf.dg Lf.dw
set_option maxRecDepth 20000
set_option maxHeartbeats 4000000
theorem n_append_none {P : Program} {N : Nat} {o : Oper} {Γ : Env} {σ : Sto} {K : AV → Sto → Prop} {x y : Operand} {t e sz bt : Nat} {z : Value} {f q : Bool} {xs ys : List (List AV)} {X Y : AV}
    (ho : o.op = .call { callee := .builtin .append, args := #[x, y], argTypes := #[t, t] }) (ht : P.underlying t = some (.slice e)) (he : EO P e sz bt z)
    (hx : ev Γ x = .sl f q xs) (hY : ev Γ y = Y) (hy : rd σ Y = some ys) (hys : ys = []) (hX : AV.sl f q xs = X) (hK : K X σ) : SOp P N o Γ σ K := by
  subst hY; subst hX; subst hys
  refine SOp.pure (.sl f q xs) (fun ρ w a hf hr => ?_) hK
  have hX := hf.ev x
  rw [hx] at hX
  obtain ⟨ay, cy, vy, ey, ly, my, ny, sy, ry, oy, Vy⟩ := rd_src hr (hf.ev y) hy
  have hX' := hX
  simp only [VR] at hX'
  obtain ⟨ax, cap, sz', e1, e2, _⟩ := hX'
  refine ⟨.slice ax xs.length cap, ?_, ?_⟩
  · apply exec_append ho
    rw [e1, ey]
    exact run_append_zero ht he _ _ _ e2 _ _
  · rw [← e1]; exact hX
end Go.Proofs.Ytideijigonjohaa
