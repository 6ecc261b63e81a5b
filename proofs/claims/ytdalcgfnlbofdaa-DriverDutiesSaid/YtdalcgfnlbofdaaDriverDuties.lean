/- The law DriverDuties returns true for every input: proved by contracts of the functions that it calls (layer Lf), then lifted to the given statement. No condition. -/
import Derived.Test.YtdalcgfnlbofdaaZ01
import Derived.Test.YtdalcgfnlbofdaaZ02
import Derived.Test.YtdalcgfnlbofdaaZ03
import Derived.Test.YtdalcgfnlbofdaaZ04
import Derived.Test.YtdalcgfnlbofdaaZ05
import Derived.Test.YtdalcgfnlbofdaaZ06
import Derived.Test.YtdalcgfnlbofdaaZ07
import Derived.Test.YtdalcgfnlbofdaaZ08
import Derived.Test.YtdalcgfnlbofdaaZ09
import Derived.Test.YtdalcgfnlbofdaaZ10
import Derived.Test.YtdalcgfnlbofdaaZ11
import Derived.Test.YtdalcgfnlbofdaaZ12
import Derived.Test.YtdalcgfnlbofdaaRows
import Derived.WalkKit
import Derived.ProofKit
import Derived.OpenShut
import Derived.ShutString
import Derived.ChangeOld
import Derived.Below
namespace Go.Proofs.Ytdalcgfnlbofdaa.driverDuties
open Go.ChangeShapes Go.WideShapes Go.ChangeAt Go.RowKit
open Go.ChangeMaps (open_string shut_string)
set_option linter.unusedVariables false

theorem own : ownKnob Try.prog.godebug = none := by kernel_rfl
theorem laidOut : laidOutB Try.prog = true := by kernel_rfl

theorem walk (n0 : Int) (a1 : Option Addr) (l1 c1 : Nat) (w : World) (x0 : ∃ xs, Lf.Sh Try.prog 6 3 xs ∧ ((∃ x, xs = [x] ∧ Lf.VR [] Lf.rz0 w x (.int .i64 n0)) ∨ Lf.VR [] Lf.rz0 w (.ag xs) (.int .i64 n0))) (x1 : ∃ xs, Lf.Sh Try.prog 6 22 xs ∧ ((∃ x, xs = [x] ∧ Lf.VR [] Lf.rz0 w x (.slice a1 l1 c1)) ∨ Lf.VR [] Lf.rz0 w (.ag xs) (.slice a1 l1 c1))) :
    Calls Try.prog 3 #[.int .i64 n0, .slice a1 l1 c1] w fun e w' => e = .returned (.bool true) ∧ Below w.heap.size w w' := by
  obtain ⟨s, hs, hsb, hv⟩ := in_raws x1
  exact Lf.acall_walk (law_dduties _ false s hs hsb) ⟨rfl, hv, trivial⟩

set_option maxRecDepth 100000 in
theorem lifted (os : Os) (started : os.Started) (H : Type) (enc : TypeId × Value → H) :
    ReturnsInHanded {} Try.checked os 3 .any (Rows.driverDutiesSpec.pre6 enc Try.prog Try.f3 Rows.driverDutiesRow.domain false) (Rows.driverDutiesSpec.post enc Try.prog Try.f3 false true false false) := by
  refine returnsInHanded_of_change (C := Try.checked) own started (by kernel_rfl) Try.func3
    (ChangeSpec.witness6 (enc := enc) (C := Try.checked) false ⟨#[], #[Value.int IntKind.i64 0, Value.slice none 0 0], []⟩ 8 (by kernel_rfl) (by kernel_rfl) (by kernel_rfl) (by kernel_rfl)) ?_
  intro W base args ds gs before hval0 hW hcnd _
  have hval : ∀ (j : Nat) t v, Try.f3.params[j]? = some t → args[j]? = some v → Value.okWide Try.prog W .any base t v := hval0
  have hW' := hW
  obtain ⟨p, q, hA0, hV, rfl, hfz, hnd⟩ := hW
  have hA : DataW.TrodAll enc Try.prog W 0 (fun _ => true) true Try.f3.params.toList args.toList ds p := hA0
  rw [Try.params3] at hA hval
  obtain ⟨v0, vs0, d0, ds0, p0, q0, hargs, rfl, rfl, h0, r0⟩ := trodAll_cons hA
  obtain ⟨v1, vs1, d1, ds1, p1, q1, rfl, rfl, rfl, h1, r1⟩ := trodAll_cons r0
  obtain ⟨rfl, rfl, rfl⟩ := trodAll_nil r1
  obtain rfl : args = #[v0, v1] := by cases args; simp_all
  obtain ⟨rfl, rfl⟩ := trodVars_none hV
  obtain ⟨n0, rfl⟩ := okWide_int Try.underlying3 (hval 0 3 v0 rfl rfl)
  have k0 := h0
  have lt0 : ∀ x ∈ p0, x.block < W.heap.size := by obtain ⟨m, hm⟩ := k0; exact DataW.trod_lt m _ _ _ hm
  have x0 := Lf.trod_arg 6 (by kernel_rfl) h0
  obtain ⟨a1, l1, c1, rfl⟩ := okWide_slice Try.underlying22 (hval 1 22 v1 rfl rfl)
  have k1 := h1
  have lt1 : ∀ x ∈ p1, x.block < W.heap.size := by obtain ⟨m, hm⟩ := k1; exact DataW.trod_lt m _ _ _ hm
  have x1 := Lf.trod_arg 6 (by kernel_rfl) h1
  clear hA0 hval0
  refine (walk n0 a1 l1 c1 W x0 x1).mono fun e W' ⟨he, bel⟩ => ?_
  subst he
  exact ⟨_, rfl, _, _, _, [], _, [], hW', trodAll_mk1 (shut_bool Try.underlying4 _), (trodAll_cons_mk (Below.trod laidOut (by kernel_rfl) (of_decide_eq_true (by kernel_rfl)) k0 bel lt0) (trodAll_cons_mk (Below.trod laidOut (by kernel_rfl) (of_decide_eq_true (by kernel_rfl)) k1 bel lt1) trodAll_mk0)), rfl, bel.frame _, fun h => by cases h⟩

set_option maxRecDepth 100000 in
set_option maxHeartbeats 8000000 in
theorem closed : joinedFacts Try.pinned.checked.prog 3 Try.f3 Rows.driverDutiesSpec Rows.driverDutiesRow = true := by
  unfold joinedFacts
  repeat' (with_reducible refine Bool.and_eq_true_iff.2 ⟨?_, ?_⟩)
  all_goals (as_aux_lemma => kernel_rfl)

set_option maxHeartbeats 8000000 in
theorem over : Rows.driverDutiesRow.holds Try.pinned (OpenSpec.ofChange Rows.driverDutiesSpec) :=
  OpenClaim.holds_of_wide 3 Try.f3 rfl rfl rfl rfl rfl rfl rfl ⟨rfl, rfl, rfl, rfl, rfl⟩ rfl rfl rfl rfl rfl (by kernel_rfl) Try.func3 closed
    (of_decide_eq_true (by kernel_rfl)) (by unfold Func.isWrapper; first | (rw [if_pos (by decide +kernel)]; kernel_rfl) | (rw [if_neg (by decide +kernel)]; exact ⟨rfl, rfl⟩))
    (fun os started H enc _ => lifted os started H enc)

theorem proved : Rows.DriverDutiesSaid := over
#print axioms proved
end Go.Proofs.Ytdalcgfnlbofdaa.driverDuties
