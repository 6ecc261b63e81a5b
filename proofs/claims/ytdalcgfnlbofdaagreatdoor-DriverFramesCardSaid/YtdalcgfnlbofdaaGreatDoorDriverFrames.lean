/- The law DriverFrames returns true for every input: proved by contracts of the functions that it calls (layer Lf), then lifted to the given statement. No condition. -/
import Derived.Test.YtdalcgfnlbofdaaGreatDoorZ01
import Derived.Test.YtdalcgfnlbofdaaGreatDoorZ02
import Derived.Test.YtdalcgfnlbofdaaGreatDoorZ03
import Derived.Test.YtdalcgfnlbofdaaGreatDoorZ04
import Derived.Test.YtdalcgfnlbofdaaGreatDoorZ05
import Derived.Test.YtdalcgfnlbofdaaGreatDoorZ06
import Derived.Test.YtdalcgfnlbofdaaGreatDoorZ07
import Derived.Test.YtdalcgfnlbofdaaGreatDoorZ08
import Derived.Test.YtdalcgfnlbofdaaGreatDoorZ09
import Derived.Test.YtdalcgfnlbofdaaGreatDoorZ10
import Derived.Test.YtdalcgfnlbofdaaGreatDoorZ11
import Derived.Test.YtdalcgfnlbofdaaGreatDoorZ12
import Derived.Test.YtdalcgfnlbofdaaGreatDoorZ13
import Derived.Test.YtdalcgfnlbofdaaGreatDoorZ14
import Derived.Test.YtdalcgfnlbofdaaGreatDoorZ15
import Derived.Test.YtdalcgfnlbofdaaGreatDoorZ16
import Derived.Test.YtdalcgfnlbofdaaGreatDoorZ17
import Derived.Test.YtdalcgfnlbofdaaGreatDoorZ18
import Derived.Test.YtdalcgfnlbofdaaGreatDoorZ19
import Derived.Test.YtdalcgfnlbofdaaGreatDoorZ20
import Derived.Test.YtdalcgfnlbofdaaGreatDoorZ21
import Derived.Test.YtdalcgfnlbofdaaGreatDoorZ22
import Derived.Test.YtdalcgfnlbofdaaGreatDoorZ23
import Derived.Test.YtdalcgfnlbofdaaGreatDoorZ24
import Derived.Test.YtdalcgfnlbofdaaGreatDoorZ25
import Derived.Test.YtdalcgfnlbofdaaGreatDoorZ26
import Derived.Test.YtdalcgfnlbofdaaGreatDoorZ27
import Derived.Test.YtdalcgfnlbofdaaGreatDoorZ28
import Derived.Test.YtdalcgfnlbofdaaGreatDoorZ29
import Derived.Test.YtdalcgfnlbofdaaGreatDoorZ30
import Derived.Test.YtdalcgfnlbofdaaGreatDoorZ31
import Derived.Test.YtdalcgfnlbofdaaGreatDoorZ32
import Derived.Test.YtdalcgfnlbofdaaGreatDoorZ33
import Derived.Test.YtdalcgfnlbofdaaGreatDoorZ34
import Derived.Test.YtdalcgfnlbofdaaGreatDoorZ35
import Derived.Test.YtdalcgfnlbofdaaGreatDoorRows
import Derived.WalkKit
import Derived.ProofKit
import Derived.OpenShut
import Derived.ShutString
import Derived.ChangeOld
import Derived.Below
import Derived.LaidMore
import Derived.Stop.Joined
import Derived.SevenTiedAt
import Derived.Test.YtdalcgfnlbofdaaGreatDoorCards
import Derived.Test.YtdalcgfnlbofdaaGreatDoorTie
namespace Go.Proofs.YtdalcgfnlbofdaaGreatDoor.driverFrames
open Go.ChangeShapes Go.WideShapes Go.ChangeAt Go.RowKit
open Go.ChangeMaps (open_string shut_string)
set_option linter.unusedVariables false

theorem own : ownKnob Tryz.prog.godebug = none := by kernel_rfl
theorem laidOut : laidOutB Tryz.prog = true := by kernel_rfl
theorem door_met (os : Os) (args : Array Value) : laidMetH Tryz.prog zjm ((World.doorLaid Tryz.prog 19 os).forCall (fun _ _ => 0) ⟨#[], args, []⟩).memory :=
  laidMetH_of_parts3 (fuel := 8) (laidMet_of_run' 8 (by kernel_rfl) (by kernel_rfl)) (by kernel_rfl) (by kernel_rfl)

theorem walk (n0 : Int) (g1 : Array Value) (w : World) (hG : Lf.GV [] Lf.rz0 w) (x0 : ∃ xs, Lf.Sh Tryz.prog 6 3 xs ∧ ((∃ x, xs = [x] ∧ Lf.VR [] Lf.rz0 w x (.int .i64 n0)) ∨ Lf.VR [] Lf.rz0 w (.ag xs) (.int .i64 n0))) (x1 : ∃ xs, Lf.Sh Tryz.prog 6 25 xs ∧ ((∃ x, xs = [x] ∧ Lf.VR [] Lf.rz0 w x (.agg g1)) ∨ Lf.VR [] Lf.rz0 w (.ag xs) (.agg g1))) :
    Calls Tryz.prog 3 #[.int .i64 n0, .agg g1] w fun e w' => e = .returned (.bool true) ∧ Below w.heap.size w w' := by
  obtain ⟨⟨k, t, n, e, fl, ss⟩, ⟨h1, h2⟩, hv1⟩ := zlv x1
  exact Lf.zfU (zeE _ k t n e fl ss h1 h2) ⟨rfl, hv1, trivial⟩ hG

set_option maxRecDepth 100000 in
theorem lifted (os : Os) (started : os.Started) (H : Type) (enc : TypeId × Value → H) :
    ReturnsInHanded {} Tryz.checked os 3 .any (fun w args => (Rows.driverFramesSpec.pre enc Tryz.prog Tryz.f3 [] false w args ∧ laidMetH Tryz.prog zjm w) ∧ sizedMet enc Tryz.prog Tryz.f3 (OpenSpec.ofChange Rows.driverFramesSpec) false w args)
      (Rows.driverFramesSpec.post enc Tryz.prog Tryz.f3 false true false false) := by
  refine returnsInHanded_of_change_and (C := Tryz.checked) (X := fun w _ => laidMetH Tryz.prog zjm w) (fun _ _ _ hh h => h.of_heap hh) own started (by kernel_rfl) Tryz.func3
    (ChangeSpec.witness_shaped (enc := enc) (C := Tryz.checked) (os := os) (X := fun w _ => laidMetH Tryz.prog zjm w) false (World.doorLaid Tryz.prog 19 os) #[Value.int IntKind.i64 0, Value.agg #[Value.int IntKind.i64 0, Value.int IntKind.i64 0, Value.int IntKind.i64 0, Value.bool false, Value.slice none 0 0, Value.slice none 0 0]] 8 rfl (World.shaped_of_RefB (by kernel_rfl) (by kernel_rfl)) (by kernel_rfl) (by kernel_rfl) (by kernel_rfl) (door_met os _)) ?_
  intro W base args ds gs before hval0 hW _ _ hL _
  have hval : ∀ (j : Nat) t v, Tryz.f3.params[j]? = some t → args[j]? = some v → Value.okWide Tryz.prog W .any base t v := hval0
  have hW' := hW
  obtain ⟨p, q, hA0, hV, rfl, hfz, hnd⟩ := hW
  have hA : DataW.TrodAll enc Tryz.prog W 0 (fun _ => true) true Tryz.f3.params.toList args.toList ds p := hA0
  rw [Tryz.params3] at hA hval
  obtain ⟨v0, vs0, d0, ds0, p0, q0, hargs, rfl, rfl, h0, r0⟩ := trodAll_cons hA
  obtain ⟨v1, vs1, d1, ds1, p1, q1, rfl, rfl, rfl, h1, r1⟩ := trodAll_cons r0
  obtain ⟨rfl, rfl, rfl⟩ := trodAll_nil r1
  obtain rfl : args = #[v0, v1] := by cases args; simp_all
  obtain ⟨rfl, rfl⟩ := trodVars_none hV
  obtain ⟨n0, rfl⟩ := okWide_int Tryz.underlying3 (hval 0 3 v0 rfl rfl)
  have k0 := h0
  have lt0 : ∀ x ∈ p0, x.block < W.heap.size := by obtain ⟨m, hm⟩ := k0; exact DataW.trod_lt m _ _ _ hm
  have x0 := Lf.zeS 6 (by kernel_rfl) h0
  obtain ⟨g1, rfl, _⟩ := okWide_struct Tryz.underlying25 (hval 1 25 v1 rfl rfl)
  have k1 := h1
  have lt1 : ∀ x ∈ p1, x.block < W.heap.size := by obtain ⟨m, hm⟩ := k1; exact DataW.trod_lt m _ _ _ hm
  have x1 := Lf.zeS 6 (by kernel_rfl) h1
  clear hA0 hval0
  have hG := zgu hL
  refine (walk n0 g1 W hG x0 x1).mono fun e W' ⟨he, bel⟩ => ?_
  subst he
  exact ⟨_, rfl, _, _, _, [], _, [], hW', trodAll_mk1 (shut_bool Tryz.underlying4 _), (trodAll_cons_mk (Below.trod laidOut (by kernel_rfl) (of_decide_eq_true (by kernel_rfl)) k0 bel lt0) (trodAll_cons_mk (Below.trod laidOut (by kernel_rfl) (of_decide_eq_true (by kernel_rfl)) k1 bel lt1) trodAll_mk0)), rfl, bel.frame _, fun h => by cases h⟩

set_option maxRecDepth 100000 in
set_option maxHeartbeats 8000000 in
theorem closed : joinedFacts Tryz.pinned.checked.prog 3 Tryz.f3 Rows.driverFramesSpec Rows.driverFramesRow = true := by
  unfold joinedFacts
  repeat' (with_reducible refine Bool.and_eq_true_iff.2 ⟨?_, ?_⟩)
  all_goals (as_aux_lemma => kernel_rfl)

set_option maxHeartbeats 8000000 in
theorem over : Rows.driverFramesRow.holds Tryz.pinned (OpenSpec.ofChange Rows.driverFramesSpec) :=
  OpenClaim.holds_of_wide 3 Tryz.f3 rfl rfl rfl rfl rfl rfl rfl ⟨rfl, rfl, rfl, rfl, rfl⟩ rfl rfl rfl rfl rfl (by kernel_rfl) Tryz.func3 closed
    (of_decide_eq_true (by kernel_rfl)) (by unfold Func.isWrapper; first | (rw [if_pos (by decide +kernel)]; kernel_rfl) | (rw [if_neg (by decide +kernel)]; exact ⟨rfl, rfl⟩))
    (fun os started H enc _ => lifted os started H enc)

theorem proved : Rows.DriverFramesCardSaid :=
  Claim7.holds_tied_plain_at .later [] [.data] true (true, "d5839e807e13b3e7f28eee90ed0811396e7e1859bea39402a8d4c91d4f1deaad") false
    over (fun _ h => by cases h) (by kernel_rfl) (fun _ h => by cases h) driverFrames_row_tie rfl ⟨rfl, rfl⟩ (by kernel_rfl) rfl
    (fun f fn hf hfn => by
      obtain rfl : f = 3 := Option.some.inj ((show Tryz.prog.funcNamed "stickler/sticklerlaw47.DriverFrames" = some 3 by kernel_rfl).symm.trans hf) |>.symm
      obtain rfl : fn = Tryz.f3 := (Option.some.inj (Tryz.func3.symm.trans hfn)).symm
      exact ⟨by kernel_rfl, fun j t ht => by
        rw [Tryz.params3] at ht
        have hm : t ∈ [3, 25] := by simpa using Array.mem_of_getElem? ht
        have hall : ([3, 25].all fun u => !Tryz.prog.wantsStandIn u) = true := by kernel_rfl
        exact (show Tryz.prog.wantsStandIn t = false by simpa using List.all_eq_true.1 hall t hm)⟩)
    (by kernel_rfl)
#print axioms proved
end Go.Proofs.YtdalcgfnlbofdaaGreatDoor.driverFrames
