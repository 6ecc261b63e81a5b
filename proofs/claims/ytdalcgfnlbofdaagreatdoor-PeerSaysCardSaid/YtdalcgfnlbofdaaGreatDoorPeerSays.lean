/- The law PeerSays returns true for every input: proved by contracts of the functions that it calls (layer Lf), then lifted to the given statement. No condition. -/
import Derived.Test.YtdalcgfnlbofdaaGreatDoorY01
import Derived.Test.YtdalcgfnlbofdaaGreatDoorY02
import Derived.Test.YtdalcgfnlbofdaaGreatDoorY03
import Derived.Test.YtdalcgfnlbofdaaGreatDoorY04
import Derived.Test.YtdalcgfnlbofdaaGreatDoorY05
import Derived.Test.YtdalcgfnlbofdaaGreatDoorY06
import Derived.Test.YtdalcgfnlbofdaaGreatDoorY07
import Derived.Test.YtdalcgfnlbofdaaGreatDoorY08
import Derived.Test.YtdalcgfnlbofdaaGreatDoorY09
import Derived.Test.YtdalcgfnlbofdaaGreatDoorY10
import Derived.Test.YtdalcgfnlbofdaaGreatDoorY11
import Derived.Test.YtdalcgfnlbofdaaGreatDoorY12
import Derived.Test.YtdalcgfnlbofdaaGreatDoorY13
import Derived.Test.YtdalcgfnlbofdaaGreatDoorY14
import Derived.Test.YtdalcgfnlbofdaaGreatDoorY15
import Derived.Test.YtdalcgfnlbofdaaGreatDoorY16
import Derived.Test.YtdalcgfnlbofdaaGreatDoorY17
import Derived.Test.YtdalcgfnlbofdaaGreatDoorY18
import Derived.Test.YtdalcgfnlbofdaaGreatDoorY19
import Derived.Test.YtdalcgfnlbofdaaGreatDoorY20
import Derived.Test.YtdalcgfnlbofdaaGreatDoorY21
import Derived.Test.YtdalcgfnlbofdaaGreatDoorY22
import Derived.Test.YtdalcgfnlbofdaaGreatDoorY23
import Derived.Test.YtdalcgfnlbofdaaGreatDoorY24
import Derived.Test.YtdalcgfnlbofdaaGreatDoorY25
import Derived.Test.YtdalcgfnlbofdaaGreatDoorY26
import Derived.Test.YtdalcgfnlbofdaaGreatDoorY27
import Derived.Test.YtdalcgfnlbofdaaGreatDoorY28
import Derived.Test.YtdalcgfnlbofdaaGreatDoorY29
import Derived.Test.YtdalcgfnlbofdaaGreatDoorY30
import Derived.Test.YtdalcgfnlbofdaaGreatDoorY31
import Derived.Test.YtdalcgfnlbofdaaGreatDoorY32
import Derived.Test.YtdalcgfnlbofdaaGreatDoorY33
import Derived.Test.YtdalcgfnlbofdaaGreatDoorY34
import Derived.Test.YtdalcgfnlbofdaaGreatDoorY35
import Derived.Test.YtdalcgfnlbofdaaGreatDoorY36
import Derived.Test.YtdalcgfnlbofdaaGreatDoorY37
import Derived.Test.YtdalcgfnlbofdaaGreatDoorY38
import Derived.Test.YtdalcgfnlbofdaaGreatDoorY39
import Derived.Test.YtdalcgfnlbofdaaGreatDoorRows
import Derived.WalkKit
import Derived.ProofKit
import Derived.OpenShut
import Derived.ShutString
import Derived.ChangeOld
import Derived.Below
import Derived.LaidMore
import Derived.Stop.Joined
import Derived.SevenTiedAt
import Derived.Test.YtdalcgfnlbofdaaGreatDoorCards
import Derived.Test.YtdalcgfnlbofdaaGreatDoorTie
namespace Go.Proofs.YtdalcgfnlbofdaaGreatDoor.peerSays
open Go.ChangeShapes Go.WideShapes Go.ChangeAt Go.RowKit
open Go.ChangeMaps (open_string shut_string)
set_option linter.unusedVariables false

theorem own : ownKnob Tryz.prog.godebug = none := by kernel_rfl
theorem laidOut : laidOutB Tryz.prog = true := by kernel_rfl
theorem door_met (os : Os) (args : Array Value) : laidMetH Tryz.prog zhB ((World.doorLaid Tryz.prog 19 os).forCall (fun _ _ => 0) ⟨#[], args, []⟩).memory :=
  laidMetH_of_parts3 (fuel := 8) (laidMet_of_run' 8 (by kernel_rfl) (by kernel_rfl)) (by kernel_rfl) (by kernel_rfl)

theorem walk (n0 : Int) (a1 : Option Addr) (l1 c1 : Nat) (n2 : Int) (w : World) (hG : Lf.GV [] Lf.rz0 w) (x0 : ∃ xs, Lf.Sh Tryz.prog 6 3 xs ∧ ((∃ x, xs = [x] ∧ Lf.VR [] Lf.rz0 w x (.int .i64 n0)) ∨ Lf.VR [] Lf.rz0 w (.ag xs) (.int .i64 n0))) (x1 : ∃ xs, Lf.Sh Tryz.prog 6 35 xs ∧ ((∃ x, xs = [x] ∧ Lf.VR [] Lf.rz0 w x (.slice a1 l1 c1)) ∨ Lf.VR [] Lf.rz0 w (.ag xs) (.slice a1 l1 c1))) (x2 : ∃ xs, Lf.Sh Tryz.prog 6 3 xs ∧ ((∃ x, xs = [x] ∧ Lf.VR [] Lf.rz0 w x (.int .i64 n2)) ∨ Lf.VR [] Lf.rz0 w (.ag xs) (.int .i64 n2))) :
    Calls Tryz.prog 4 #[.int .i64 n0, .slice a1 l1 c1, .int .i64 n2] w fun e w' => e = .returned (.bool true) ∧ Below w.heap.size w w' := by
  obtain ⟨s, hs, hsb, hss, hv⟩ := zoh x1
  have hn := zoi x2
  exact Lf.zfO (ziM _ false s _ hn hs hsb hss) ⟨rfl, hv, rfl, trivial⟩ hG

set_option maxRecDepth 100000 in
theorem lifted (os : Os) (started : os.Started) (H : Type) (enc : TypeId × Value → H) :
    ReturnsInHanded {} Tryz.checked os 4 .any (fun w args => (Rows.peerSaysSpec.pre enc Tryz.prog Tryz.f4 [] false w args ∧ laidMetH Tryz.prog zhB w) ∧ sizedMet enc Tryz.prog Tryz.f4 (OpenSpec.ofChange Rows.peerSaysSpec) false w args)
      (Rows.peerSaysSpec.post enc Tryz.prog Tryz.f4 false true false false) := by
  refine returnsInHanded_of_change_and (C := Tryz.checked) (X := fun w _ => laidMetH Tryz.prog zhB w) (fun _ _ _ hh h => h.of_heap hh) own started (by kernel_rfl) Tryz.func4
    (ChangeSpec.witness_shaped (enc := enc) (C := Tryz.checked) (os := os) (X := fun w _ => laidMetH Tryz.prog zhB w) false (World.doorLaid Tryz.prog 19 os) #[Value.int IntKind.i64 0, Value.slice none 0 0, Value.int IntKind.i64 0] 8 rfl (World.shaped_of_RefB (by kernel_rfl) (by kernel_rfl)) (by kernel_rfl) (by kernel_rfl) (by kernel_rfl) (door_met os _)) ?_
  intro W base args ds gs before hval0 hW _ _ hL _
  have hval : ∀ (j : Nat) t v, Tryz.f4.params[j]? = some t → args[j]? = some v → Value.okWide Tryz.prog W .any base t v := hval0
  have hW' := hW
  obtain ⟨p, q, hA0, hV, rfl, hfz, hnd⟩ := hW
  have hA : DataW.TrodAll enc Tryz.prog W 0 (fun _ => true) true Tryz.f4.params.toList args.toList ds p := hA0
  rw [Tryz.params4] at hA hval
  obtain ⟨v0, vs0, d0, ds0, p0, q0, hargs, rfl, rfl, h0, r0⟩ := trodAll_cons hA
  obtain ⟨v1, vs1, d1, ds1, p1, q1, rfl, rfl, rfl, h1, r1⟩ := trodAll_cons r0
  obtain ⟨v2, vs2, d2, ds2, p2, q2, rfl, rfl, rfl, h2, r2⟩ := trodAll_cons r1
  obtain ⟨rfl, rfl, rfl⟩ := trodAll_nil r2
  obtain rfl : args = #[v0, v1, v2] := by cases args; simp_all
  obtain ⟨rfl, rfl⟩ := trodVars_none hV
  obtain ⟨n0, rfl⟩ := okWide_int Tryz.underlying3 (hval 0 3 v0 rfl rfl)
  have k0 := h0
  have lt0 : ∀ x ∈ p0, x.block < W.heap.size := by obtain ⟨m, hm⟩ := k0; exact DataW.trod_lt m _ _ _ hm
  have x0 := Lf.zb7 6 (by kernel_rfl) h0
  obtain ⟨a1, l1, c1, rfl⟩ := okWide_slice Tryz.underlying35 (hval 1 35 v1 rfl rfl)
  have k1 := h1
  have lt1 : ∀ x ∈ p1, x.block < W.heap.size := by obtain ⟨m, hm⟩ := k1; exact DataW.trod_lt m _ _ _ hm
  have x1 := Lf.zb7 6 (by kernel_rfl) h1
  obtain ⟨n2, rfl⟩ := okWide_int Tryz.underlying3 (hval 2 3 v2 rfl rfl)
  have k2 := h2
  have lt2 : ∀ x ∈ p2, x.block < W.heap.size := by obtain ⟨m, hm⟩ := k2; exact DataW.trod_lt m _ _ _ hm
  have x2 := Lf.zb7 6 (by kernel_rfl) h2
  clear hA0 hval0
  have hG := zf1 hL
  refine (walk n0 a1 l1 c1 n2 W hG x0 x1 x2).mono fun e W' ⟨he, bel⟩ => ?_
  subst he
  exact ⟨_, rfl, _, _, _, [], _, [], hW', trodAll_mk1 (shut_bool Tryz.underlying4 _), (trodAll_cons_mk (Below.trod laidOut (by kernel_rfl) (of_decide_eq_true (by kernel_rfl)) k0 bel lt0) (trodAll_cons_mk (Below.trod laidOut (by kernel_rfl) (of_decide_eq_true (by kernel_rfl)) k1 bel lt1) (trodAll_cons_mk (Below.trod laidOut (by kernel_rfl) (of_decide_eq_true (by kernel_rfl)) k2 bel lt2) trodAll_mk0))), rfl, bel.frame _, fun h => by cases h⟩

set_option maxRecDepth 100000 in
set_option maxHeartbeats 8000000 in
theorem closed : joinedFacts Tryz.pinned.checked.prog 4 Tryz.f4 Rows.peerSaysSpec Rows.peerSaysRow = true := by
  unfold joinedFacts
  repeat' (with_reducible refine Bool.and_eq_true_iff.2 ⟨?_, ?_⟩)
  all_goals (as_aux_lemma => kernel_rfl)

set_option maxHeartbeats 8000000 in
theorem over : Rows.peerSaysRow.holds Tryz.pinned (OpenSpec.ofChange Rows.peerSaysSpec) :=
  OpenClaim.holds_of_wide 4 Tryz.f4 rfl rfl rfl rfl rfl rfl rfl ⟨rfl, rfl, rfl, rfl, rfl⟩ rfl rfl rfl rfl rfl (by kernel_rfl) Tryz.func4 closed
    (of_decide_eq_true (by kernel_rfl)) (by unfold Func.isWrapper; first | (rw [if_pos (by decide +kernel)]; kernel_rfl) | (rw [if_neg (by decide +kernel)]; exact ⟨rfl, rfl⟩))
    (fun os started H enc _ => lifted os started H enc)

theorem proved : Rows.PeerSaysCardSaid :=
  Claim7.holds_tied_plain_at .later [] [.data] true (true, "d5839e807e13b3e7f28eee90ed0811396e7e1859bea39402a8d4c91d4f1deaad") false
    over (fun _ h => by cases h) (by kernel_rfl) (fun _ h => by cases h) peerSays_row_tie rfl ⟨rfl, rfl⟩ (by kernel_rfl) rfl
    (fun f fn hf hfn => by
      obtain rfl : f = 4 := Option.some.inj ((show Tryz.prog.funcNamed "stickler/sticklerlaw48.PeerSays" = some 4 by kernel_rfl).symm.trans hf) |>.symm
      obtain rfl : fn = Tryz.f4 := (Option.some.inj (Tryz.func4.symm.trans hfn)).symm
      exact ⟨by kernel_rfl, fun j t ht => by
        rw [Tryz.params4] at ht
        have hm : t ∈ [3, 35, 3] := by simpa using Array.mem_of_getElem? ht
        have hall : ([3, 35, 3].all fun u => !Tryz.prog.wantsStandIn u) = true := by kernel_rfl
        exact (show Tryz.prog.wantsStandIn t = false by simpa using List.all_eq_true.1 hall t hm)⟩)
    (by kernel_rfl)
#print axioms proved
end Go.Proofs.YtdalcgfnlbofdaaGreatDoor.peerSays
