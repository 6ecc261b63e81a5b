/- The law EncoderBack returns true for every input: proved by contracts of the functions that it calls (layer Lf), then lifted to the given statement. No condition. -/
import Derived.Test.YtohbfcmmpaikhaaDoorZ01
import Derived.Test.YtohbfcmmpaikhaaDoorZ02
import Derived.Test.YtohbfcmmpaikhaaDoorZ03
import Derived.Test.YtohbfcmmpaikhaaDoorZ04
import Derived.Test.YtohbfcmmpaikhaaDoorZ05
import Derived.Test.YtohbfcmmpaikhaaDoorZ06
import Derived.Test.YtohbfcmmpaikhaaDoorZ07
import Derived.Test.YtohbfcmmpaikhaaDoorZ08
import Derived.Test.YtohbfcmmpaikhaaDoorZ09
import Derived.Test.YtohbfcmmpaikhaaDoorZ10
import Derived.Test.YtohbfcmmpaikhaaDoorZ11
import Derived.Test.YtohbfcmmpaikhaaDoorZ12
import Derived.Test.YtohbfcmmpaikhaaDoorZ13
import Derived.Test.YtohbfcmmpaikhaaDoorZ14
import Derived.Test.YtohbfcmmpaikhaaDoorZ15
import Derived.Test.YtohbfcmmpaikhaaDoorZ16
import Derived.Test.YtohbfcmmpaikhaaDoorZ17
import Derived.Test.YtohbfcmmpaikhaaDoorZ18
import Derived.Test.YtohbfcmmpaikhaaDoorZ19
import Derived.Test.YtohbfcmmpaikhaaDoorZ20
import Derived.Test.YtohbfcmmpaikhaaDoorZ21
import Derived.Test.YtohbfcmmpaikhaaDoorZ22
import Derived.Test.YtohbfcmmpaikhaaDoorZ23
import Derived.Test.YtohbfcmmpaikhaaDoorZ24
import Derived.Test.YtohbfcmmpaikhaaDoorZ25
import Derived.Test.YtohbfcmmpaikhaaDoorZ26
import Derived.Test.YtohbfcmmpaikhaaDoorZ27
import Derived.Test.YtohbfcmmpaikhaaDoorRows
import Derived.WalkKit
import Derived.ProofKit
import Derived.OpenShut
import Derived.ShutString
import Derived.ChangeOld
import Derived.Below
import Derived.LaidMore
import Derived.Stop.Joined
import Derived.SevenTiedAt
import Derived.Test.YtohbfcmmpaikhaaDoorCards
import Derived.Test.YtohbfcmmpaikhaaDoorTie
namespace Go.Proofs.YtohbfcmmpaikhaaDoor.encoderBack
open Go.ChangeShapes Go.WideShapes Go.ChangeAt Go.RowKit
open Go.ChangeMaps (open_string shut_string)
set_option linter.unusedVariables false

theorem own : ownKnob Tryd.prog.godebug = none := by kernel_rfl
theorem laidOut : laidOutB Tryd.prog = true := by kernel_rfl
theorem door_met (os : Os) (args : Array Value) : laidMetH Tryd.prog laidD ((World.doorLaid Tryd.prog 19 os).forCall (fun _ _ => 0) ⟨#[], args, []⟩).memory :=
  laidMetH_of_parts3 (fuel := 8) (laidMet_of_run' 8 (by kernel_rfl) (by kernel_rfl)) (by kernel_rfl) (by kernel_rfl)

theorem walk (n0 : Int) (a1 : Option Addr) (l1 c1 : Nat) (w : World) (hG : Lf.GV [] Lf.rz0 w) (x0 : ∃ xs, Lf.Sh Tryd.prog 6 3 xs ∧ ((∃ x, xs = [x] ∧ Lf.VR [] Lf.rz0 w x (.int .i64 n0)) ∨ Lf.VR [] Lf.rz0 w (.ag xs) (.int .i64 n0))) (x1 : ∃ xs, Lf.Sh Tryd.prog 6 72 xs ∧ ((∃ x, xs = [x] ∧ Lf.VR [] Lf.rz0 w x (.slice a1 l1 c1)) ∨ Lf.VR [] Lf.rz0 w (.ag xs) (.slice a1 l1 c1))) :
    Calls Tryd.prog 11 #[.int .i64 n0, .slice a1 l1 c1] w fun e w' => e = .returned (.bool true) ∧ Below w.heap.size w w' := by
  obtain ⟨l, hl, hb, hv1⟩ := in_wblocks x1
  exact Lf.acall_walk (law_encback _ false l hl hb) ⟨rfl, hv1, trivial⟩ hG

set_option maxRecDepth 100000 in
theorem lifted (os : Os) (started : os.Started) (H : Type) (enc : TypeId × Value → H) :
    ReturnsInHanded {} Tryd.checked os 11 .any (fun w args => (Rows.encoderBackSpec.pre enc Tryd.prog Tryd.f11 [] false w args ∧ laidMetH Tryd.prog laidD w) ∧ sizedMet enc Tryd.prog Tryd.f11 (OpenSpec.ofChange Rows.encoderBackSpec) false w args)
      (Rows.encoderBackSpec.post enc Tryd.prog Tryd.f11 false true false false) := by
  refine returnsInHanded_of_change_and (C := Tryd.checked) (X := fun w _ => laidMetH Tryd.prog laidD w) (fun _ _ _ hh h => h.of_heap hh) own started (by kernel_rfl) Tryd.func11
    (ChangeSpec.witness_shaped (enc := enc) (C := Tryd.checked) (os := os) (X := fun w _ => laidMetH Tryd.prog laidD w) false (World.doorLaid Tryd.prog 19 os) #[Value.int IntKind.i64 0, Value.slice none 0 0] 8 rfl (World.shaped_of_RefB (by kernel_rfl) (by kernel_rfl)) (by kernel_rfl) (by kernel_rfl) (by kernel_rfl) (door_met os _)) ?_
  intro W base args ds gs before hval0 hW _ _ hL _
  have hval : ∀ (j : Nat) t v, Tryd.f11.params[j]? = some t → args[j]? = some v → Value.okWide Tryd.prog W .any base t v := hval0
  have hW' := hW
  obtain ⟨p, q, hA0, hV, rfl, hfz, hnd⟩ := hW
  have hA : DataW.TrodAll enc Tryd.prog W 0 (fun _ => true) true Tryd.f11.params.toList args.toList ds p := hA0
  rw [Tryd.params11] at hA hval
  obtain ⟨v0, vs0, d0, ds0, p0, q0, hargs, rfl, rfl, h0, r0⟩ := trodAll_cons hA
  obtain ⟨v1, vs1, d1, ds1, p1, q1, rfl, rfl, rfl, h1, r1⟩ := trodAll_cons r0
  obtain ⟨rfl, rfl, rfl⟩ := trodAll_nil r1
  obtain rfl : args = #[v0, v1] := by cases args; simp_all
  obtain ⟨rfl, rfl⟩ := trodVars_none hV
  obtain ⟨n0, rfl⟩ := okWide_int Tryd.underlying3 (hval 0 3 v0 rfl rfl)
  have k0 := h0
  have lt0 : ∀ x ∈ p0, x.block < W.heap.size := by obtain ⟨m, hm⟩ := k0; exact DataW.trod_lt m _ _ _ hm
  have x0 := Lf.trod_arg 6 (by kernel_rfl) h0
  obtain ⟨a1, l1, c1, rfl⟩ := okWide_slice Tryd.underlying72 (hval 1 72 v1 rfl rfl)
  have k1 := h1
  have lt1 : ∀ x ∈ p1, x.block < W.heap.size := by obtain ⟨m, hm⟩ := k1; exact DataW.trod_lt m _ _ _ hm
  have x1 := Lf.trod_arg 6 (by kernel_rfl) h1
  clear hA0 hval0
  have hG := gv_of_laid hL
  refine (walk n0 a1 l1 c1 W hG x0 x1).mono fun e W' ⟨he, bel⟩ => ?_
  subst he
  exact ⟨_, rfl, _, _, _, [], _, [], hW', trodAll_mk1 (shut_bool Tryd.underlying4 _), (trodAll_cons_mk (Below.trod laidOut (by kernel_rfl) (of_decide_eq_true (by kernel_rfl)) k0 bel lt0) (trodAll_cons_mk (Below.trod laidOut (by kernel_rfl) (of_decide_eq_true (by kernel_rfl)) k1 bel lt1) trodAll_mk0)), rfl, bel.frame _, fun h => by cases h⟩

set_option maxRecDepth 100000 in
set_option maxHeartbeats 8000000 in
theorem closed : joinedFacts Tryd.pinned.checked.prog 11 Tryd.f11 Rows.encoderBackSpec Rows.encoderBackRow = true := by
  unfold joinedFacts
  repeat' (with_reducible refine Bool.and_eq_true_iff.2 ⟨?_, ?_⟩)
  all_goals (as_aux_lemma => kernel_rfl)

set_option maxHeartbeats 8000000 in
theorem over : Rows.encoderBackRow.holds Tryd.pinned (OpenSpec.ofChange Rows.encoderBackSpec) :=
  OpenClaim.holds_of_wide 11 Tryd.f11 rfl rfl rfl rfl rfl rfl rfl ⟨rfl, rfl, rfl, rfl, rfl⟩ rfl rfl rfl rfl rfl (by kernel_rfl) Tryd.func11 closed
    (of_decide_eq_true (by kernel_rfl)) (by unfold Func.isWrapper; first | (rw [if_pos (by decide +kernel)]; kernel_rfl) | (rw [if_neg (by decide +kernel)]; exact ⟨rfl, rfl⟩))
    (fun os started H enc _ => lifted os started H enc)

theorem proved : Rows.EncoderBackCardSaid :=
  Claim7.holds_tied_plain_at .later [] [.data] true (true, "2c3492c323027f98196b3e7a22b55536c856cee1f6c354782aab8f9fb9f16f6e") false
    over (fun _ h => by cases h) (by kernel_rfl) (fun _ h => by cases h) encoderBack_row_tie rfl ⟨rfl, rfl⟩ (by kernel_rfl) rfl
    (fun f fn hf hfn => by
      obtain rfl : f = 11 := Option.some.inj ((show Tryd.prog.funcNamed "stickler/sticklerlaw24.EncoderBack" = some 11 by kernel_rfl).symm.trans hf) |>.symm
      obtain rfl : fn = Tryd.f11 := (Option.some.inj (Tryd.func11.symm.trans hfn)).symm
      exact ⟨by kernel_rfl, fun j t ht => by
        rw [Tryd.params11] at ht
        have hm : t ∈ [3, 72] := by simpa using Array.mem_of_getElem? ht
        have hall : ([3, 72].all fun u => !Tryd.prog.wantsStandIn u) = true := by kernel_rfl
        exact (show Tryd.prog.wantsStandIn t = false by simpa using List.all_eq_true.1 hall t hm)⟩)
    (by kernel_rfl)
#print axioms proved
end Go.Proofs.YtohbfcmmpaikhaaDoor.encoderBack
