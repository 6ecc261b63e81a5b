import Derived.Test.YtohbfcmmpaikhaaDoorZ26
import Derived.Test.YtohbfcmmpaikhaaDoorZ21
import Derived.Test.YtohbfcmmpaikhaaDoorLc
import Derived.Test.YtohbfcmmpaikhaaDoorLb
import Derived.Test.YtohbfcmmpaikhaaDoorTy
import Derived.Test.YtohbfcmmpaikhaaDoorRows
import Derived.ProofKit
import Derived.LaidMore
import Derived.OpenShut
import Derived.Stop.Joined
import Derived.Test.YtohbfcmmpaikhaaDoorZ25
set_option linter.unusedVariables false
set_option linter.unusedSimpArgs false
namespace Go.Proofs.YtohbfcmmpaikhaaDoor
open Go Go.Lf Go.Proofs
attribute [local irreducible] Lf.rg Lf.ro Lf.PWp Lf.SOp Lf.ACall Lf.Scoped Lf.dg Lf.dw
set_option maxRecDepth 20000
set_option maxHeartbeats 4000000
structure LB where
 (i s sd : Nat) (xs : List Fl) (m : Int)
attribute [local irreducible] wt sumW encM decM xsE TOk NoK xs0 ss0
set_option maxRecDepth 20000 in
theorem law_encback (mx : Int) (f : Bool) (l : List WBk) (h : l.length ≤ 9223372036854775807) (hb : ∀ b ∈ l, WBSz b) : AEq Tryd.prog 11 [i64 mx, .sl f false (l.map ekA)] [] (bl true) [] := by
 cases hLg : lgWk l 300 with
 | true =>
  refine acall_body Tryd.func11 rfl Tryd.ntmps11 (by simp) (fun hsc => ?_); simp only [Lf.enter, Nat.reduceAdd]; clear hsc
  have hU := @hLg
  repeat' (first | (guard_target =~ PWp _ _ _ _ _ _ _; first | (refine pwp_seq_k (fun K hK => ?_)) | (refine pwp_rg_then ?_) | (refine pwp_ret ?_) | ((refine pwp_cond_d (fun hcd => ?_) (fun hcd => ?_)) <;> (try simp only [hcP] at hcd) <;> (try exact cdT))) | (guard_target =~ rg _ _ _ _ _ _ _; first | (guard_target =~ rg _ _ _ [] _ _ _; first | (refine rg_end ?_)) | (refine rg_a rfl (h := ?_)) | (refine rg_v rfl (h := ?_)) | (refine rg_s rfl ?_)) | (guard_target =~ SOp _ _ _ _ _ _; first | (guard_target =~ SOp _ _ ⟨_, .call ⟨.value (.func 35), _, _⟩, _, _, _, none⟩ _ _ _; first | (refine n_call (f := 35) rfl Tryd.call35 (h := AEq.pure' agT alive24 (hq := ?_)))) | (guard_target =~ SOp _ _ ⟨_, .call ⟨.value (.func 34), _, _⟩, _, _, _, none⟩ _ _ _; first | (refine n_call (f := 34) rfl Tryd.call34 (h := AEq.pure' agT (lgWk_is _ _ _ (by assumption) (by assumption)) (hq := ?_)))) | (guard_target =~ SOp _ _ ⟨_, .call ⟨.value (.func 35), _, _⟩, _, _, _, some _⟩ _ _ _; first | (refine n_call (f := 35) rfl Tryd.call35 (h := AEq.pure' agT alive24 (hq := ?_))))) | (guard_target =~ (_ ∨ _) ∧ _; first | ((refine end_d [] (by rw [Tryd.results11, Lf.res1]) (ale_1 ?_) ?_) <;> (try (first | exact aleT | exact stq (by with_reducible rfl) | exact stq (by rfl) | exact stq (by simp (disch := omega) only [go_sem, seval, ↓reduceIte, hU]))))) | (refine hK _ _ ?_; clear hK K))
 | false =>
 obtain ⟨hl60, hbd⟩ := lgWk_no hLg
 by_cases hm : mx < 0 ∨ 2147483647 < mx
 ·have hmay : decide (0 ≤ mx ∧ mx ≤ 2147483647) = false := by rw [decide_eq_false_iff_not]; omega
  refine acall_body Tryd.func11 rfl Tryd.ntmps11 (by simp) (fun hsc => ?_); simp only [Lf.enter, Nat.reduceAdd]; clear hsc
  have hU := And.intro @hLg (@hmay)
  repeat' (first | (guard_target =~ PWp _ _ _ _ _ _ _; first | (refine pwp_seq_k (fun K hK => ?_)) | (refine pwp_rg_then ?_) | (refine pwp_ret ?_) | (refine pwp_skip ?_) | ((refine pwp_cond_d (fun hcd => ?_) (fun hcd => ?_)) <;> (try simp only [hcP] at hcd) <;> (try exact cdT))) | (guard_target =~ rg _ _ _ _ _ _ _; first | (guard_target =~ rg _ _ _ (⟨_, .move _, _, _, _, some _⟩ :: _) _ _ _; first | (refine rg_gf rfl (hn := rfl) (h := ?_)) | (refine rg_gt rfl (h := ?_))) | (guard_target =~ rg _ _ _ (⟨_, .fieldAddr _ _ _, _, _, _, some _⟩ :: _) _ _ _; first | (refine rg_gf rfl (hn := rfl) (h := ?_)) | (refine rg_gt rfl (h := ?_))) | (guard_target =~ rg _ _ _ (⟨_, .load _ _, _, _, _, some _⟩ :: _) _ _ _; first | (refine rg_gf rfl (hn := rfl) (h := ?_)) | (refine rg_gt rfl (h := ?_))) | (guard_target =~ rg _ _ _ (⟨_, .unOp _ _ _, _, _, _, some _⟩ :: _) _ _ _; first | (refine rg_gf rfl (hn := rfl) (h := ?_)) | (refine rg_gt rfl (h := ?_))) | (guard_target =~ rg _ _ _ (⟨_, .binOp _ _ _ _ _, _, _, _, some _⟩ :: _) _ _ _; first | (refine rg_gf rfl (hn := rfl) (h := ?_)) | (refine rg_gt rfl (h := ?_))) | (guard_target =~ rg _ _ _ (⟨_, .call ⟨.value (.func 27), _, _⟩, _, _, _, some _⟩ :: _) _ _ _; first | (refine rg_gf rfl (hn := rfl) (h := ?_)) | (refine rg_gt rfl (h := ?_))) | (guard_target =~ rg _ _ _ (⟨_, .call ⟨.value (.func 32), _, _⟩, _, _, _, some _⟩ :: _) _ _ _; first | (refine rg_gf rfl (hn := rfl) (h := ?_)) | (refine rg_gt rfl (h := ?_))) | (guard_target =~ rg _ _ _ (⟨_, .call ⟨.value (.func 28), _, _⟩, _, _, _, some _⟩ :: _) _ _ _; first | (refine rg_gf rfl (hn := rfl) (h := ?_)) | (refine rg_gt rfl (h := ?_))) | (guard_target =~ rg _ _ _ (⟨_, .call ⟨.value (.func 35), _, _⟩, _, _, _, some _⟩ :: _) _ _ _; first | (refine rg_gf rfl (hn := rfl) (h := ?_)) | (refine rg_gt rfl (h := ?_))) | (guard_target =~ rg _ _ _ (⟨_, .call ⟨.value (.func 40), _, _⟩, _, _, _, some _⟩ :: _) _ _ _; first | (refine rg_gf rfl (hn := rfl) (h := ?_)) | (refine rg_gt rfl (h := ?_))) | (guard_target =~ rg _ _ _ (⟨_, .call ⟨.value (.func 41), _, _⟩, _, _, _, some _⟩ :: _) _ _ _; first | (refine rg_gf rfl (hn := rfl) (h := ?_)) | (refine rg_gt rfl (h := ?_))) | (guard_target =~ rg _ _ _ (⟨_, .call ⟨.value (.func 29), _, _⟩, _, _, _, some _⟩ :: _) _ _ _; first | (refine rg_gf rfl (hn := rfl) (h := ?_)) | (refine rg_gt rfl (h := ?_))) | (guard_target =~ rg _ _ _ [] _ _ _; first | (refine rg_end ?_)) | (refine rg_a rfl (h := ?_)) | (refine rg_x rfl (hy := rfl) (h := ?_)) | (refine rg_v rfl (h := ?_)) | (refine rg_s rfl ?_)) | (guard_target =~ SOp _ _ _ _ _ _; first | (guard_target =~ SOp _ _ ⟨_, .call ⟨.value (.func 35), _, _⟩, _, _, _, none⟩ _ _ _; first | (refine n_call (f := 35) rfl Tryd.call35 (h := AEq.pure' agT alive24 (hq := ?_)))) | (guard_target =~ SOp _ _ ⟨_, .call ⟨.value (.func 23), _, _⟩, _, _, _, none⟩ _ _ _; first | (refine n_call (f := 23) rfl Tryd.call23 (h := AEq.pure' agT (dnew_no _ (by assumption)) (hq := ?_)))) | (guard_target =~ SOp _ _ ⟨_, .call ⟨.value (.func 34), _, _⟩, _, _, _, none⟩ _ _ _; first | (refine n_call (f := 34) rfl Tryd.call34 (h := AEq.pure' agT (lgWk_is _ _ _ (by assumption) (by assumption)) (hq := ?_)))) | (guard_target =~ SOp _ _ ⟨_, .call ⟨.value (.func 35), _, _⟩, _, _, _, some _⟩ _ _ _; first | (refine n_call (f := 35) rfl Tryd.call35 (h := AEq.pure' agT alive24 (hq := ?_)))) | (guard_target =~ SOp _ _ ⟨_, .call ⟨.value (.func 36), _, _⟩, _, _, _, none⟩ _ _ _; first | (refine n_call (f := 36) rfl Tryd.call36 (h := AEq.pure' agT (enew_no _ (by assumption)) (hq := ?_))))) | (guard_target =~ (_ ∨ _) ∧ _; first | ((refine end_d [] (by rw [Tryd.results11, Lf.res1]) (ale_1 ?_) ?_) <;> (try (first | exact aleT | exact stq (by with_reducible rfl) | exact stq (by rfl) | exact stq (by simp (disch := omega) only [go_sem, seval, ↓reduceIte, hU]))))) | (refine hK _ _ ?_; clear hK K))
 have hm0 : 0 ≤ mx := by omega
 have hm1 : mx ≤ 2147483647 := by omega
 have hmay : decide (0 ≤ mx ∧ mx ≤ 2147483647) = true := by rw [decide_eq_true_eq]; omega
 refine acall_body Tryd.func11 rfl Tryd.ntmps11 (by simp) (fun hsc => ?_); simp only [Lf.enter, Nat.reduceAdd]; clear hsc
 have hU := And.intro @hLg (@hmay)
 repeat' (first | (guard_target =~ PWp _ _ _ _ _ _ _; first | (refine pwp_seq_k (fun K hK => ?_)) | (refine pwp_block ?_) | (refine pwp_rg_then ?_) | (refine pwp_skip ?_) | ((refine pwp_cond_d (fun hcd => ?_) (fun hcd => ?_)) <;> (try simp only [hcP] at hcd) <;> (try exact cdT))) | (guard_target =~ rg _ _ _ _ _ _ _; first | (guard_target =~ rg _ _ _ (⟨_, .move _, _, _, _, some _⟩ :: _) _ _ _; first | (refine rg_gtp rfl (h := ?_))) | (guard_target =~ rg _ _ _ (⟨_, .fieldAddr _ _ _, _, _, _, some _⟩ :: _) _ _ _; first | (refine rg_gtp rfl (h := ?_))) | (guard_target =~ rg _ _ _ (⟨_, .load _ _, _, _, _, some _⟩ :: _) _ _ _; first | (refine rg_gtp rfl (h := ?_))) | (guard_target =~ rg _ _ _ (⟨_, .unOp _ _ _, _, _, _, some _⟩ :: _) _ _ _; first | (refine rg_gtp rfl (h := ?_))) | (guard_target =~ rg _ _ _ (⟨_, .binOp _ _ _ _ _, _, _, _, some _⟩ :: _) _ _ _; first | (refine rg_gtp rfl (h := ?_))) | (guard_target =~ rg _ _ _ (⟨_, .call ⟨.value (.func 27), _, _⟩, _, _, _, some _⟩ :: _) _ _ _; first | (refine rg_gtp rfl (h := ?_))) | (guard_target =~ rg _ _ _ (⟨_, .call ⟨.value (.func 32), _, _⟩, _, _, _, some _⟩ :: _) _ _ _; first | (refine rg_gtp rfl (h := ?_))) | (guard_target =~ rg _ _ _ (⟨_, .call ⟨.value (.func 28), _, _⟩, _, _, _, some _⟩ :: _) _ _ _; first | (refine rg_gtp rfl (h := ?_))) | (guard_target =~ rg _ _ _ (⟨_, .call ⟨.value (.func 35), _, _⟩, _, _, _, some _⟩ :: _) _ _ _; first | (refine rg_gtp rfl (h := ?_))) | (guard_target =~ rg _ _ _ (⟨_, .call ⟨.value (.func 40), _, _⟩, _, _, _, some _⟩ :: _) _ _ _; first | (refine rg_gtp rfl (h := ?_))) | (guard_target =~ rg _ _ _ (⟨_, .call ⟨.value (.func 41), _, _⟩, _, _, _, some _⟩ :: _) _ _ _; first | (refine rg_gtp rfl (h := ?_))) | (guard_target =~ rg _ _ _ (⟨_, .call ⟨.value (.func 29), _, _⟩, _, _, _, some _⟩ :: _) _ _ _; first | (refine rg_gtp rfl (h := ?_))) | (guard_target =~ rg _ _ _ [] _ _ _; first | (refine rg_end ?_)) | (refine rg_a rfl (h := ?_)) | (refine rg_x rfl (hy := rfl) (h := ?_)) | (refine rg_v rfl (h := ?_)) | (refine rg_s rfl ?_)) | (guard_target =~ SOp _ _ _ _ _ _; first | (guard_target =~ SOp _ _ ⟨_, .call ⟨.value (.func 23), _, _⟩, _, _, _, none⟩ _ _ _; first | (refine n_call (f := 23) rfl Tryd.call23 (h := AEq.sub' [] (hc := dnew_ok _ (by assumption) (by assumption)) (hq := ?_)))) | (guard_target =~ SOp _ _ ⟨_, .call ⟨.value (.func 34), _, _⟩, _, _, _, none⟩ _ _ _; first | (refine n_call (f := 34) rfl Tryd.call34 (h := AEq.pure' agT (lgWk_is _ _ _ (by assumption) (by assumption)) (hq := ?_)))) | (guard_target =~ SOp _ _ ⟨_, .call ⟨.value (.func 36), _, _⟩, _, _, _, none⟩ _ _ _; first | (refine n_call (f := 36) rfl Tryd.call36 (h := AEq.sub' [] (hc := enew_ok _ (by assumption) (by assumption)) (hq := ?_))))) | (refine hK _ _ ?_; clear hK K))
 refine pwp_loop_k [4, 10, 11, 12, 13, 14, 42, 43, 44, 45, 46, 47, 48, 49, 50, 51, 52, 53, 54, 55, 56, 57, 58, 59, 60, 61, 62, 63, 64, 65, 66, 67, 68, 69, 70, 71, 72, 73, 74, 75, 76, 77, 78, 79, 80, 81, 82, 83, 84, 85, 86, 87, 88, 89, 90, 91, 92, 93, 94, 95, 96, 97, 98, 99] (fun q : LB => [(42, i64 q.i)]) (fun q => [.box [.row 1 q.s, i64 (sumW q.xs), i64 q.m], .row q.s 67 3 (q.xs.map flA), .box [.ptr 0 0], .box [.row 4 q.sd, i64 (sumW q.xs), i64 q.m], .row q.sd 67 3 (q.xs.map flA), .box [.ptr 3 0]]) (fun q => q.i ≤ l.length ∧ q.xs.length ≤ 12 * q.i ∧ TOk ⟨q.xs, q.s, q.m⟩ ∧ NoK q.xs) (fun q => l.length - q.i) ⟨0, 0, 0, xsE, mx⟩ ⟨Nat.zero_le _, by rw [xsE_len]; exact Nat.zero_le _, tok_e hm0 hm1, noK_E⟩ ?_ (by first | rfl | (dsimp only; done) | (dsimp only; rfl)) ?_
 ·have hU := True.intro
  (refine ⟨⟨_, sT, ?_⟩, trivial⟩ <;> (try (first | exact aleT)))
 ·rintro ⟨i, s, sd, xs, m⟩ ⟨hi, hxi, hok, hnk⟩
  dsimp only at hi hxi hok hnk ⊢
  simp only [mask, List.map_cons, List.map_nil, List.cons_append, List.nil_append]
  by_cases hlt : i < l.length
  ·obtain ⟨⟨bz, bf, bh⟩, hb1⟩ := ex_at hlt
   obtain ⟨hzl, hhl, hfl, hfb⟩ := hbd _ (List.mem_of_getElem? hb1)
   dsimp only at hzl hhl hfl hfb
   have hfs : ∀ f ∈ bf, f.n.size ≤ 1000 ∧ f.v.size ≤ 1000 := fun f hf => by have := hfb f hf; omega
   cases hz : anyS bz with
   | false =>
    obtain ⟨⟨o, ⟨xt, st, mt⟩⟩, hQ⟩ : ∃ Q, encM bz bf bh ⟨xs, s, m⟩ = Q := ⟨_, rfl⟩
    obtain ⟨hto, htl, hol⟩ := encM_ok hQ hok (by dsimp only; omega) hz (by omega) (by omega) hfs
    dsimp only at htl hol
    have hol5 := encM_sz hQ hok (by dsimp only; omega) hz (by omega) (by omega) hfb
    dsimp only at hol5
    obtain ⟨hnk2, sd2, hdc⟩ := enc_back hQ hnk (by omega) (by omega) hz hfs
    have hrl : xt.reverse.length = xt.length := List.length_reverse
    obtain ⟨hS, h0, h1, hbb⟩ := tok_parts hok
    have hU := True.intro
    repeat' (first | (guard_target =~ PWp _ _ _ _ _ _ _; first | (refine pwp_draw_ord (id := 10) [0, 1, 2, 3, 4, 5, 6, 7, 8, 9, 10, 11, 12, 13] [8] mixed (by kernel_rfl) (by kernel_rfl) ?_) | (refine pwp_seq_k (fun K hK => ?_)) | (refine pwp_block ?_) | (refine pwp_rg_then ?_) | (refine pwp_skip ?_) | ((refine pwp_cond_d (fun hcd => ?_) (fun hcd => ?_)) <;> (try simp only [hcP] at hcd) <;> (try exact cdT))) | (guard_target =~ rg _ _ _ _ _ _ _; first | (guard_target =~ rg _ _ _ (⟨_, .move _, _, _, _, some _⟩ :: _) _ _ _; first | (refine rg_gtp rfl (h := ?_)) | (refine rg_gt rfl (h := ?_))) | (guard_target =~ rg _ _ _ (⟨_, .fieldAddr _ _ _, _, _, _, some _⟩ :: _) _ _ _; first | (refine rg_gtp rfl (h := ?_)) | (refine rg_gt rfl (h := ?_))) | (guard_target =~ rg _ _ _ (⟨_, .load _ _, _, _, _, some _⟩ :: _) _ _ _; first | (refine rg_gtp rfl (h := ?_)) | (refine rg_gt rfl (h := ?_))) | (guard_target =~ rg _ _ _ (⟨_, .unOp _ _ _, _, _, _, some _⟩ :: _) _ _ _; first | (refine rg_gtp rfl (h := ?_)) | (refine rg_gt rfl (h := ?_))) | (guard_target =~ rg _ _ _ (⟨_, .binOp _ _ _ _ _, _, _, _, some _⟩ :: _) _ _ _; first | (refine rg_gtp rfl (h := ?_)) | (refine rg_gt rfl (h := ?_))) | (guard_target =~ rg _ _ _ (⟨_, .call ⟨.value (.func 27), _, _⟩, _, _, _, some _⟩ :: _) _ _ _; first | (refine rg_gtp rfl (h := ?_)) | (refine rg_gt rfl (h := ?_))) | (guard_target =~ rg _ _ _ (⟨_, .call ⟨.value (.func 32), _, _⟩, _, _, _, some _⟩ :: _) _ _ _; first | (refine rg_gtp rfl (h := ?_)) | (refine rg_gt rfl (h := ?_))) | (guard_target =~ rg _ _ _ (⟨_, .call ⟨.value (.func 28), _, _⟩, _, _, _, some _⟩ :: _) _ _ _; first | (refine rg_gtp rfl (h := ?_)) | (refine rg_gt rfl (h := ?_))) | (guard_target =~ rg _ _ _ (⟨_, .call ⟨.value (.func 35), _, _⟩, _, _, _, some _⟩ :: _) _ _ _; first | (refine rg_gtp rfl (h := ?_)) | (refine rg_gt rfl (h := ?_))) | (guard_target =~ rg _ _ _ (⟨_, .call ⟨.value (.func 40), _, _⟩, _, _, _, some _⟩ :: _) _ _ _; first | (refine rg_gtp rfl (h := ?_)) | (refine rg_gt rfl (h := ?_))) | (guard_target =~ rg _ _ _ (⟨_, .call ⟨.value (.func 41), _, _⟩, _, _, _, some _⟩ :: _) _ _ _; first | (refine rg_gtp rfl (h := ?_)) | (refine rg_gt rfl (h := ?_))) | (guard_target =~ rg _ _ _ (⟨_, .call ⟨.value (.func 29), _, _⟩, _, _, _, some _⟩ :: _) _ _ _; first | (refine rg_gtp rfl (h := ?_)) | (refine rg_gt rfl (h := ?_))) | (guard_target =~ rg _ _ _ [] _ _ _; first | (refine rg_end ?_)) | (refine rg_a rfl (h := ?_)) | (refine rg_x rfl (hy := rfl) (h := ?_)) | (refine rg_v rfl (h := ?_)) | (refine rg_s rfl ?_) | (refine rg_n rfl ?_)) | (guard_target =~ SOp _ _ _ _ _ _; first | (guard_target =~ SOp _ _ ⟨_, .alloc _, _, _, _, none⟩ _ _ _; first | (refine n_alloc rfl (by first | exact zv3 | exact zv4 | exact zv5 | exact zv9 | exact zv22 | exact zv28 | exact zv46 | exact zv50 | exact zv53 | exact zv55 | exact zv67 | exact zv69 | exact zv71 | exact zv72 | exact zv74 | exact zv77 | exact zv79 | exact zv81 | exact zv87 | exact zv112 | exact zv122 | exact zv124 | fail) (hK := ?_))) | (guard_target =~ SOp _ _ ⟨_, .call ⟨.value (.func 27), _, _⟩, _, _, _, some _⟩ _ _ _; first | (refine n_call (f := 27) rfl Tryd.call27 (h := AEq.pure' agT (r_same _ _ _ _ _ aoT) (hq := ?_)))) | (guard_target =~ SOp _ _ ⟨_, .store _ _ _, _, _, _, none⟩ _ _ _; first | (refine n_store rfl (hK := ?_))) | (guard_target =~ SOp _ _ ⟨_, .call ⟨.value (.func 32), _, _⟩, _, _, _, some _⟩ _ _ _; first | (refine n_call (f := 32) rfl Tryd.call32 (h := AEq.sub' [_, _, _] (hc := dall _ _ _ _ aoT) (hq := ?_)))) | (guard_target =~ SOp _ _ ⟨_, .call ⟨.value (.func 28), _, _⟩, _, _, _, some _⟩ _ _ _; first | (refine n_call (f := 28) rfl Tryd.call28 (h := AEq.pure' agT (isame _ _ _ _ _ aoT) (hq := ?_)))) | (guard_target =~ SOp _ _ ⟨_, .call ⟨.value (.func 25), _, _⟩, _, _, _, none⟩ _ _ _; first | (refine n_call (f := 25) rfl Tryd.call25 (h := AEq.sub' [_, _, _] (hc := dec_ok _ _ _ _ _ _ aoT aoT aoT aoT aoT aoT _ aoT) (hq := ?_)))) | (guard_target =~ SOp _ _ ⟨_, .call ⟨.value (.func 40), _, _⟩, _, _, _, some _⟩ _ _ _; first | (refine n_call (f := 40) rfl Tryd.call40 (h := AEq.sub' [_, _, _] (hc := emax _ _ _ _) (hq := ?_)))) | (guard_target =~ SOp _ _ ⟨_, .call ⟨.value (.func 41), _, _⟩, _, _, _, some _⟩ _ _ _; first | (refine n_call (f := 41) rfl Tryd.call41 (h := AEq.sub' [_, _, _] (hc := eall _ _ _ _ aoT) (hq := ?_)))) | (guard_target =~ SOp _ _ ⟨_, .indexAddr _ _ _, _, _, _, none⟩ _ _ _; first | (refine n_index rfl (hK := ?_))) | (guard_target =~ SOp _ _ ⟨_, .call ⟨.value (.func 29), _, _⟩, _, _, _, some _⟩ _ _ _; first | (refine n_call (f := 29) rfl Tryd.call29 (h := AEq.sub' [_, _, _] (hc := dmax _ _ _ _) (hq := ?_))))) | (guard_target =~ dw _ _ _ _ _ _ _ _ _ _; first | ((first | guard_target =~ dw _ _ _ _ _ (0 :: _) _ _ _ _ | guard_target =~ dw _ _ _ _ _ (9 :: _) _ _ _ _); first | (refine dw_p rfl rfl (h := (fun τ => ro_v rfl (h := ro_end ⟨rfl, rfl⟩))) (hk := ?_)) | (refine dw_c rfl rfl (h := ro_v rfl (h := ro_end ⟨rfl, rfl⟩)) (hk := ?_))) | ((first | guard_target =~ dw _ _ _ _ _ (1 :: _) _ _ _ _ | guard_target =~ dw _ _ _ _ _ (3 :: _) _ _ _ _ | guard_target =~ dw _ _ _ _ _ (5 :: _) _ _ _ _); first | (refine dw_p rfl rfl (h := (fun τ => ro_v rfl (h := ro_end ⟨rfl, rfl⟩))) (hk := ?_)) | (refine dw_c rfl rfl (h := ro_v rfl (h := ro_end ⟨rfl, rfl⟩)) (hk := ?_))) | ((first | guard_target =~ dw _ _ _ _ _ (2 :: _) _ _ _ _ | guard_target =~ dw _ _ _ _ _ (4 :: _) _ _ _ _ | guard_target =~ dw _ _ _ _ _ (6 :: _) _ _ _ _); first | (refine dw_p rfl rfl (h := (fun τ => ro_v rfl (h := ro_end ⟨rfl, rfl⟩))) (hk := ?_)) | (refine dw_c rfl rfl (h := ro_v rfl (h := ro_end ⟨rfl, rfl⟩)) (hk := ?_))) | (guard_target =~ dw _ _ _ _ _ (7 :: _) _ _ _ _; first | (refine dw_p rfl rfl (h := (fun τ => ro_s (h := n_call (f := 38) rfl Tryd.call38 (h := AEq.pure' agT (opts_is _ _ aoT) (hq := ro_end ⟨rfl, rfl⟩))))) (hk := ?_))) | (guard_target =~ dw _ _ _ _ _ (8 :: _) _ _ _ _; first | (refine dw_w rfl rfl (h := ro_s (h := n_call (f := 37) rfl Tryd.call37 (h := AEq.sub' [_, _, _] (hc := enc_ok _ _ _ _ _ _ _ _ _ aoT aoT aoT aoT _ _ _ aoT aoT aoT _ _ _ _ aoT) (hq := ro_end ⟨rfl, rfl⟩)))) (hk := ?_))) | ((first | guard_target =~ dw _ _ _ _ _ (10 :: _) _ _ _ _ | guard_target =~ dw _ _ _ _ _ (11 :: _) _ _ _ _); first | (refine dw_p rfl rfl (h := (fun τ => ro_x rfl (h := ro_end ⟨rfl, rfl⟩))) (hk := ?_))) | ((first | guard_target =~ dw _ _ _ _ _ (12 :: _) _ _ _ _ | guard_target =~ dw _ _ _ _ _ (13 :: _) _ _ _ _); first | (refine dw_p rfl rfl (h := (fun τ => ro_a rfl (h := ro_end ⟨rfl, rfl⟩))) (hk := ?_))) | (guard_target =~ dw _ _ _ _ _ [] _ _ _ _; first | (refine dw_nil ?_))) | (refine hK _ _ ?_; clear hK K))
    refine ⟨⟨i + 1, st, sd2, xt, mt⟩, [0, 1, 2, 7, 8, 5], ⟨by dsimp only; omega, by dsimp only; omega, hto, hnk2⟩, by dsimp only; omega, rfl, ?_, (by repeat' (first | exact agr_refl | refine agr_cons (by rfl) ?_)), ?_⟩
    ·dsimp only
     (refine ⟨⟨_, sT, ?_⟩, trivial⟩ <;> (try (first | exact aleT)))
    ·dsimp only
     first | rfl | (simp (disch := omega) only [go_sem, seval, ↓reduceIte]; done) | (simp (disch := omega) only [go_sem, seval, ↓reduceIte]; rfl) | trace_state
   | true =>
    have hrl : xs.reverse.length = xs.length := List.length_reverse
    have hU := True.intro
    repeat' (first | (guard_target =~ PWp _ _ _ _ _ _ _; first | (refine pwp_draw_ord (id := 10) [0, 1, 2, 3, 4, 5, 6, 7, 8, 9, 10, 11, 12, 13] [8] mixed (by kernel_rfl) (by kernel_rfl) ?_) | (refine pwp_seq_k (fun K hK => ?_)) | (refine pwp_block ?_) | (refine pwp_rg_then ?_) | (refine pwp_skip ?_) | (refine pwp_exit ?_) | ((refine pwp_cond_d (fun hcd => ?_) (fun hcd => ?_)) <;> (try simp only [hcP] at hcd) <;> (try exact cdT))) | (guard_target =~ rg _ _ _ _ _ _ _; first | (guard_target =~ rg _ _ _ [] _ _ _; first | (refine rg_end ?_)) | (refine rg_v rfl (h := ?_)) | (refine rg_s rfl ?_) | (refine rg_n rfl ?_)) | (guard_target =~ SOp _ _ _ _ _ _; first | (guard_target =~ SOp _ _ ⟨_, .alloc _, _, _, _, none⟩ _ _ _; first | (refine n_alloc rfl (by first | exact zv3 | exact zv4 | exact zv5 | exact zv9 | exact zv22 | exact zv28 | exact zv46 | exact zv50 | exact zv53 | exact zv55 | exact zv67 | exact zv69 | exact zv71 | exact zv72 | exact zv74 | exact zv77 | exact zv79 | exact zv81 | exact zv87 | exact zv112 | exact zv122 | exact zv124 | fail) (hK := ?_))) | (guard_target =~ SOp _ _ ⟨_, .store _ _ _, _, _, _, none⟩ _ _ _; first | (refine n_store rfl (hK := ?_))) | (guard_target =~ SOp _ _ ⟨_, .indexAddr _ _ _, _, _, _, none⟩ _ _ _; first | (refine n_index rfl (hK := ?_)))) | (guard_target =~ dw _ _ _ _ _ _ _ _ _ _; first | ((first | guard_target =~ dw _ _ _ _ _ (0 :: _) _ _ _ _ | guard_target =~ dw _ _ _ _ _ (9 :: _) _ _ _ _); first | (refine dw_p rfl rfl (h := (fun τ => ro_v rfl (h := ro_end ⟨rfl, rfl⟩))) (hk := ?_)) | (refine dw_c rfl rfl (h := ro_v rfl (h := ro_end ⟨rfl, rfl⟩)) (hk := ?_))) | ((first | guard_target =~ dw _ _ _ _ _ (1 :: _) _ _ _ _ | guard_target =~ dw _ _ _ _ _ (3 :: _) _ _ _ _ | guard_target =~ dw _ _ _ _ _ (5 :: _) _ _ _ _); first | (refine dw_p rfl rfl (h := (fun τ => ro_v rfl (h := ro_end ⟨rfl, rfl⟩))) (hk := ?_)) | (refine dw_c rfl rfl (h := ro_v rfl (h := ro_end ⟨rfl, rfl⟩)) (hk := ?_))) | ((first | guard_target =~ dw _ _ _ _ _ (2 :: _) _ _ _ _ | guard_target =~ dw _ _ _ _ _ (4 :: _) _ _ _ _ | guard_target =~ dw _ _ _ _ _ (6 :: _) _ _ _ _); first | (refine dw_p rfl rfl (h := (fun τ => ro_v rfl (h := ro_end ⟨rfl, rfl⟩))) (hk := ?_)) | (refine dw_c rfl rfl (h := ro_v rfl (h := ro_end ⟨rfl, rfl⟩)) (hk := ?_))) | (guard_target =~ dw _ _ _ _ _ (7 :: _) _ _ _ _; first | (refine dw_p rfl rfl (h := (fun τ => ro_s (h := n_call (f := 38) rfl Tryd.call38 (h := AEq.pure' agT (opts_is _ _ aoT) (hq := ro_end ⟨rfl, rfl⟩))))) (hk := ?_))) | (guard_target =~ dw _ _ _ _ _ (8 :: _) _ _ _ _; first | (refine dw_w rfl rfl (h := ro_s (h := n_call (f := 37) rfl Tryd.call37 (h := AEq.sub' [_, _, _] (hc := enc_no _ _ _ _ _ _ _ _ _ aoT _ _ _ aoT) (hq := ro_end ⟨rfl, rfl⟩)))) (hk := ?_))) | ((first | guard_target =~ dw _ _ _ _ _ (10 :: _) _ _ _ _ | guard_target =~ dw _ _ _ _ _ (11 :: _) _ _ _ _); first | (refine dw_p rfl rfl (h := (fun τ => ro_x rfl (h := ro_end ⟨rfl, rfl⟩))) (hk := ?_))) | ((first | guard_target =~ dw _ _ _ _ _ (12 :: _) _ _ _ _ | guard_target =~ dw _ _ _ _ _ (13 :: _) _ _ _ _); first | (refine dw_p rfl rfl (h := (fun τ => ro_a rfl (h := ro_end ⟨rfl, rfl⟩))) (hk := ?_))) | (guard_target =~ dw _ _ _ _ _ [] _ _ _ _; first | (refine dw_nil ?_))) | (refine hK _ _ ?_; clear hK K) | (apply_assumption (exfalso := false) (symm := false)))
    refine ⟨⟨i + 1, s, sd, xs, m⟩, [0, 1, 2, 3, 4, 5], ⟨by dsimp only; omega, by dsimp only; omega, hok, hnk⟩, by dsimp only; omega, rfl, ?_, (by repeat' (first | exact agr_refl | refine agr_cons (by rfl) ?_)), ?_⟩
    ·dsimp only
     (refine ⟨⟨_, sT, ?_⟩, trivial⟩ <;> (try (first | exact aleT)))
    ·dsimp only
     first | rfl | (simp (disch := omega) only [go_sem, seval, ↓reduceIte]; done) | (simp (disch := omega) only [go_sem, seval, ↓reduceIte]; rfl) | trace_state
  ·have hU := True.intro
   repeat' (first | (guard_target =~ PWp _ _ _ _ _ _ _; first | (refine pwp_seq_k (fun K hK => ?_)) | (refine pwp_rg_then ?_) | (refine pwp_ret ?_) | (refine pwp_exit ?_) | ((refine pwp_cond_d (fun hcd => ?_) (fun hcd => ?_)) <;> (try simp only [hcP] at hcd) <;> (try exact cdT))) | (guard_target =~ rg _ _ _ _ _ _ _; first | (guard_target =~ rg _ _ _ [] _ _ _; first | (refine rg_end ?_)) | (refine rg_a rfl (h := ?_)) | (refine rg_v rfl (h := ?_)) | (refine rg_s rfl ?_)) | (guard_target =~ SOp _ _ _ _ _ _; first | (guard_target =~ SOp _ _ ⟨_, .call ⟨.value (.func 35), _, _⟩, _, _, _, none⟩ _ _ _; first | (refine n_call (f := 35) rfl Tryd.call35 (h := AEq.pure' agT alive24 (hq := ?_)))) | (guard_target =~ SOp _ _ ⟨_, .call ⟨.value (.func 35), _, _⟩, _, _, _, some _⟩ _ _ _; first | (refine n_call (f := 35) rfl Tryd.call35 (h := AEq.pure' agT alive24 (hq := ?_))))) | (guard_target =~ (_ ∨ _) ∧ _; first | ((refine end_d [] (by rw [Tryd.results11, Lf.res1]) (ale_1 ?_) ?_) <;> (try (first | exact aleT | exact stq (by with_reducible rfl) | exact stq (by rfl) | exact stq (by simp (disch := omega) only [go_sem, seval, ↓reduceIte, hU]))))) | (refine hK _ _ ?_; clear hK K) | (apply_assumption (exfalso := false) (symm := false)))
end Go.Proofs.YtohbfcmmpaikhaaDoor

set_option linter.unusedVariables false
set_option linter.unusedSimpArgs false
namespace Go.Proofs.YtohbfcmmpaikhaaDoor
open Go Go.Lf Go.Proofs Go.ChangeShapes Go.WideShapes Go.ChangeAt Go.RowKit
attribute [local irreducible] Lf.rg Lf.ro Lf.PWp Lf.SOp Lf.ACall Lf.Scoped Lf.dg
set_option maxRecDepth 20000
set_option maxHeartbeats 4000000
abbrev laidD : List (String × DataW Unit) := [("stickler/repr.forms", Rows.laid_stickler_repr_forms)]
theorem gForms : Tryd.prog.globalNamed "stickler/repr.forms" = some 0 := by kernel_rfl
theorem tForms : (Tryd.prog.globals[0]?).map (·.type) = some 94 := by kernel_rfl
theorem laid_pair {W : World} {base : Nat} {spare : Nat → Bool} {held : Bool} {n : Nat} {cs : List Value} {a b : Int} {x : DataW Unit × List MemPlace} {enc : TypeId × Value → Unit}
    (h : DataW.trod enc Tryd.prog W base spare held n 93 cs = some x) (hx : x.1 = .agg [.lit (.int .i64 a), .lit (.int .i64 b)]) : cs = [.int .i64 a, .int .i64 b] := by
  obtain ⟨y0, y1, m, rfl, hl, h0, h1⟩ := trod_struct2 Tryd.underlying93 h
  obtain ⟨k0, e0, f0, _⟩ := DataW.trod_int Tryd.underlying3 h0
  obtain ⟨k1, e1, f1, _⟩ := DataW.trod_int Tryd.underlying3 h1
  simp only [DataW.agg.injEq, List.cons.injEq] at hx
  have c3 : Tryd.prog.cellsOf 3 = 1 := ce3
  have c93 : Tryd.prog.cellsOf 93 = 2 := ce93
  rw [c93] at hl
  match cs, hl with
  | [c0, c1], _ =>
    simp [c3] at e0 e1
    rw [f0, f1] at hx
    simp at hx
    obtain ⟨rfl, rfl⟩ := hx
    rw [e0, e1]
theorem take12 {α : Type} (cs : List α) (h : cs.length = 12) : cs = (cs.drop 0).take 2 ++ ((cs.drop 2).take 2 ++ ((cs.drop 4).take 2 ++ ((cs.drop 6).take 2 ++ ((cs.drop 8).take 2 ++ (cs.drop 10).take 2)))) := by
 match cs, h with
 | [a, b, c, d, e, f, g, h, i, j, k, l], _ => rfl
theorem gv_of_laid {W : World} (h : laidMetH Tryd.prog laidD W) : GV [] rz0 W := by
 rw [MakeChecks.laidMetH_plain _ _ _ (by kernel_rfl)] at h
 obtain ⟨ps, ⟨g0, t0, cs0, f0, p0, q0, hg0, ht0, hv0, hd0, _, _⟩, _, _⟩ := h
 obtain rfl := Option.some.inj (gForms.symm.trans hg0)
 obtain rfl := Option.some.inj (tForms.symm.trans ht0)
 obtain ⟨xs, m1, rfl, hx1, hlen, hn6, hel⟩ := DataW.trod_array Tryd.underlying94 hd0
 have c93 : Tryd.prog.cellsOf 93 = 2 := ce93
 have c94 : Tryd.prog.cellsOf 94 = 12 := ce94
 rw [c94] at hlen
 simp only [c93] at hel
 have hcs : cs0.toList = [.int .i64 0, .int .i64 0, .int .i64 128, .int .i64 7, .int .i64 64, .int .i64 6, .int .i64 0, .int .i64 4, .int .i64 16, .int .i64 4, .int .i64 32, .int .i64 5] := by
  match xs, hn6 with
  | [x0, x1, x2, x3, x4, x5], _ =>
   simp only [Prod.mk.injEq, Rows.laid_stickler_repr_forms, List.map_cons, List.map_nil, DataW.agg.injEq, List.cons.injEq, and_true] at hx1
   obtain ⟨⟨y0, y1, y2, y3, y4, y5⟩, _⟩ := hx1
   have e0 := laid_pair (hel 0 (by decide)) y0.symm
   have e1 := laid_pair (hel 1 (by decide)) y1.symm
   have e2 := laid_pair (hel 2 (by decide)) y2.symm
   have e3 := laid_pair (hel 3 (by decide)) y3.symm
   have e4 := laid_pair (hel 4 (by decide)) y4.symm
   have e5 := laid_pair (hel 5 (by decide)) y5.symm
   rw [take12 cs0.toList hlen]
   simp only [Nat.reduceMul] at e0 e1 e2 e3 e4 e5
   rw [e0, e1, e2, e3, e4, e5]
   rfl
 have hc : ∀ i v, cs0.toList[i]? = some v → W.cell? ⟨0, i, none⟩ = some v := by
  intro i v hv
  have := World.var?_cell hg0 hv0 i
  rw [this, ← Array.getElem?_toList]
  exact hv
 intro g
 cases g with
 | succ g => exact trivial
 | zero =>
  show VR [] rz0 W (.ip false _) _
  simp only [VR]
  have h0 := hc 0 (.int .i64 0) (by rw [hcs]; rfl)
  refine ⟨0, 0, rfl, ?_, ?_, ?_⟩
  ·have h1 := h0
   unfold World.cell? at h1
   cases hh : W.heap[0]? with
   | none => simp [hh] at h1
   | some o => exact (Array.getElem?_eq_some_iff.1 hh).1
  ·intro h
   rcases (Bset.mset h) with ⟨o, ob, q, _⟩ | h
   ·simp at q
   ·exact h
  ·simp only [List.map_cons, List.map_nil, PVs, PV]
   repeat' (first | exact trivial | refine ⟨⟨_, hc _ _ (by rw [hcs]; rfl), rfl, rfl⟩, ?_⟩)
end Go.Proofs.YtohbfcmmpaikhaaDoor

set_option linter.unusedVariables false
set_option linter.unusedSimpArgs false
namespace Go.Proofs.YtohbfcmmpaikhaaDoor
open Go Go.Lf Go.Proofs
attribute [local irreducible] Lf.rg Lf.ro Lf.PWp Lf.SOp Lf.ACall Lf.Scoped Lf.dg
set_option maxRecDepth 20000
set_option maxHeartbeats 4000000
theorem vas_map_p {α : Type} {g : α → List AV} {p : α → Prop} : ∀ (ys : List (List AV)), (∀ y ∈ ys, ∃ a, p a ∧ y = g a) → ∃ l : List α, (∀ a ∈ l, p a) ∧ ys = l.map g
 | [], _ => ⟨[], by simp, rfl⟩
 | y :: ys, h => by
  obtain ⟨a, ha, rfl⟩ := h y List.mem_cons_self
  obtain ⟨l, hl, rfl⟩ := vas_map_p ys (fun y hy => h y (List.mem_cons_of_mem _ hy))
  refine ⟨a :: l, ?_, rfl⟩
  intro b hb
  rw [List.mem_cons] at hb
  rcases hb with rfl | hb
  ·exact ha
  ·exact hl b hb
end Go.Proofs.YtohbfcmmpaikhaaDoor

set_option linter.unusedVariables false
set_option linter.unusedSimpArgs false
namespace Go.Proofs.YtohbfcmmpaikhaaDoor
open Go Go.Lf Go.Proofs
attribute [local irreducible] Lf.rg Lf.ro Lf.PWp Lf.SOp Lf.ACall Lf.Scoped Lf.dg
set_option maxRecDepth 20000
set_option maxHeartbeats 4000000
theorem sh_int' {k : Nat} {y : List AV} (h : Sh Tryd.prog (k + 1) 3 y) : ∃ n : Int, y = intA n := by
 simp only [Sh, Tryd.underlying3] at h
 obtain ⟨n, _, e⟩ := h
 exact ⟨n, e⟩
theorem sh_fl {k : Nat} {y : List AV} (h : Sh Tryd.prog (k + 2) 67 y) : ∃ f : Fl, y = flA f := by
 simp only [Sh, Tryd.underlying67, Tryd.underlying9, Tryd.underlying4] at h
 obtain ⟨h1, h2⟩ := h
 have a0 := h2 _ (List.mem_cons_self)
 have a1 := h2 _ (List.mem_cons_of_mem _ (List.mem_cons_self))
 have a2 := h2 _ (List.mem_cons_of_mem _ (List.mem_cons_of_mem _ (List.mem_cons_self)))
 simp only [ce9, ce4, Tryd.underlying9, Tryd.underlying4] at a0 a1 a2 h1
 obtain ⟨l, _, e0⟩ := a0
 obtain ⟨m, _, e1⟩ := a1
 obtain ⟨q, e2⟩ := a2
 rw [ce67] at h1
 refine ⟨⟨l, m, q⟩, ?_⟩
 match y, h1 with
 | [y0, y1, y2], _ =>
  simp at e0 e1 e2
  simp [flA, e0, e1, e2]
theorem sh_op {k : Nat} {y : List AV} (h : Sh Tryd.prog (k + 2) 124 y) : ∃ o : Op4, y = opA o := by
 simp only [Sh, Tryd.underlying124, Tryd.underlying4, Tryd.underlying3] at h
 obtain ⟨h1, h2⟩ := h
 have a0 := h2 _ (List.mem_cons_self)
 have a1 := h2 _ (List.mem_cons_of_mem _ (List.mem_cons_self))
 have a2 := h2 _ (List.mem_cons_of_mem _ (List.mem_cons_of_mem _ (List.mem_cons_self)))
 have a3 := h2 _ (List.mem_cons_of_mem _ (List.mem_cons_of_mem _ (List.mem_cons_of_mem _ (List.mem_cons_self))))
 simp only [ce3, ce4, Tryd.underlying3, Tryd.underlying4] at a0 a1 a2 a3 h1
 obtain ⟨n, _, e0⟩ := a0
 obtain ⟨p, e1⟩ := a1
 obtain ⟨q, e2⟩ := a2
 obtain ⟨r, e3⟩ := a3
 rw [ce124] at h1
 refine ⟨⟨n, p, q, r⟩, ?_⟩
 match y, h1 with
 | [y0, y1, y2, y3], _ =>
  simp at e0 e1 e2 e3
  simp [opA, e0, e1, e2, e3]
theorem sh_wbk {k : Nat} {y : List AV} (h : Sh Tryd.prog (k + 4) 79 y) : ∃ b : WBk, WBSz b ∧ y = ekA b := by
 simp only [Sh, Tryd.underlying79, Tryd.underlying53, Tryd.underlying50, Tryd.underlying77] at h
 obtain ⟨h1, h2⟩ := h
 have a0 := h2 _ (List.mem_cons_self)
 have a1 := h2 _ (List.mem_cons_of_mem _ (List.mem_cons_self))
 have a2 := h2 _ (List.mem_cons_of_mem _ (List.mem_cons_of_mem _ (List.mem_cons_self)))
 simp only [ce53, ce50, ce77, Tryd.underlying53, Tryd.underlying50, Tryd.underlying77] at a0 a1 a2 h1
 obtain ⟨ys0, l0, m0, e0⟩ := a0
 obtain ⟨ys1, l1, m1, e1⟩ := a1
 obtain ⟨ys2, l2, m2, e2⟩ := a2
 obtain ⟨z, rfl⟩ := as_map (g := intA) ys0 (fun y h => sh_int' (k := k + 1) (m0 y h))
 obtain ⟨f, rfl⟩ := as_map (g := flA) ys1 (fun y h => sh_fl (k := k) (m1 y h))
 obtain ⟨o, rfl⟩ := as_map (g := opA) ys2 (fun y h => sh_op (k := k) (m2 y h))
 rw [ce79] at h1
 refine ⟨⟨z, f, o⟩, ⟨by simpa [maxLen] using l0, by simpa [maxLen] using l1, by simpa [maxLen] using l2⟩, ?_⟩
 match y, h1 with
 | [y0, y1, y2], _ =>
  simp at e0 e1 e2
  simp [ekA, e0, e1, e2]
theorem in_wblocks {w : World} {a : Option Addr} {l c k : Nat} (h : ∃ xs, Sh Tryd.prog (k + 5) 72 xs ∧ ((∃ x, xs = [x] ∧ VR [] rz0 w x (.slice a l c)) ∨ VR [] rz0 w (.ag xs) (.slice a l c))) :
    ∃ s : List WBk, s.length ≤ 9223372036854775807 ∧ (∀ b ∈ s, WBSz b) ∧ VR [] rz0 w (.sl false false (s.map ekA)) (.slice a l c) := by
  obtain ⟨ys, h1, h2, h3⟩ := in_sl Tryd.underlying72 h
  obtain ⟨b, hb, rfl⟩ := vas_map_p (g := ekA) (p := WBSz) ys (fun y hy => sh_wbk (k := k) (h2 y hy))
  exact ⟨b, by simpa [maxLen] using h1, hb, h3⟩
end Go.Proofs.YtohbfcmmpaikhaaDoor

