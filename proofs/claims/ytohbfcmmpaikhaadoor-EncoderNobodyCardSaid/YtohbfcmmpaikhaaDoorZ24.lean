import Derived.Test.YtohbfcmmpaikhaaDoorZ23
import Derived.Test.YtohbfcmmpaikhaaDoorLc
import Derived.Test.YtohbfcmmpaikhaaDoorLb
import Derived.Test.YtohbfcmmpaikhaaDoorTy
import Derived.Test.YtohbfcmmpaikhaaDoorRows
import Derived.ProofKit
import Derived.LaidMore
import Derived.OpenShut
import Derived.Stop.Joined
import Derived.Test.YtohbfcmmpaikhaaDoorZ15
import Derived.Test.YtohbfcmmpaikhaaDoorZ22
set_option linter.unusedVariables false
set_option linter.unusedSimpArgs false
namespace Go.Proofs.YtohbfcmmpaikhaaDoor
open Go Go.Lf Go.Proofs
attribute [local irreducible] Lf.rg Lf.ro Lf.PWp Lf.SOp Lf.ACall Lf.Scoped Lf.dg Lf.dw
set_option maxRecDepth 20000
set_option maxHeartbeats 4000000
def oneBk (z : List Int) (l : List Fl) (y : List Op4) : List WBk := [⟨z, l, y⟩]
theorem oneBk_len {z : List Int} {l : List Fl} {y : List Op4} : (oneBk z l y).length = 1 := rfl
theorem oneBk_sz {z : List Int} {l : List Fl} {y : List Op4} (h : WBSz ⟨z, l, y⟩) : ∀ b ∈ oneBk z l y, WBSz b := by
 intro b hb
 obtain rfl := List.mem_singleton.1 hb
 exact h
theorem oneBk_map {z : List Int} {l : List Fl} {y : List Op4} : [[AV.sl false false (z.map intA), .sl false false (l.map flA), .sl false false (y.map opA)]] = (oneBk z l y).map ekA := rfl
theorem rencz_ok (f2 f3 f4 : Bool) (sizes : List Int) (l : List Fl) (wy : List Op4) (hsl : sizes.length ≤ 100) (hll : l.length ≤ 100) (hol : wy.length ≤ 100000) (hlb : ∀ f ∈ l, f.n.size ≤ 1000 ∧ f.v.size ≤ 1000) (hz : anyS sizes = false) (o : List UInt8) (xt : List Fl) (st : Nat) (mt : Int) (hQ : encM sizes l wy ⟨xsE, 0, 0⟩ = ⟨o, ⟨xt, st, mt⟩⟩) : AEq Tryd.prog 39 [.ag [.sl true false [], i64 0], .sl f2 false (sizes.map intA), .sl f3 false (l.map flA), .sl f4 false (wy.map opA)] [] (.tu [.sl false false (o.map byteA), .ag [.sl false false (xt.reverse.map flA), i64 mt], bl true]) [] :=
 renc_ok true f2 f3 f4 sizes l wy hsl hll hol hlb xsE 0 0 (by decide) (tok_e (by decide) (by decide)) hz o xt st mt hQ
theorem rencz_no (f2 f3 f4 : Bool) (sizes : List Int) (l : List Fl) (wy : List Op4) (hsl : sizes.length ≤ 100) (hz : anyS sizes = true) : AEq Tryd.prog 39 [.ag [.sl true false [], i64 0], .sl f2 false (sizes.map intA), .sl f3 false (l.map flA), .sl f4 false (wy.map opA)] [] (.tu [.sl true false [], .ag [.sl true false [], i64 0], bl false]) [] :=
 renc_no true f2 f3 f4 sizes l wy hsl xsE 0 0 (by decide) (tok_e (by decide) (by decide)) hz
theorem encz_ok (f1 q1 f2 q2 f3 q3 : Bool) (sizes : List Int) (l : List Fl) (wy : List Op4) (hsl : sizes.length ≤ 100) (hll : l.length ≤ 100) (hol : wy.length ≤ 100000) (hlb : ∀ f ∈ l, f.n.size ≤ 1000 ∧ f.v.size ≤ 1000) (hz : anyS sizes = false) (o : List UInt8) (xt : List Fl) (st : Nat) (mt : Int) (hQ : encM sizes l wy ⟨xsE, 0, 0⟩ = ⟨o, ⟨xt, st, mt⟩⟩) : AEq Tryd.prog 37 [.ptr 0 0, .sl f1 q1 (sizes.map intA), .sl f2 q2 (l.map flA), .sl f3 q3 (wy.map opA)] [.box [.lit (.pointer none)]] (.tu [.sl false false (o.map byteA), i64 0]) [.box [.ptr 1 0], .box [.row 2 st, i64 (sumW xt), i64 mt], .row st 67 3 (xt.map flA)] :=
 encz_ok_r f1 q1 f2 q2 f3 q3 sizes l wy hsl hll hol hlb hz _ hQ
theorem ersame_nil : AEq Tryd.prog 27 [.sl true false [], .sl true false []] [] (bl true) [] := r_same true true false false [] (by simp)
attribute [local irreducible] wt sumW encM xsE TOk oneBk
set_option maxRecDepth 20000 in
theorem law_encnobody (z : List Int) (l : List Fl) (wy : List Op4) (hsz : WBSz ⟨z, l, wy⟩) : AEq Tryd.prog 10 [.ag [.sl false false (z.map intA), .sl false false (l.map flA), .sl false false (wy.map opA)]] [] (bl true) [] := by
 have h1 := oneBk_len (z := z) (l := l) (y := wy)
 have h2 := oneBk_sz hsz
 have hom := oneBk_map (z := z) (l := l) (y := wy)
 cases hLg : lgWk (oneBk z l wy) 40 with
 | true =>
  refine acall_body Tryd.func10 rfl Tryd.ntmps10 (by simp) (fun hsc => ?_); simp only [Lf.enter, Nat.reduceAdd]; clear hsc
  have hU := @hLg
  repeat' (first | (guard_target =~ PWp _ _ _ _ _ _ _; first | (refine pwp_seq_k (fun K hK => ?_)) | (refine pwp_rg_then ?_) | (refine pwp_ret ?_) | ((refine pwp_cond_d (fun hcd => ?_) (fun hcd => ?_)) <;> (try simp only [hcP] at hcd) <;> (try exact cdT))) | (guard_target =~ rg _ _ _ _ _ _ _; first | (guard_target =~ rg _ _ _ [] _ _ _; first | (refine rg_end ?_)) | (refine rg_a rfl (h := ?_)) | (refine rg_v rfl (h := ?_)) | (refine rg_s rfl ?_)) | (guard_target =~ SOp _ _ _ _ _ _; first | (guard_target =~ SOp _ _ ⟨_, .call ⟨.value (.func 34), _, _⟩, _, _, _, none⟩ _ _ _; first | (refine n_call (f := 34) rfl Tryd.call34 (h := AEq.pure' agT (lgWk_is _ _ _ aoT aoT) (hq := ?_)))) | (guard_target =~ SOp _ _ ⟨_, .call ⟨.value (.func 35), _, _⟩, _, _, _, some _⟩ _ _ _; first | (refine n_call (f := 35) rfl Tryd.call35 (h := AEq.pure' agT alive24 (hq := ?_)))) | (guard_target =~ SOp _ _ ⟨_, .call ⟨.value (.func 35), _, _⟩, _, _, _, none⟩ _ _ _; first | (refine n_call (f := 35) rfl Tryd.call35 (h := AEq.pure' agT alive24 (hq := ?_)))) | (guard_target =~ SOp _ _ ⟨_, .buildSlice _ _ _, _, _, _, none⟩ _ _ _; first | (refine n_lit (xs := List.map (ekA) (oneBk z l wy)) rfl (he := by first | exact eo3 | exact eo4 | exact eo5 | exact eo9 | exact eo22 | exact eo28 | exact eo50 | exact eo52 | exact eo53 | exact eo67 | exact eo69 | exact eo72 | exact eo74 | exact eo77 | exact eo79 | exact eo81 | exact eo87 | exact eo112 | exact eo122 | exact eo124 | fail) (hc := by first | rfl | assumption | (simp (disch := omega) only [go_sem, seval, ↓reduceIte, hU]; rfl)) (hK := ?_))) | (guard_target =~ SOp _ _ ⟨_, .box _ _, _, _, _, none⟩ _ _ _; first | (refine n_box rfl (hK := ?_)))) | (guard_target =~ (_ ∨ _) ∧ _; first | ((refine end_d [] (by rw [Tryd.results10, Lf.res1]) (ale_1 ?_) ?_) <;> (try (first | exact aleT | exact stq (by with_reducible rfl) | exact stq (by rfl) | exact stq (by simp (disch := omega) only [go_sem, seval, ↓reduceIte, hU]))))) | (refine hK _ _ ?_; clear hK K))
 | false =>
 obtain ⟨_, hbd⟩ := lgWk_no hLg
 obtain ⟨hzl, hhl, hfl, hfb⟩ := hbd ⟨z, l, wy⟩ (by unfold oneBk; exact List.mem_singleton.2 rfl)
 dsimp only at hzl hhl hfl hfb
 have hfs : ∀ f ∈ l, f.n.size ≤ 1000 ∧ f.v.size ≤ 1000 := fun f hf => by have := hfb f hf; omega
 cases hz : anyS z with
 | false =>
  obtain ⟨⟨o, ⟨xt, st, mt⟩⟩, hQ⟩ : ∃ Q, encM z l wy ⟨xsE, 0, 0⟩ = Q := ⟨_, rfl⟩
  obtain ⟨hto, htl, hol⟩ := encM_ok hQ (tok_e (by decide) (by decide)) (by dsimp only; rw [xsE_len]; decide) hz (by omega) (by omega) hfs
  dsimp only at htl hol
  rw [xsE_len] at htl
  have hrl : xt.reverse.length = xt.length := List.length_reverse
  refine acall_body Tryd.func10 rfl Tryd.ntmps10 (by simp) (fun hsc => ?_); simp only [Lf.enter, Nat.reduceAdd]; clear hsc
  have hU := @hLg
  repeat' (first | (guard_target =~ PWp _ _ _ _ _ _ _; first | (refine pwp_draw_ord (id := 5) [0, 1, 2, 3, 4, 5, 6, 7, 8, 9, 10, 11, 12, 13] [] mixed (by kernel_rfl) (by kernel_rfl) ?_) | (refine pwp_draw_ord (id := 6) [0, 1, 2, 3, 4, 5, 6, 7, 8, 9, 10, 11, 12] [7] mixed (by kernel_rfl) (by kernel_rfl) ?_) | (refine pwp_seq_k (fun K hK => ?_)) | (refine pwp_rg_then ?_) | (refine pwp_draw mixed (by kernel_rfl) ?_) | (refine pwp_ret ?_) | (refine pwp_skip ?_) | ((refine pwp_cond_d (fun hcd => ?_) (fun hcd => ?_)) <;> (try simp only [hcP] at hcd) <;> (try exact cdT))) | (guard_target =~ rg _ _ _ _ _ _ _; first | (guard_target =~ rg _ _ _ [] _ _ _; first | (refine rg_end ?_)) | (refine rg_a rfl (h := ?_)) | (refine rg_x rfl (hy := rfl) (h := ?_)) | (refine rg_v rfl (h := ?_)) | (refine rg_s rfl ?_) | (refine rg_n rfl ?_)) | (guard_target =~ SOp _ _ _ _ _ _; first | (guard_target =~ SOp _ _ ⟨_, .alloc _, _, _, _, none⟩ _ _ _; first | (refine n_alloc rfl (by first | exact zv3 | exact zv4 | exact zv5 | exact zv9 | exact zv22 | exact zv28 | exact zv50 | exact zv52 | exact zv53 | exact zv67 | exact zv69 | exact zv72 | exact zv74 | exact zv77 | exact zv79 | exact zv81 | exact zv87 | exact zv112 | exact zv122 | exact zv124 | fail) (hK := ?_))) | (guard_target =~ SOp _ _ ⟨_, .call ⟨.value (.func 34), _, _⟩, _, _, _, none⟩ _ _ _; first | (refine n_call (f := 34) rfl Tryd.call34 (h := AEq.pure' agT (lgWk_is _ _ _ aoT aoT) (hq := ?_)))) | (guard_target =~ SOp _ _ ⟨_, .build _ _, _, _, _, none⟩ _ _ _; first | (refine n_build rfl (by first | exact bd52 | exact bd67 | exact bd79 | exact bd87 | exact bd112 | exact bd122 | exact bd124 | fail) (hK := ?_))) | (guard_target =~ SOp _ _ ⟨_, .buildSlice _ _ _, _, _, _, none⟩ _ _ _; first | (refine n_lit (xs := List.map (ekA) (oneBk z l wy)) rfl (he := by first | exact eo3 | exact eo4 | exact eo5 | exact eo9 | exact eo22 | exact eo28 | exact eo50 | exact eo52 | exact eo53 | exact eo67 | exact eo69 | exact eo72 | exact eo74 | exact eo77 | exact eo79 | exact eo81 | exact eo87 | exact eo112 | exact eo122 | exact eo124 | fail) (hc := by first | rfl | assumption | (simp (disch := omega) only [go_sem, seval, ↓reduceIte, hU]; rfl)) (hK := ?_))) | (guard_target =~ SOp _ _ ⟨_, .box _ _, _, _, _, none⟩ _ _ _; first | (refine n_box rfl (hK := ?_))) | (guard_target =~ SOp _ _ ⟨_, .call ⟨.value (.func 39), _, _⟩, _, _, _, none⟩ _ _ _; first | (refine n_call (f := 39) rfl Tryd.call39 (h := AEq.pure' agT (rencz_ok _ _ _ _ _ _ aoT aoT aoT aoT aoT _ _ _ _ aoT) (hq := ?_)))) | (guard_target =~ SOp _ _ ⟨_, .store _ _ _, _, _, _, none⟩ _ _ _; first | (refine n_store rfl (hK := ?_)))) | (guard_target =~ dg _ _ _ _ _ _ _; first | (guard_target =~ dg _ _ _ (⟨_, .move _, _, _, _, none⟩ :: _) _ _ _; first | (refine dg_v rfl (hk := ?_))) | (guard_target =~ dg _ _ _ (⟨_, .assign _, _, _, _, none⟩ :: _) _ _ _; first | (refine dg_a rfl (hk := ?_))) | (guard_target =~ dg _ _ _ (⟨_, .load _ _, _, _, _, none⟩ :: _) _ _ _; first | (refine dg_v rfl (hk := ?_))) | (guard_target =~ dg _ _ _ (⟨_, .fieldAddr _ _ _, _, _, _, none⟩ :: _) _ _ _; first | (refine dg_v rfl (hk := ?_))) | (guard_target =~ dg _ _ _ (⟨_, .move _, _, _, _, some _⟩ :: _) _ _ _; first | (refine dg_gtp rfl (hk := ?_))) | (guard_target =~ dg _ _ _ (⟨_, .pick _ _ _, _, _, _, none⟩ :: _) _ _ _; first | (refine dg_v rfl (hk := ?_))) | (guard_target =~ dg _ _ _ (⟨_, .binOp _ _ _ _ _, _, _, _, some _⟩ :: _) _ _ _; first | (refine dg_gtp rfl (hk := ?_))) | (guard_target =~ dg _ _ _ (⟨_, .fieldAddr _ _ _, _, _, _, some _⟩ :: _) _ _ _; first | (refine dg_gtp rfl (hk := ?_))) | (guard_target =~ dg _ _ _ (⟨_, .call ⟨.value (.func 40), _, _⟩, _, _, _, some _⟩ :: _) _ _ _; first | (refine dg_gtp rfl (hk := ?_)) | (refine dg_c (x := _) (h := ro_gt (h := n_call (f := 40) rfl Tryd.call40 (h := AEq.sub' [_, _, _] (hc := emax _ _ _ _) (hq := ro_end ⟨rfl, rfl⟩)))) (hk := ?_)) | (refine dg_c (x := _) (h := ro_gt (h := n_call (f := 40) rfl Tryd.call40 (h := AEq.pure' agT emax0 (hq := ro_end ⟨rfl, rfl⟩)))) (hk := ?_))) | (guard_target =~ dg _ _ _ (⟨_, .call ⟨.value (.func 41), _, _⟩, _, _, _, some _⟩ :: _) _ _ _; first | (refine dg_gtp rfl (hk := ?_)) | (refine dg_c (x := _) (h := ro_gt (h := n_call (f := 41) rfl Tryd.call41 (h := AEq.sub' [_, _, _] (hc := eall _ _ _ _ aoT) (hq := ro_end ⟨rfl, rfl⟩)))) (hk := ?_)) | (refine dg_c (x := _) (h := ro_gt (h := n_call (f := 41) rfl Tryd.call41 (h := AEq.pure' agT eall0 (hq := ro_end ⟨rfl, rfl⟩)))) (hk := ?_))) | (guard_target =~ dg _ _ _ (⟨_, .load _ _, _, _, _, some _⟩ :: _) _ _ _; first | (refine dg_gtp rfl (hk := ?_))) | (guard_target =~ dg _ _ _ (⟨_, .call ⟨.value (.func 35), _, _⟩, _, _, _, some _⟩ :: _) _ _ _; first | (refine dg_gtp rfl (hk := ?_)) | (refine dg_c (x := _) (h := ro_gt (h := n_call (f := 35) rfl Tryd.call35 (h := AEq.pure' agT alive24 (hq := ro_end ⟨rfl, rfl⟩)))) (hk := ?_))) | (guard_target =~ dg _ _ _ (⟨_, .binOp _ _ _ _ _, _, _, _, none⟩ :: _) _ _ _; first | (refine dg_v rfl (hk := ?_))) | (guard_target =~ dg _ _ _ (⟨_, .call ⟨.value (.func 19), _, _⟩, _, _, _, some _⟩ :: _) _ _ _; first | (refine dg_gtp rfl (hk := ?_)) | (refine dg_c (x := _) (h := ro_gt (h := n_call (f := 19) rfl Tryd.call19 (h := AEq.pure' agT (same_self _ _ _ _ _ aoT) (hq := ro_end ⟨rfl, rfl⟩)))) (hk := ?_))) | (guard_target =~ dg _ _ _ (⟨_, .call ⟨.value (.func 27), _, _⟩, _, _, _, some _⟩ :: _) _ _ _; first | (refine dg_gtp rfl (hk := ?_)) | (refine dg_c (x := _) (h := ro_gt (h := n_call (f := 27) rfl Tryd.call27 (h := AEq.pure' agT (r_same _ _ _ _ _ aoT) (hq := ro_end ⟨rfl, rfl⟩)))) (hk := ?_))) | (guard_target =~ dg _ _ _ (⟨_, .call ⟨.builtin .len, _, _⟩, _, _, _, some _⟩ :: _) _ _ _; first | (refine dg_gtp rfl (hk := ?_))) | (guard_target =~ dg _ _ _ (⟨_, .call ⟨.builtin .len, _, _⟩, _, _, _, none⟩ :: _) _ _ _; first | (refine dg_v rfl (hk := ?_))) | (guard_target =~ dg _ _ _ [] _ _ _; first | (refine dg_nil ?_))) | (guard_target =~ dw _ _ _ _ _ _ _ _ _ _; first | ((first | guard_target =~ dw _ _ _ _ _ (0 :: _) _ _ _ _ | guard_target =~ dw _ _ _ _ _ (8 :: _) _ _ _ _ | guard_target =~ dw _ _ _ _ _ (9 :: _) _ _ _ _); first | (refine dw_p rfl rfl (h := (fun τ => ro_v rfl (h := ro_end ⟨rfl, rfl⟩))) (hk := ?_)) | (refine dw_c rfl rfl (h := ro_v rfl (h := ro_end ⟨rfl, rfl⟩)) (hk := ?_))) | ((first | guard_target =~ dw _ _ _ _ _ (0 :: _) _ _ _ _ | guard_target =~ dw _ _ _ _ _ (1 :: _) _ _ _ _ | guard_target =~ dw _ _ _ _ _ (2 :: _) _ _ _ _ | guard_target =~ dw _ _ _ _ _ (3 :: _) _ _ _ _ | guard_target =~ dw _ _ _ _ _ (4 :: _) _ _ _ _ | guard_target =~ dw _ _ _ _ _ (5 :: _) _ _ _ _); first | (refine dw_p rfl rfl (h := (fun τ => ro_v rfl (h := ro_end ⟨rfl, rfl⟩))) (hk := ?_)) | (refine dw_c rfl rfl (h := ro_v rfl (h := ro_end ⟨rfl, rfl⟩)) (hk := ?_))) | ((first | guard_target =~ dw _ _ _ _ _ (1 :: _) _ _ _ _ | guard_target =~ dw _ _ _ _ _ (2 :: _) _ _ _ _ | guard_target =~ dw _ _ _ _ _ (3 :: _) _ _ _ _ | guard_target =~ dw _ _ _ _ _ (4 :: _) _ _ _ _ | guard_target =~ dw _ _ _ _ _ (5 :: _) _ _ _ _ | guard_target =~ dw _ _ _ _ _ (6 :: _) _ _ _ _); first | (refine dw_p rfl rfl (h := (fun τ => ro_v rfl (h := ro_end ⟨rfl, rfl⟩))) (hk := ?_)) | (refine dw_c rfl rfl (h := ro_v rfl (h := ro_end ⟨rfl, rfl⟩)) (hk := ?_))) | ((first | guard_target =~ dw _ _ _ _ _ (6 :: _) _ _ _ _ | guard_target =~ dw _ _ _ _ _ (7 :: _) _ _ _ _); first | (refine dw_p rfl rfl (h := (fun τ => ro_s (h := n_call (f := 38) rfl Tryd.call38 (h := AEq.pure' agT (opts_is _ _ aoT) (hq := ro_end ⟨rfl, rfl⟩))))) (hk := ?_))) | ((first | guard_target =~ dw _ _ _ _ _ (7 :: _) _ _ _ _ | guard_target =~ dw _ _ _ _ _ (8 :: _) _ _ _ _); first | (refine dw_w rfl rfl (h := ro_s (h := n_call (f := 37) rfl Tryd.call37 (h := AEq.sub' [_] (hc := encz_ok _ _ _ _ _ _ _ _ _ aoT aoT aoT aoT aoT _ _ _ _ aoT) (hq := ro_end ⟨rfl, rfl⟩)))) (hk := ?_)) | (refine dw_p rfl rfl (h := (fun τ => ro_s (h := n_call (f := 37) rfl Tryd.call37 (h := AEq.pure' agT (enc_nil _ _ _) (hq := ro_end ⟨rfl, rfl⟩))))) (hk := ?_))) | ((first | guard_target =~ dw _ _ _ _ _ (9 :: _) _ _ _ _ | guard_target =~ dw _ _ _ _ _ (10 :: _) _ _ _ _ | guard_target =~ dw _ _ _ _ _ (11 :: _) _ _ _ _); first | (refine dw_p rfl rfl (h := (fun τ => ro_x rfl (h := ro_end ⟨rfl, rfl⟩))) (hk := ?_))) | ((first | guard_target =~ dw _ _ _ _ _ (11 :: _) _ _ _ _ | guard_target =~ dw _ _ _ _ _ (12 :: _) _ _ _ _ | guard_target =~ dw _ _ _ _ _ (13 :: _) _ _ _ _); first | (refine dw_p rfl rfl (h := (fun τ => ro_a rfl (h := ro_end ⟨rfl, rfl⟩))) (hk := ?_))) | (guard_target =~ dw _ _ _ _ _ [] _ _ _ _; first | (refine dw_nil ?_))) | (guard_target =~ (_ ∨ _) ∧ _; first | ((refine end_d [] (by rw [Tryd.results10, Lf.res1]) (ale_1 ?_) ?_) <;> (try (first | exact aleT | exact stq (by with_reducible rfl) | exact stq (by rfl) | exact stq (by simp (disch := omega) only [go_sem, seval, ↓reduceIte, hU]))))) | (refine hK _ _ ?_; clear hK K))
 | true =>
  refine acall_body Tryd.func10 rfl Tryd.ntmps10 (by simp) (fun hsc => ?_); simp only [Lf.enter, Nat.reduceAdd]; clear hsc
  have hU := @hLg
  repeat' (first | (guard_target =~ PWp _ _ _ _ _ _ _; first | (refine pwp_draw_ord (id := 5) [0, 1, 2, 3, 4, 5, 6, 7, 8, 9, 10, 11, 12, 13] [] mixed (by kernel_rfl) (by kernel_rfl) ?_) | (refine pwp_draw_ord (id := 6) [0, 1, 2, 3, 4, 5, 6, 7, 8, 9, 10, 11, 12] [7] mixed (by kernel_rfl) (by kernel_rfl) ?_) | (refine pwp_seq_k (fun K hK => ?_)) | (refine pwp_rg_then ?_) | (refine pwp_draw mixed (by kernel_rfl) ?_) | (refine pwp_ret ?_) | (refine pwp_skip ?_) | ((refine pwp_cond_d (fun hcd => ?_) (fun hcd => ?_)) <;> (try simp only [hcP] at hcd) <;> (try exact cdT))) | (guard_target =~ rg _ _ _ _ _ _ _; first | (guard_target =~ rg _ _ _ [] _ _ _; first | (refine rg_end ?_)) | (refine rg_a rfl (h := ?_)) | (refine rg_x rfl (hy := rfl) (h := ?_)) | (refine rg_v rfl (h := ?_)) | (refine rg_s rfl ?_) | (refine rg_n rfl ?_)) | (guard_target =~ SOp _ _ _ _ _ _; first | (guard_target =~ SOp _ _ ⟨_, .alloc _, _, _, _, none⟩ _ _ _; first | (refine n_alloc rfl (by first | exact zv3 | exact zv4 | exact zv5 | exact zv9 | exact zv22 | exact zv28 | exact zv50 | exact zv52 | exact zv53 | exact zv67 | exact zv69 | exact zv72 | exact zv74 | exact zv77 | exact zv79 | exact zv81 | exact zv87 | exact zv112 | exact zv122 | exact zv124 | fail) (hK := ?_))) | (guard_target =~ SOp _ _ ⟨_, .call ⟨.value (.func 34), _, _⟩, _, _, _, none⟩ _ _ _; first | (refine n_call (f := 34) rfl Tryd.call34 (h := AEq.pure' agT (lgWk_is _ _ _ aoT aoT) (hq := ?_)))) | (guard_target =~ SOp _ _ ⟨_, .build _ _, _, _, _, none⟩ _ _ _; first | (refine n_build rfl (by first | exact bd52 | exact bd67 | exact bd79 | exact bd87 | exact bd112 | exact bd122 | exact bd124 | fail) (hK := ?_))) | (guard_target =~ SOp _ _ ⟨_, .buildSlice _ _ _, _, _, _, none⟩ _ _ _; first | (refine n_lit (xs := List.map (ekA) (oneBk z l wy)) rfl (he := by first | exact eo3 | exact eo4 | exact eo5 | exact eo9 | exact eo22 | exact eo28 | exact eo50 | exact eo52 | exact eo53 | exact eo67 | exact eo69 | exact eo72 | exact eo74 | exact eo77 | exact eo79 | exact eo81 | exact eo87 | exact eo112 | exact eo122 | exact eo124 | fail) (hc := by first | rfl | assumption | (simp (disch := omega) only [go_sem, seval, ↓reduceIte, hU]; rfl)) (hK := ?_))) | (guard_target =~ SOp _ _ ⟨_, .box _ _, _, _, _, none⟩ _ _ _; first | (refine n_box rfl (hK := ?_))) | (guard_target =~ SOp _ _ ⟨_, .call ⟨.value (.func 39), _, _⟩, _, _, _, none⟩ _ _ _; first | (refine n_call (f := 39) rfl Tryd.call39 (h := AEq.pure' agT (rencz_no _ _ _ _ _ _ aoT aoT) (hq := ?_)))) | (guard_target =~ SOp _ _ ⟨_, .store _ _ _, _, _, _, none⟩ _ _ _; first | (refine n_store rfl (hK := ?_)))) | (guard_target =~ dg _ _ _ _ _ _ _; first | (guard_target =~ dg _ _ _ (⟨_, .move _, _, _, _, none⟩ :: _) _ _ _; first | (refine dg_v rfl (hk := ?_))) | (guard_target =~ dg _ _ _ (⟨_, .assign _, _, _, _, none⟩ :: _) _ _ _; first | (refine dg_a rfl (hk := ?_))) | (guard_target =~ dg _ _ _ (⟨_, .load _ _, _, _, _, none⟩ :: _) _ _ _; first | (refine dg_v rfl (hk := ?_))) | (guard_target =~ dg _ _ _ (⟨_, .fieldAddr _ _ _, _, _, _, none⟩ :: _) _ _ _; first | (refine dg_v rfl (hk := ?_))) | (guard_target =~ dg _ _ _ (⟨_, .move _, _, _, _, some _⟩ :: _) _ _ _; first | (refine dg_gtp rfl (hk := ?_))) | (guard_target =~ dg _ _ _ (⟨_, .pick _ _ _, _, _, _, none⟩ :: _) _ _ _; first | (refine dg_v rfl (hk := ?_))) | (guard_target =~ dg _ _ _ (⟨_, .binOp _ _ _ _ _, _, _, _, some _⟩ :: _) _ _ _; first | (refine dg_gtp rfl (hk := ?_))) | (guard_target =~ dg _ _ _ (⟨_, .fieldAddr _ _ _, _, _, _, some _⟩ :: _) _ _ _; first | (refine dg_gtp rfl (hk := ?_))) | (guard_target =~ dg _ _ _ (⟨_, .call ⟨.value (.func 40), _, _⟩, _, _, _, some _⟩ :: _) _ _ _; first | (refine dg_gtp rfl (hk := ?_)) | (refine dg_c (x := _) (h := ro_gt (h := n_call (f := 40) rfl Tryd.call40 (h := AEq.sub' [_] (hc := emax_z) (hq := ro_end ⟨rfl, rfl⟩)))) (hk := ?_)) | (refine dg_c (x := _) (h := ro_gt (h := n_call (f := 40) rfl Tryd.call40 (h := AEq.pure' agT emax0 (hq := ro_end ⟨rfl, rfl⟩)))) (hk := ?_))) | (guard_target =~ dg _ _ _ (⟨_, .call ⟨.value (.func 41), _, _⟩, _, _, _, some _⟩ :: _) _ _ _; first | (refine dg_gtp rfl (hk := ?_)) | (refine dg_c (x := _) (h := ro_gt (h := n_call (f := 41) rfl Tryd.call41 (h := AEq.sub' [_] (hc := eall_z) (hq := ro_end ⟨rfl, rfl⟩)))) (hk := ?_)) | (refine dg_c (x := _) (h := ro_gt (h := n_call (f := 41) rfl Tryd.call41 (h := AEq.pure' agT eall0 (hq := ro_end ⟨rfl, rfl⟩)))) (hk := ?_))) | (guard_target =~ dg _ _ _ (⟨_, .load _ _, _, _, _, some _⟩ :: _) _ _ _; first | (refine dg_gtp rfl (hk := ?_))) | (guard_target =~ dg _ _ _ (⟨_, .call ⟨.value (.func 35), _, _⟩, _, _, _, some _⟩ :: _) _ _ _; first | (refine dg_gtp rfl (hk := ?_)) | (refine dg_c (x := _) (h := ro_gt (h := n_call (f := 35) rfl Tryd.call35 (h := AEq.pure' agT alive24 (hq := ro_end ⟨rfl, rfl⟩)))) (hk := ?_))) | (guard_target =~ dg _ _ _ (⟨_, .binOp _ _ _ _ _, _, _, _, none⟩ :: _) _ _ _; first | (refine dg_v rfl (hk := ?_))) | (guard_target =~ dg _ _ _ (⟨_, .call ⟨.value (.func 19), _, _⟩, _, _, _, some _⟩ :: _) _ _ _; first | (refine dg_gtp rfl (hk := ?_)) | (refine dg_c (x := _) (h := ro_gt (h := n_call (f := 19) rfl Tryd.call19 (h := AEq.pure' agT same_nil (hq := ro_end ⟨rfl, rfl⟩)))) (hk := ?_))) | (guard_target =~ dg _ _ _ (⟨_, .call ⟨.value (.func 27), _, _⟩, _, _, _, some _⟩ :: _) _ _ _; first | (refine dg_gtp rfl (hk := ?_)) | (refine dg_c (x := _) (h := ro_gt (h := n_call (f := 27) rfl Tryd.call27 (h := AEq.pure' agT ersame_nil (hq := ro_end ⟨rfl, rfl⟩)))) (hk := ?_))) | (guard_target =~ dg _ _ _ (⟨_, .call ⟨.builtin .len, _, _⟩, _, _, _, some _⟩ :: _) _ _ _; first | (refine dg_gtp rfl (hk := ?_))) | (guard_target =~ dg _ _ _ (⟨_, .call ⟨.builtin .len, _, _⟩, _, _, _, none⟩ :: _) _ _ _; first | (refine dg_v rfl (hk := ?_))) | (guard_target =~ dg _ _ _ [] _ _ _; first | (refine dg_nil ?_))) | (guard_target =~ dw _ _ _ _ _ _ _ _ _ _; first | ((first | guard_target =~ dw _ _ _ _ _ (0 :: _) _ _ _ _ | guard_target =~ dw _ _ _ _ _ (8 :: _) _ _ _ _ | guard_target =~ dw _ _ _ _ _ (9 :: _) _ _ _ _); first | (refine dw_p rfl rfl (h := (fun τ => ro_v rfl (h := ro_end ⟨rfl, rfl⟩))) (hk := ?_)) | (refine dw_c rfl rfl (h := ro_v rfl (h := ro_end ⟨rfl, rfl⟩)) (hk := ?_))) | ((first | guard_target =~ dw _ _ _ _ _ (0 :: _) _ _ _ _ | guard_target =~ dw _ _ _ _ _ (1 :: _) _ _ _ _ | guard_target =~ dw _ _ _ _ _ (2 :: _) _ _ _ _ | guard_target =~ dw _ _ _ _ _ (3 :: _) _ _ _ _ | guard_target =~ dw _ _ _ _ _ (4 :: _) _ _ _ _ | guard_target =~ dw _ _ _ _ _ (5 :: _) _ _ _ _); first | (refine dw_p rfl rfl (h := (fun τ => ro_v rfl (h := ro_end ⟨rfl, rfl⟩))) (hk := ?_)) | (refine dw_c rfl rfl (h := ro_v rfl (h := ro_end ⟨rfl, rfl⟩)) (hk := ?_))) | ((first | guard_target =~ dw _ _ _ _ _ (1 :: _) _ _ _ _ | guard_target =~ dw _ _ _ _ _ (2 :: _) _ _ _ _ | guard_target =~ dw _ _ _ _ _ (3 :: _) _ _ _ _ | guard_target =~ dw _ _ _ _ _ (4 :: _) _ _ _ _ | guard_target =~ dw _ _ _ _ _ (5 :: _) _ _ _ _ | guard_target =~ dw _ _ _ _ _ (6 :: _) _ _ _ _); first | (refine dw_p rfl rfl (h := (fun τ => ro_v rfl (h := ro_end ⟨rfl, rfl⟩))) (hk := ?_)) | (refine dw_c rfl rfl (h := ro_v rfl (h := ro_end ⟨rfl, rfl⟩)) (hk := ?_))) | ((first | guard_target =~ dw _ _ _ _ _ (6 :: _) _ _ _ _ | guard_target =~ dw _ _ _ _ _ (7 :: _) _ _ _ _); first | (refine dw_p rfl rfl (h := (fun τ => ro_s (h := n_call (f := 38) rfl Tryd.call38 (h := AEq.pure' agT (opts_is _ _ aoT) (hq := ro_end ⟨rfl, rfl⟩))))) (hk := ?_))) | ((first | guard_target =~ dw _ _ _ _ _ (7 :: _) _ _ _ _ | guard_target =~ dw _ _ _ _ _ (8 :: _) _ _ _ _); first | (refine dw_w rfl rfl (h := ro_s (h := n_call (f := 37) rfl Tryd.call37 (h := AEq.sub' [_] (hc := encz_no _ _ _ _ _ _ _ _ _ aoT aoT) (hq := ro_end ⟨rfl, rfl⟩)))) (hk := ?_)) | (refine dw_p rfl rfl (h := (fun τ => ro_s (h := n_call (f := 37) rfl Tryd.call37 (h := AEq.pure' agT (enc_nil _ _ _) (hq := ro_end ⟨rfl, rfl⟩))))) (hk := ?_))) | ((first | guard_target =~ dw _ _ _ _ _ (9 :: _) _ _ _ _ | guard_target =~ dw _ _ _ _ _ (10 :: _) _ _ _ _ | guard_target =~ dw _ _ _ _ _ (11 :: _) _ _ _ _); first | (refine dw_p rfl rfl (h := (fun τ => ro_x rfl (h := ro_end ⟨rfl, rfl⟩))) (hk := ?_))) | ((first | guard_target =~ dw _ _ _ _ _ (11 :: _) _ _ _ _ | guard_target =~ dw _ _ _ _ _ (12 :: _) _ _ _ _ | guard_target =~ dw _ _ _ _ _ (13 :: _) _ _ _ _); first | (refine dw_p rfl rfl (h := (fun τ => ro_a rfl (h := ro_end ⟨rfl, rfl⟩))) (hk := ?_))) | (guard_target =~ dw _ _ _ _ _ [] _ _ _ _; first | (refine dw_nil ?_))) | (guard_target =~ (_ ∨ _) ∧ _; first | ((refine end_d [] (by rw [Tryd.results10, Lf.res1]) (ale_1 ?_) ?_) <;> (try (first | exact aleT | exact stq (by with_reducible rfl) | exact stq (by rfl) | exact stq (by simp (disch := omega) only [go_sem, seval, ↓reduceIte, hU]))))) | (refine hK _ _ ?_; clear hK K))
end Go.Proofs.YtohbfcmmpaikhaaDoor

set_option linter.unusedVariables false
set_option linter.unusedSimpArgs false
namespace Go.Proofs.YtohbfcmmpaikhaaDoor
open Go Go.Lf Go.Proofs Go.ChangeShapes Go.WideShapes Go.ChangeAt Go.RowKit
attribute [local irreducible] Lf.rg Lf.ro Lf.PWp Lf.SOp Lf.ACall Lf.Scoped Lf.dg
set_option maxRecDepth 20000
set_option maxHeartbeats 4000000
abbrev laidD : List (String × DataW Unit) := [("stickler/repr.forms", Rows.laid_stickler_repr_forms)]
theorem gForms : Tryd.prog.globalNamed "stickler/repr.forms" = some 0 := by kernel_rfl
theorem tForms : (Tryd.prog.globals[0]?).map (·.type) = some 94 := by kernel_rfl
theorem laid_pair {W : World} {base : Nat} {spare : Nat → Bool} {held : Bool} {n : Nat} {cs : List Value} {a b : Int} {x : DataW Unit × List MemPlace} {enc : TypeId × Value → Unit}
    (h : DataW.trod enc Tryd.prog W base spare held n 93 cs = some x) (hx : x.1 = .agg [.lit (.int .i64 a), .lit (.int .i64 b)]) : cs = [.int .i64 a, .int .i64 b] := by
  obtain ⟨y0, y1, m, rfl, hl, h0, h1⟩ := trod_struct2 Tryd.underlying93 h
  obtain ⟨k0, e0, f0, _⟩ := DataW.trod_int Tryd.underlying3 h0
  obtain ⟨k1, e1, f1, _⟩ := DataW.trod_int Tryd.underlying3 h1
  simp only [DataW.agg.injEq, List.cons.injEq] at hx
  have c3 : Tryd.prog.cellsOf 3 = 1 := ce3
  have c93 : Tryd.prog.cellsOf 93 = 2 := ce93
  rw [c93] at hl
  match cs, hl with
  | [c0, c1], _ =>
    simp [c3] at e0 e1
    rw [f0, f1] at hx
    simp at hx
    obtain ⟨rfl, rfl⟩ := hx
    rw [e0, e1]
theorem take12 {α : Type} (cs : List α) (h : cs.length = 12) : cs = (cs.drop 0).take 2 ++ ((cs.drop 2).take 2 ++ ((cs.drop 4).take 2 ++ ((cs.drop 6).take 2 ++ ((cs.drop 8).take 2 ++ (cs.drop 10).take 2)))) := by
 match cs, h with
 | [a, b, c, d, e, f, g, h, i, j, k, l], _ => rfl
theorem gv_of_laid {W : World} (h : laidMetH Tryd.prog laidD W) : GV [] rz0 W := by
 rw [MakeChecks.laidMetH_plain _ _ _ (by kernel_rfl)] at h
 obtain ⟨ps, ⟨g0, t0, cs0, f0, p0, q0, hg0, ht0, hv0, hd0, _, _⟩, _, _⟩ := h
 obtain rfl := Option.some.inj (gForms.symm.trans hg0)
 obtain rfl := Option.some.inj (tForms.symm.trans ht0)
 obtain ⟨xs, m1, rfl, hx1, hlen, hn6, hel⟩ := DataW.trod_array Tryd.underlying94 hd0
 have c93 : Tryd.prog.cellsOf 93 = 2 := ce93
 have c94 : Tryd.prog.cellsOf 94 = 12 := ce94
 rw [c94] at hlen
 simp only [c93] at hel
 have hcs : cs0.toList = [.int .i64 0, .int .i64 0, .int .i64 128, .int .i64 7, .int .i64 64, .int .i64 6, .int .i64 0, .int .i64 4, .int .i64 16, .int .i64 4, .int .i64 32, .int .i64 5] := by
  match xs, hn6 with
  | [x0, x1, x2, x3, x4, x5], _ =>
   simp only [Prod.mk.injEq, Rows.laid_stickler_repr_forms, List.map_cons, List.map_nil, DataW.agg.injEq, List.cons.injEq, and_true] at hx1
   obtain ⟨⟨y0, y1, y2, y3, y4, y5⟩, _⟩ := hx1
   have e0 := laid_pair (hel 0 (by decide)) y0.symm
   have e1 := laid_pair (hel 1 (by decide)) y1.symm
   have e2 := laid_pair (hel 2 (by decide)) y2.symm
   have e3 := laid_pair (hel 3 (by decide)) y3.symm
   have e4 := laid_pair (hel 4 (by decide)) y4.symm
   have e5 := laid_pair (hel 5 (by decide)) y5.symm
   rw [take12 cs0.toList hlen]
   simp only [Nat.reduceMul] at e0 e1 e2 e3 e4 e5
   rw [e0, e1, e2, e3, e4, e5]
   rfl
 have hc : ∀ i v, cs0.toList[i]? = some v → W.cell? ⟨0, i, none⟩ = some v := by
  intro i v hv
  have := World.var?_cell hg0 hv0 i
  rw [this, ← Array.getElem?_toList]
  exact hv
 intro g
 cases g with
 | succ g => exact trivial
 | zero =>
  show VR [] rz0 W (.ip false _) _
  simp only [VR]
  have h0 := hc 0 (.int .i64 0) (by rw [hcs]; rfl)
  refine ⟨0, 0, rfl, ?_, ?_, ?_⟩
  ·have h1 := h0
   unfold World.cell? at h1
   cases hh : W.heap[0]? with
   | none => simp [hh] at h1
   | some o => exact (Array.getElem?_eq_some_iff.1 hh).1
  ·intro h
   rcases (Bset.mset h) with ⟨o, ob, q, _⟩ | h
   ·simp at q
   ·exact h
  ·simp only [List.map_cons, List.map_nil, PVs, PV]
   repeat' (first | exact trivial | refine ⟨⟨_, hc _ _ (by rw [hcs]; rfl), rfl, rfl⟩, ?_⟩)
end Go.Proofs.YtohbfcmmpaikhaaDoor

set_option linter.unusedVariables false
set_option linter.unusedSimpArgs false
namespace Go.Proofs.YtohbfcmmpaikhaaDoor
open Go Go.Lf Go.Proofs
attribute [local irreducible] Lf.rg Lf.ro Lf.PWp Lf.SOp Lf.ACall Lf.Scoped Lf.dg
set_option maxRecDepth 20000
set_option maxHeartbeats 4000000
theorem vas_map_p {α : Type} {g : α → List AV} {p : α → Prop} : ∀ (ys : List (List AV)), (∀ y ∈ ys, ∃ a, p a ∧ y = g a) → ∃ l : List α, (∀ a ∈ l, p a) ∧ ys = l.map g
 | [], _ => ⟨[], by simp, rfl⟩
 | y :: ys, h => by
  obtain ⟨a, ha, rfl⟩ := h y List.mem_cons_self
  obtain ⟨l, hl, rfl⟩ := vas_map_p ys (fun y hy => h y (List.mem_cons_of_mem _ hy))
  refine ⟨a :: l, ?_, rfl⟩
  intro b hb
  rw [List.mem_cons] at hb
  rcases hb with rfl | hb
  ·exact ha
  ·exact hl b hb
end Go.Proofs.YtohbfcmmpaikhaaDoor

set_option linter.unusedVariables false
set_option linter.unusedSimpArgs false
namespace Go.Proofs.YtohbfcmmpaikhaaDoor
open Go Go.Lf Go.Proofs
attribute [local irreducible] Lf.rg Lf.ro Lf.PWp Lf.SOp Lf.ACall Lf.Scoped Lf.dg
set_option maxRecDepth 20000
set_option maxHeartbeats 4000000
theorem sh_int' {k : Nat} {y : List AV} (h : Sh Tryd.prog (k + 1) 3 y) : ∃ n : Int, y = intA n := by
 simp only [Sh, Tryd.underlying3] at h
 obtain ⟨n, _, e⟩ := h
 exact ⟨n, e⟩
theorem sh_fl {k : Nat} {y : List AV} (h : Sh Tryd.prog (k + 2) 67 y) : ∃ f : Fl, y = flA f := by
 simp only [Sh, Tryd.underlying67, Tryd.underlying9, Tryd.underlying4] at h
 obtain ⟨h1, h2⟩ := h
 have a0 := h2 _ (List.mem_cons_self)
 have a1 := h2 _ (List.mem_cons_of_mem _ (List.mem_cons_self))
 have a2 := h2 _ (List.mem_cons_of_mem _ (List.mem_cons_of_mem _ (List.mem_cons_self)))
 simp only [ce9, ce4, Tryd.underlying9, Tryd.underlying4] at a0 a1 a2 h1
 obtain ⟨l, _, e0⟩ := a0
 obtain ⟨m, _, e1⟩ := a1
 obtain ⟨q, e2⟩ := a2
 rw [ce67] at h1
 refine ⟨⟨l, m, q⟩, ?_⟩
 match y, h1 with
 | [y0, y1, y2], _ =>
  simp at e0 e1 e2
  simp [flA, e0, e1, e2]
theorem sh_op {k : Nat} {y : List AV} (h : Sh Tryd.prog (k + 2) 124 y) : ∃ o : Op4, y = opA o := by
 simp only [Sh, Tryd.underlying124, Tryd.underlying4, Tryd.underlying3] at h
 obtain ⟨h1, h2⟩ := h
 have a0 := h2 _ (List.mem_cons_self)
 have a1 := h2 _ (List.mem_cons_of_mem _ (List.mem_cons_self))
 have a2 := h2 _ (List.mem_cons_of_mem _ (List.mem_cons_of_mem _ (List.mem_cons_self)))
 have a3 := h2 _ (List.mem_cons_of_mem _ (List.mem_cons_of_mem _ (List.mem_cons_of_mem _ (List.mem_cons_self))))
 simp only [ce3, ce4, Tryd.underlying3, Tryd.underlying4] at a0 a1 a2 a3 h1
 obtain ⟨n, _, e0⟩ := a0
 obtain ⟨p, e1⟩ := a1
 obtain ⟨q, e2⟩ := a2
 obtain ⟨r, e3⟩ := a3
 rw [ce124] at h1
 refine ⟨⟨n, p, q, r⟩, ?_⟩
 match y, h1 with
 | [y0, y1, y2, y3], _ =>
  simp at e0 e1 e2 e3
  simp [opA, e0, e1, e2, e3]
theorem sh_wbk {k : Nat} {y : List AV} (h : Sh Tryd.prog (k + 4) 79 y) : ∃ b : WBk, WBSz b ∧ y = ekA b := by
 simp only [Sh, Tryd.underlying79, Tryd.underlying53, Tryd.underlying50, Tryd.underlying77] at h
 obtain ⟨h1, h2⟩ := h
 have a0 := h2 _ (List.mem_cons_self)
 have a1 := h2 _ (List.mem_cons_of_mem _ (List.mem_cons_self))
 have a2 := h2 _ (List.mem_cons_of_mem _ (List.mem_cons_of_mem _ (List.mem_cons_self)))
 simp only [ce53, ce50, ce77, Tryd.underlying53, Tryd.underlying50, Tryd.underlying77] at a0 a1 a2 h1
 obtain ⟨ys0, l0, m0, e0⟩ := a0
 obtain ⟨ys1, l1, m1, e1⟩ := a1
 obtain ⟨ys2, l2, m2, e2⟩ := a2
 obtain ⟨z, rfl⟩ := as_map (g := intA) ys0 (fun y h => sh_int' (k := k + 1) (m0 y h))
 obtain ⟨f, rfl⟩ := as_map (g := flA) ys1 (fun y h => sh_fl (k := k) (m1 y h))
 obtain ⟨o, rfl⟩ := as_map (g := opA) ys2 (fun y h => sh_op (k := k) (m2 y h))
 rw [ce79] at h1
 refine ⟨⟨z, f, o⟩, ⟨by simpa [maxLen] using l0, by simpa [maxLen] using l1, by simpa [maxLen] using l2⟩, ?_⟩
 match y, h1 with
 | [y0, y1, y2], _ =>
  simp at e0 e1 e2
  simp [ekA, e0, e1, e2]
theorem in_wblocks {w : World} {a : Option Addr} {l c k : Nat} (h : ∃ xs, Sh Tryd.prog (k + 5) 72 xs ∧ ((∃ x, xs = [x] ∧ VR [] rz0 w x (.slice a l c)) ∨ VR [] rz0 w (.ag xs) (.slice a l c))) :
    ∃ s : List WBk, s.length ≤ 9223372036854775807 ∧ (∀ b ∈ s, WBSz b) ∧ VR [] rz0 w (.sl false false (s.map ekA)) (.slice a l c) := by
  obtain ⟨ys, h1, h2, h3⟩ := in_sl Tryd.underlying72 h
  obtain ⟨b, hb, rfl⟩ := vas_map_p (g := ekA) (p := WBSz) ys (fun y hy => sh_wbk (k := k) (h2 y hy))
  exact ⟨b, by simpa [maxLen] using h1, hb, h3⟩
theorem in_wblock {w : World} {v : Value} {k : Nat} (h : ∃ xs, Sh Tryd.prog (k + 4) 79 xs ∧ ((∃ x, xs = [x] ∧ VR [] rz0 w x v) ∨ VR [] rz0 w (.ag xs) v)) :
    ∃ b : WBk, WBSz b ∧ VR [] rz0 w (.ag (ekA b)) v := by
  obtain ⟨xs, h1, h2⟩ := h
  obtain ⟨b, hb, rfl⟩ := sh_wbk h1
  rcases h2 with ⟨x, hx, hv⟩ | hv
  · simp [ekA] at hx
  · exact ⟨b, hb, hv⟩
end Go.Proofs.YtohbfcmmpaikhaaDoor

