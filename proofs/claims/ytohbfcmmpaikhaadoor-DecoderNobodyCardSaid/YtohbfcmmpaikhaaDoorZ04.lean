import Derived.Test.YtohbfcmmpaikhaaDoorZ03
import Derived.Test.YtohbfcmmpaikhaaDoorLc
import Derived.Test.YtohbfcmmpaikhaaDoorLb
import Derived.Test.YtohbfcmmpaikhaaDoorTy
import Derived.Test.YtohbfcmmpaikhaaDoorRows
import Derived.ProofKit
import Derived.LaidMore
import Derived.OpenShut
import Derived.Stop.Joined
set_option linter.unusedVariables false
set_option linter.unusedSimpArgs false
namespace Go.Proofs.YtohbfcmmpaikhaaDoor
open Go Go.Lf Go.Proofs
attribute [local irreducible] Lf.rg Lf.ro Lf.PWp Lf.SOp Lf.ACall Lf.Scoped Lf.dg Lf.dw
set_option maxRecDepth 20000
set_option maxHeartbeats 4000000
def rdecR (f1 : Bool) (xs : List Fl) (m : Int) (Q : DQ) (E : Int) : AV := if E = 0 then .tu [.sl false false (Q.F.map flA), .sl false false (Q.S.map intA), .ag [.sl false false (Q.t.xs.reverse.map flA), i64 Q.t.m], i64 0] else .tu [.sl true false [], .sl true false [], .ag [.sl f1 false (xs.reverse.map flA), i64 m], i64 E]
theorem rdecR_ok {f1 : Bool} {xs : List Fl} {m : Int} {Q : DQ} : rdecR f1 xs m Q 0 = .tu [.sl false false (Q.F.map flA), .sl false false (Q.S.map intA), .ag [.sl false false (Q.t.xs.reverse.map flA), i64 Q.t.m], i64 0] := if_pos rfl
theorem rdecR_no {f1 : Bool} {xs : List Fl} {m : Int} {Q : DQ} {E : Int} (h : E ≠ 0) : rdecR f1 xs m Q E = .tu [.sl true false [], .sl true false [], .ag [.sl f1 false (xs.reverse.map flA), i64 m], i64 E] := if_neg h
attribute [local irreducible] wt sumW keptL flN addX stAt oneFl snI snF dAt xsE rgM decM xs0 ss0 dStep fG fV addT rdecR addL fitN
set_option maxRecDepth 20000 in
theorem rdec_all_r (f1 : Bool) (f q : Bool) (b : List UInt8) (xs : List Fl) (s : Nat) (m : Int) (hb : b.length ≤ 50000) (hx : xs.length ≤ 30000) (hS : sumW xs ≤ m) (hm0 : 0 ≤ m) (hm1 : m ≤ 2147483647) (hbb : ∀ f ∈ xs, f.n.size ≤ 1000000 ∧ f.v.size ≤ 1000000) (Q : DQ) (E : Int) (htot : decM b.length b ⟨xs0, ss0, ⟨xs, s, m⟩⟩ = (Q, E)) : AEq Tryd.prog 26 [.ag [.sl f1 false (xs.reverse.map flA), i64 m], .sl f q (b.map byteA)] [] (rdecR f1 xs m Q E) [] := by
  have hx0 := xs0_len
  have hs0 := ss0_len
  refine acall_body Tryd.func26 rfl Tryd.ntmps26 (by simp) (fun hsc => ?_); simp only [Lf.enter, Nat.reduceAdd]; clear hsc
  have hU := True.intro
  repeat' (first | (guard_target =~ PWp _ _ _ _ _ _ _; first | (refine pwp_seq_k (fun K hK => ?_)) | (refine pwp_block ?_) | (refine pwp_rg_then ?_)) | (guard_target =~ rg _ _ _ _ _ _ _; first | (guard_target =~ rg _ _ _ [] _ _ _; first | (refine rg_end ?_)) | (refine rg_a rfl (h := ?_)) | (refine rg_v rfl (h := ?_)) | (refine rg_s rfl ?_) | (refine rg_n rfl ?_)) | (guard_target =~ SOp _ _ _ _ _ _; first | (guard_target =~ SOp _ _ ⟨_, .store _ _ _, _, _, _, none⟩ _ _ _; first | (refine n_store rfl (hK := ?_))) | (guard_target =~ SOp _ _ ⟨_, .alloc _, _, _, _, none⟩ _ _ _; first | (refine n_alloc rfl (by first | exact zv3 | exact zv4 | exact zv5 | exact zv9 | exact zv22 | exact zv28 | exact zv32 | exact zv50 | exact zv52 | exact zv53 | exact zv67 | fail) (hK := ?_))) | (guard_target =~ SOp _ _ ⟨_, .box _ _, _, _, _, none⟩ _ _ _; first | (refine n_box rfl (hK := ?_)))) | (refine hK _ _ ?_; clear hK K))
  refine pwp_row 8 67 3 (by decide) (by rfl) rfl rfl ?_
  refine pwp_row 9 3 1 (by decide) (by rfl) rfl rfl ?_
  refine pwp_loop_k [1, 4, 5, 7, 8, 9, 11, 12, 13, 14, 15, 16, 18, 19, 20, 21, 22, 23, 24, 25, 26, 27, 28, 29, 30, 31, 32, 33, 34, 35, 36, 37, 38, 39, 40, 41, 42, 43, 44, 45, 46, 47, 48, 49, 50, 51, 52, 53, 54, 55, 56, 57, 58, 59, 60, 61, 62, 63, 64, 65, 66, 67, 68, 69, 70, 71, 72, 73, 74, 75, 76, 77, 78, 79, 80, 81, 82, 83, 84, 85, 86] (fun w : DW × Bool => [(1, .sl false q (w.1.b.map byteA)), (8, .row 3 w.1.a), (9, .row 4 w.1.c)]) (fun w => [.box [.sl f1 false (xs.reverse.map flA), i64 m], .box [.sl true false [], i64 0], .box [.sl w.2 false (w.1.q.t.xs.reverse.map flA), i64 w.1.q.t.m], .row w.1.a 67 3 (w.1.q.F.map flA), .row w.1.c 3 1 (w.1.q.S.map intA)]) (fun w => DOk w.1 ∧ decM w.1.n w.1.b w.1.q = (Q, E)) (fun w => w.1.b.length) (⟨b, b.length, 0, 0, ⟨xs0, ss0, ⟨xs, s, m⟩⟩⟩, f1) ⟨⟨Nat.le_refl _, hb, by dsimp only; omega, hS, hm0, hm1, hbb, by dsimp only; omega, by dsimp only; omega⟩, htot⟩ ?_ (by dsimp only; rw [xs0_map, ss0_map]; rfl) ?_
  · dsimp only
    (refine ⟨⟨_, sT, ?_⟩, ⟨_, sT, ?_⟩, ⟨_, sT, ?_⟩, trivial⟩ <;> (try (first | exact aleT)))
  · rintro ⟨⟨b, n, a, c, ⟨F, S, ⟨xt, st, mt⟩⟩⟩, fl⟩ ⟨⟨hbn, hbN, hxN, hSt, hmt0, hmt1, hbt, hFN, hSN⟩, htt⟩
    dsimp only at hbn hbN hxN hSt hmt0 hmt1 hbt hFN hSN htt ⊢
    simp only [mask, List.map_cons, List.map_nil, List.cons_append, List.nil_append]
    by_cases hlt : b.length = 0
    · rw [decM_nil hlt] at htt
      obtain ⟨rfl, rfl⟩ : (⟨F, S, ⟨xt, st, mt⟩⟩ : DQ) = Q ∧ 0 = E := by simpa only [Prod.mk.injEq] using htt
      try dsimp only
      refine pwp_wk (wk_box 2 [.sl false false (xt.reverse.map flA), i64 mt] rfl rfl (fun ρ w vs h => sl_weak ρ w vs h)) ?_
      dsimp only [List.set]
      repeat' (first | (guard_target =~ PWp _ _ _ _ _ _ _; first | (refine pwp_draw_ord (id := 26) [0, 1, 2, 3, 4, 5, 6] [5] mixed (by kernel_rfl) (by kernel_rfl) ?_) | (refine pwp_seq_k (fun K hK => ?_)) | (refine pwp_rg_then ?_) | (refine pwp_ret ?_) | (refine pwp_exit ?_) | ((refine pwp_cond_d (fun hcd => ?_) (fun hcd => ?_)) <;> (try simp only [hcP] at hcd) <;> (try exact cdT))) | (guard_target =~ rg _ _ _ _ _ _ _; first | (guard_target =~ rg _ _ _ [] _ _ _; first | (refine rg_end ?_)) | (refine rg_v rfl (h := ?_))) | (guard_target =~ dw _ _ _ _ _ _ _ _ _ _; first | ((first | guard_target =~ dw _ _ _ _ _ (0 :: _) _ _ _ _ | guard_target =~ dw _ _ _ _ _ (2 :: _) _ _ _ _); first | (refine dw_p rfl rfl (h := (fun τ => ro_v rfl (h := ro_end ⟨rfl, rfl⟩))) (hk := ?_)) | (refine dw_c rfl rfl (h := ro_v rfl (h := ro_end ⟨rfl, rfl⟩)) (hk := ?_))) | ((first | guard_target =~ dw _ _ _ _ _ (0 :: _) _ _ _ _ | guard_target =~ dw _ _ _ _ _ (1 :: _) _ _ _ _); first | (refine dw_p rfl rfl (h := (fun τ => ro_v rfl (h := ro_end ⟨rfl, rfl⟩))) (hk := ?_)) | (refine dw_c rfl rfl (h := ro_v rfl (h := ro_end ⟨rfl, rfl⟩)) (hk := ?_))) | ((first | guard_target =~ dw _ _ _ _ _ (1 :: _) _ _ _ _ | guard_target =~ dw _ _ _ _ _ (2 :: _) _ _ _ _ | guard_target =~ dw _ _ _ _ _ (3 :: _) _ _ _ _ | guard_target =~ dw _ _ _ _ _ (4 :: _) _ _ _ _ | guard_target =~ dw _ _ _ _ _ (5 :: _) _ _ _ _ | guard_target =~ dw _ _ _ _ _ (6 :: _) _ _ _ _); first | (refine dw_p rfl rfl (h := (fun τ => ro_a rfl (h := ro_end ⟨rfl, rfl⟩))) (hk := ?_))) | ((first | guard_target =~ dw _ _ _ _ _ (3 :: _) _ _ _ _ | guard_target =~ dw _ _ _ _ _ (4 :: _) _ _ _ _ | guard_target =~ dw _ _ _ _ _ (5 :: _) _ _ _ _); first | (refine dw_wn rfl rfl (h := ro_n (h := n_store rfl (hK := ro_end ⟨rfl, rfl⟩))) (hk := ?_))) | (guard_target =~ dw _ _ _ _ _ [] _ _ _ _; first | (refine dw_nil ?_))) | (guard_target =~ (_ ∨ _) ∧ _; first | (rw [rdecR_ok]) | ((refine end_q [] (by first | exact .inr rfl | exact .inl rfl | fail) (by rfl) (by rw [Tryd.results26]; exact Lf.resM4 (by (try simp (disch := omega) only [Lf.resOne, go_sem, seval, ↓reduceIte, hU]); rfl) (by (try simp (disch := omega) only [Lf.resOne, go_sem, seval, ↓reduceIte, hU]); rfl) (by (try simp (disch := omega) only [Lf.resOne, go_sem, seval, ↓reduceIte, hU]); rfl) (by (try simp (disch := omega) only [Lf.resOne, go_sem, seval, ↓reduceIte, hU]); rfl)) sT sT (ale_4 ?_ ?_ ?_ ?_) ?_) <;> (try (first | exact aleT | exact stq (by with_reducible rfl) | exact stq (by rfl) | exact stq (by simp (disch := omega) only [go_sem, seval, ↓reduceIte, hU]))))) | (refine hK _ _ ?_; clear hK K) | (apply_assumption (exfalso := false) (symm := false)))
    obtain ⟨n', rfl⟩ : ∃ j, n = j + 1 := ⟨n - 1, by omega⟩
    have hrr := rg_right b
    have hrl := rg_len b
    obtain ⟨K, I, NM, NS, VL, VS, SZ, M, e1, hR⟩ : ∃ K I NM NS VL VS SZ M e, rgM b = ⟨K, I, NM, NS, VL, VS, SZ, M, e⟩ := ⟨_, _, _, _, _, _, _, _, _, rfl⟩
    by_cases he0 : e1 ≠ 0
    · have hee : (rgM b).e ≠ 0 := by rw [hR]; exact he0
      rw [decM_e hlt hee, hR] at htt
      obtain ⟨rfl, rfl⟩ : (⟨F, S, ⟨xt, st, mt⟩⟩ : DQ) = Q ∧ e1 = E := by simpa only [Prod.mk.injEq] using htt
      have hU := @hR
      repeat' (first | (guard_target =~ PWp _ _ _ _ _ _ _; first | (refine pwp_draw_ord (id := 7) [0, 2, 3, 4, 1, 5] [4] mixed (by kernel_rfl) (by kernel_rfl) ?_) | (refine pwp_seq_k (fun K hK => ?_)) | (refine pwp_block ?_) | (refine pwp_rg_then ?_) | (refine pwp_ret ?_) | (refine pwp_skip ?_) | ((refine pwp_cond_d (fun hcd => ?_) (fun hcd => ?_)) <;> (try simp only [hcP] at hcd) <;> (try exact cdT))) | (guard_target =~ rg _ _ _ _ _ _ _; first | (guard_target =~ rg _ _ _ [] _ _ _; first | (refine rg_end ?_)) | (refine rg_a rfl (h := ?_)) | (refine rg_x rfl (hy := rfl) (h := ?_)) | (refine rg_v rfl (h := ?_)) | (refine rg_s rfl ?_) | (refine rg_n rfl ?_)) | (guard_target =~ SOp _ _ _ _ _ _; first | (guard_target =~ SOp _ _ ⟨_, .store _ _ _, _, _, _, none⟩ _ _ _; first | (refine n_store rfl (hK := ?_))) | (guard_target =~ SOp _ _ ⟨_, .alloc _, _, _, _, none⟩ _ _ _; first | (refine n_alloc rfl (by first | exact zv3 | exact zv4 | exact zv5 | exact zv9 | exact zv22 | exact zv28 | exact zv32 | exact zv50 | exact zv52 | exact zv53 | exact zv67 | fail) (hK := ?_))) | (guard_target =~ SOp _ _ ⟨_, .call ⟨.value (.func 14), _, _⟩, _, _, _, none⟩ _ _ _; first | (refine n_call (f := 14) rfl Tryd.call14 (h := AEq.pure' agT (rrget _ _ _ (by omega)) (hq := ?_))))) | (guard_target =~ dw _ _ _ _ _ _ _ _ _ _; first | ((first | guard_target =~ dw _ _ _ _ _ (0 :: _) _ _ _ _ | guard_target =~ dw _ _ _ _ _ (2 :: _) _ _ _ _); first | (refine dw_p rfl rfl (h := (fun τ => ro_v rfl (h := ro_end ⟨rfl, rfl⟩))) (hk := ?_)) | (refine dw_c rfl rfl (h := ro_v rfl (h := ro_end ⟨rfl, rfl⟩)) (hk := ?_))) | ((first | guard_target =~ dw _ _ _ _ _ (0 :: _) _ _ _ _ | guard_target =~ dw _ _ _ _ _ (1 :: _) _ _ _ _); first | (refine dw_p rfl rfl (h := (fun τ => ro_v rfl (h := ro_end ⟨rfl, rfl⟩))) (hk := ?_)) | (refine dw_c rfl rfl (h := ro_v rfl (h := ro_end ⟨rfl, rfl⟩)) (hk := ?_))) | ((first | guard_target =~ dw _ _ _ _ _ (1 :: _) _ _ _ _ | guard_target =~ dw _ _ _ _ _ (2 :: _) _ _ _ _ | guard_target =~ dw _ _ _ _ _ (3 :: _) _ _ _ _ | guard_target =~ dw _ _ _ _ _ (4 :: _) _ _ _ _ | guard_target =~ dw _ _ _ _ _ (5 :: _) _ _ _ _ | guard_target =~ dw _ _ _ _ _ (6 :: _) _ _ _ _); first | (refine dw_p rfl rfl (h := (fun τ => ro_a rfl (h := ro_end ⟨rfl, rfl⟩))) (hk := ?_))) | ((first | guard_target =~ dw _ _ _ _ _ (3 :: _) _ _ _ _ | guard_target =~ dw _ _ _ _ _ (4 :: _) _ _ _ _ | guard_target =~ dw _ _ _ _ _ (5 :: _) _ _ _ _); first | (refine dw_wn rfl rfl (h := ro_n (h := n_store rfl (hK := ro_end ⟨rfl, rfl⟩))) (hk := ?_))) | (guard_target =~ dw _ _ _ _ _ [] _ _ _ _; first | (refine dw_nil ?_))) | (guard_target =~ (_ ∨ _) ∧ _; first | (rw [rdecR_no he0]) | ((refine end_q [] (by first | exact .inr rfl | exact .inl rfl | fail) (by rfl) (by rw [Tryd.results26]; exact Lf.resM4 (by (try simp (disch := omega) only [Lf.resOne, go_sem, seval, ↓reduceIte, hU]); rfl) (by (try simp (disch := omega) only [Lf.resOne, go_sem, seval, ↓reduceIte, hU]); rfl) (by (try simp (disch := omega) only [Lf.resOne, go_sem, seval, ↓reduceIte, hU]); rfl) (by (try simp (disch := omega) only [Lf.resOne, go_sem, seval, ↓reduceIte, hU]); rfl)) sT sT (ale_4 ?_ ?_ ?_ ?_) ?_) <;> (try (first | exact aleT | exact stq (by with_reducible rfl) | exact stq (by rfl) | exact stq (by simp (disch := omega) only [go_sem, seval, ↓reduceIte, hU]))))) | (refine hK _ _ ?_; clear hK K))
    obtain rfl : e1 = 0 := by omega
    have he : (rgM b).e = 0 := by rw [hR]
    rcases hrr with ⟨h, _⟩ | ⟨_, hP, hM0, hM1⟩
    · exact absurd he h
    rw [hR] at hP hM0 hM1 hrl
    dsimp only at hP hM0 hM1 hrl
    obtain ⟨a1, rfl⟩ : ∃ j : Nat, M = j := ⟨M.toNat, by omega⟩
    have hM : (rgM b).n = (a1 : Int) := by rw [hR]
    have hdl : (b.drop a1).length = b.length - a1 := List.length_drop
    have hnz := asz NM
    have hvz := asz VL
    have hNMs : (⟨NM.toArray⟩ : ByteArray).size ≤ 1000000 := by omega
    have hVLs : (⟨VL.toArray⟩ : ByteArray).size ≤ 1000000 := by omega
    have hKb : 1 ≤ K ∧ K ≤ 5 := hP.1
    have hIb : 0 ≤ I ∧ I ≤ 2147483647 := hP.2.1
    have hZb : 0 ≤ SZ ∧ SZ ≤ 2147483647 := hP.2.2.1
    have hrl : xt.reverse.length = xt.length := List.length_reverse
    have hrS : sumW xt.reverse ≤ 4000000000 := by rw [sumW_rev]; omega
    have hrb : ∀ f ∈ xt.reverse, f.n.size ≤ 1000000000 ∧ f.v.size ≤ 1000000000 := fun f hf => by have := hbt f (List.mem_reverse.1 hf); omega
    have hkf : List.take (fitN xt.reverse 0 SZ) xt.reverse = (keptL xt SZ).reverse := (kept_fit SZ xt).symm
    by_cases h5 : K = 5
    · subst h5
      by_cases hF0 : 0 < F.length
      · have hs := dStep_upd (Fs := F) (S := S) (t := ⟨xt, st, mt⟩) (r := rgM b) (by rw [hR]) hF0
        rw [decM_s hlt he hs (by decide)] at htt
        have h13 : (13 : Int) ≠ 0 := by decide
        obtain ⟨rfl, rfl⟩ : (⟨F, S, ⟨xt, st, mt⟩⟩ : DQ) = Q ∧ 13 = E := by simpa only [Prod.mk.injEq] using htt
        have hU := @hR
        repeat' (first | (guard_target =~ PWp _ _ _ _ _ _ _; first | (refine pwp_draw_ord (id := 11) [0, 1, 2, 3, 4] [3] mixed (by kernel_rfl) (by kernel_rfl) ?_) | (refine pwp_seq_k (fun K hK => ?_)) | (refine pwp_block ?_) | (refine pwp_rg_then ?_) | (refine pwp_ret ?_) | (refine pwp_skip ?_) | ((refine pwp_cond_d (fun hcd => ?_) (fun hcd => ?_)) <;> (try simp only [hcP] at hcd) <;> (try exact cdT))) | (guard_target =~ rg _ _ _ _ _ _ _; first | (guard_target =~ rg _ _ _ [] _ _ _; first | (refine rg_end ?_)) | (refine rg_a rfl (h := ?_)) | (refine rg_x rfl (hy := rfl) (h := ?_)) | (refine rg_v rfl (h := ?_)) | (refine rg_s rfl ?_) | (refine rg_n rfl ?_)) | (guard_target =~ SOp _ _ _ _ _ _; first | (guard_target =~ SOp _ _ ⟨_, .store _ _ _, _, _, _, none⟩ _ _ _; first | (refine n_store rfl (hK := ?_))) | (guard_target =~ SOp _ _ ⟨_, .alloc _, _, _, _, none⟩ _ _ _; first | (refine n_alloc rfl (by first | exact zv3 | exact zv4 | exact zv5 | exact zv9 | exact zv22 | exact zv28 | exact zv32 | exact zv50 | exact zv52 | exact zv53 | exact zv67 | fail) (hK := ?_))) | (guard_target =~ SOp _ _ ⟨_, .slice _ _ _ _ _, _, _, _, none⟩ _ _ _; first | (refine n_slice rfl (hg := (fun _ => (by simp only [go_sem, seval, ↓reduceIte, hU] <;> rfl))) (hK := ?_))) | (guard_target =~ SOp _ _ ⟨_, .call ⟨.value (.func 14), _, _⟩, _, _, _, none⟩ _ _ _; first | (refine n_call (f := 14) rfl Tryd.call14 (h := AEq.pure' agT (rrget _ _ _ (by omega)) (hq := ?_))))) | (guard_target =~ dw _ _ _ _ _ _ _ _ _ _; first | ((first | guard_target =~ dw _ _ _ _ _ (0 :: _) _ _ _ _ | guard_target =~ dw _ _ _ _ _ (2 :: _) _ _ _ _); first | (refine dw_c rfl rfl (h := ro_v rfl (h := ro_end ⟨rfl, rfl⟩)) (hk := ?_))) | ((first | guard_target =~ dw _ _ _ _ _ (0 :: _) _ _ _ _ | guard_target =~ dw _ _ _ _ _ (1 :: _) _ _ _ _); first | (refine dw_c rfl rfl (h := ro_v rfl (h := ro_end ⟨rfl, rfl⟩)) (hk := ?_))) | ((first | guard_target =~ dw _ _ _ _ _ (1 :: _) _ _ _ _ | guard_target =~ dw _ _ _ _ _ (2 :: _) _ _ _ _ | guard_target =~ dw _ _ _ _ _ (3 :: _) _ _ _ _ | guard_target =~ dw _ _ _ _ _ (4 :: _) _ _ _ _ | guard_target =~ dw _ _ _ _ _ (5 :: _) _ _ _ _ | guard_target =~ dw _ _ _ _ _ (6 :: _) _ _ _ _); first | (refine dw_p rfl rfl (h := (fun τ => ro_a rfl (h := ro_end ⟨rfl, rfl⟩))) (hk := ?_))) | ((first | guard_target =~ dw _ _ _ _ _ (3 :: _) _ _ _ _ | guard_target =~ dw _ _ _ _ _ (4 :: _) _ _ _ _ | guard_target =~ dw _ _ _ _ _ (5 :: _) _ _ _ _); first | (refine dw_wn rfl rfl (h := ro_n (h := n_store rfl (hK := ro_end ⟨rfl, rfl⟩))) (hk := ?_))) | (guard_target =~ dw _ _ _ _ _ [] _ _ _ _; first | (refine dw_nil ?_))) | (guard_target =~ (_ ∨ _) ∧ _; first | (rw [rdecR_no h13]) | ((refine end_q [] (by first | exact .inr rfl | exact .inl rfl | fail) (by rfl) (by rw [Tryd.results26]; exact Lf.resM4 (by (try simp (disch := omega) only [Lf.resOne, go_sem, seval, ↓reduceIte, hU]); rfl) (by (try simp (disch := omega) only [Lf.resOne, go_sem, seval, ↓reduceIte, hU]); rfl) (by (try simp (disch := omega) only [Lf.resOne, go_sem, seval, ↓reduceIte, hU]); rfl) (by (try simp (disch := omega) only [Lf.resOne, go_sem, seval, ↓reduceIte, hU]); rfl)) sT sT (ale_4 ?_ ?_ ?_ ?_) ?_) <;> (try (first | exact aleT | exact stq (by with_reducible rfl) | exact stq (by rfl) | exact stq (by simp (disch := omega) only [go_sem, seval, ↓reduceIte, hU]))))) | (refine hK _ _ ?_; clear hK K))
      have hs := dStep_res (Fs := F) (S := S) (t := ⟨xt, st, mt⟩) (r := rgM b) (by rw [hR]) hF0
      rw [hR] at hs
      dsimp only at hs
      have hkl := keptL_len SZ xt
      have hks := keptL_sum SZ hZb.1 xt
      have hsl := snI_len S SZ
      have hF00 : F.length = 0 := by omega
      have hap := (snI_map S SZ).symm
      have hSt2 : sumW xt ≤ 2147483647 := by omega
      have hs' : dStep ⟨F, S, ⟨xt, st, mt⟩⟩ (rgM b) = (⟨F, snI S SZ, ⟨keptL xt SZ, st + 1, SZ⟩⟩, 0) := by rw [hR]; exact hs
      have hU := And.intro @hR ( And.intro @hkf (@hap))
      repeat' (first | (guard_target =~ PWp _ _ _ _ _ _ _; first | (refine pwp_seq_k (fun K hK => ?_)) | (refine pwp_block ?_) | (refine pwp_rg_then ?_) | (refine pwp_skip ?_) | (refine pwp_exit ?_) | ((refine pwp_cond_d (fun hcd => ?_) (fun hcd => ?_)) <;> (try simp only [hcP] at hcd) <;> (try exact cdT))) | (guard_target =~ rg _ _ _ _ _ _ _; first | (guard_target =~ rg _ _ _ [] _ _ _; first | (refine rg_end ?_)) | (refine rg_a rfl (h := ?_)) | (refine rg_x rfl (hy := rfl) (h := ?_)) | (refine rg_v rfl (h := ?_)) | (refine rg_s rfl ?_) | (refine rg_n rfl ?_)) | (guard_target =~ SOp _ _ _ _ _ _; first | (guard_target =~ SOp _ _ ⟨_, .store _ _ _, _, _, _, none⟩ _ _ _; first | (refine n_store rfl (hK := ?_))) | (guard_target =~ SOp _ _ ⟨_, .alloc _, _, _, _, none⟩ _ _ _; first | (refine n_alloc rfl (by first | exact zv3 | exact zv4 | exact zv5 | exact zv9 | exact zv22 | exact zv28 | exact zv32 | exact zv50 | exact zv52 | exact zv53 | exact zv67 | fail) (hK := ?_))) | (guard_target =~ SOp _ _ ⟨_, .call ⟨.builtin .append, _, _⟩, _, _, _, none⟩ _ _ _; first | (refine n_append_row rfl (he := by first | exact eo3 | exact eo4 | exact eo5 | exact eo9 | exact eo22 | exact eo28 | exact eo32 | exact eo50 | exact eo52 | exact eo53 | exact eo67 | fail) (hK := ?_))) | (guard_target =~ SOp _ _ ⟨_, .buildSlice _ _ _, _, _, _, none⟩ _ _ _; first | (refine n_lit rfl (he := by first | exact eo3 | exact eo4 | exact eo5 | exact eo9 | exact eo22 | exact eo28 | exact eo32 | exact eo50 | exact eo52 | exact eo53 | exact eo67 | fail) (hK := ?_))) | (guard_target =~ SOp _ _ ⟨_, .slice _ _ _ _ _, _, _, _, none⟩ _ _ _; first | (refine n_slice rfl (hg := (fun _ => (by simp only [go_sem, seval, ↓reduceIte, hU] <;> rfl))) (hK := ?_))) | (guard_target =~ SOp _ _ ⟨_, .call ⟨.value (.func 14), _, _⟩, _, _, _, none⟩ _ _ _; first | (refine n_call (f := 14) rfl Tryd.call14 (h := AEq.pure' agT (rrget _ _ _ aoT) (hq := ?_)))) | (guard_target =~ SOp _ _ ⟨_, .call ⟨.value (.func 59), _, _⟩, _, _, _, none⟩ _ _ _; first | (refine n_call (f := 59) rfl Tryd.call59 (h := AEq.pure' agT (r_res _ _ _ _ aoT aoT aoT) (hq := ?_))))) | (refine hK _ _ ?_; clear hK K) | (dsimp only [Lf.thenQ, Lf.blockQ]) | (rw [if_pos rfl]))
      refine ⟨(⟨b.drop a1, n', a, c + 1, ⟨F, snI S SZ, ⟨keptL xt SZ, st + 1, SZ⟩⟩⟩, false), [0, 1, 2, 3, 4], ⟨⟨by dsimp only; omega, by dsimp only; omega, by dsimp only; omega, hks, hZb.1, hZb.2, fun f hf => hbt f (keptL_mem _ _ f hf), by dsimp only; omega, by dsimp only; omega⟩, ?_⟩, ?_, rfl, ?_, (by repeat' (first | exact agr_refl | refine agr_cons (by rfl) ?_)), ?_⟩
      · (rw [← htt]; exact (decM_r hlt he hM hs').symm)
      · dsimp only; omega
      · dsimp only
        have hU := True.intro
        (refine ⟨⟨_, sT, ?_⟩, ⟨_, sT, ?_⟩, ⟨_, sT, ?_⟩, trivial⟩ <;> (try (first | exact aleT)))
      · dsimp only
        first | rfl | (simp (disch := omega) only [go_sem, seval, ↓reduceIte]; done) | (simp (disch := omega) only [go_sem, seval, ↓reduceIte]; rfl) | trace_state
    have hSt2 : sumW xt ≤ 2147483647 := by omega
    have hxt9 : xt.length ≤ 90000 := by omega
    cases hg : fG xt (rgM b) with
    | none =>
      have hs := dStep_no (Fs := F) (S := S) (t := ⟨xt, st, mt⟩) (r := rgM b) (by rw [hR]; exact h5) hg
      rw [decM_s hlt he hs (by decide)] at htt
      by_cases hI0 : I = 0
      · rw [fG_0 (by rw [hR]; exact hI0)] at hg; exact absurd hg (by simp)
      rw [fG_i (by rw [hR]; exact hI0), hR] at hg
      dsimp only at hg
      have h12 : (12 : Int) ≠ 0 := by decide
      obtain ⟨rfl, rfl⟩ : (⟨F, S, ⟨xt, st, mt⟩⟩ : DQ) = Q ∧ 12 = E := by simpa only [Prod.mk.injEq] using htt
      have hU := @hR
      repeat' (first | (guard_target =~ PWp _ _ _ _ _ _ _; first | (refine pwp_draw_ord (id := 18) [0, 1, 2, 3, 4] [3] mixed (by kernel_rfl) (by kernel_rfl) ?_) | (refine pwp_seq_k (fun K hK => ?_)) | (refine pwp_block ?_) | (refine pwp_rg_then ?_) | (refine pwp_ret ?_) | (refine pwp_skip ?_) | ((refine pwp_cond_d (fun hcd => ?_) (fun hcd => ?_)) <;> (try simp only [hcP] at hcd) <;> (try exact cdT))) | (guard_target =~ rg _ _ _ _ _ _ _; first | (guard_target =~ rg _ _ _ [] _ _ _; first | (refine rg_end ?_)) | (refine rg_a rfl (h := ?_)) | (refine rg_x rfl (hy := rfl) (h := ?_)) | (refine rg_v rfl (h := ?_)) | (refine rg_s rfl ?_) | (refine rg_n rfl ?_)) | (guard_target =~ SOp _ _ _ _ _ _; first | (guard_target =~ SOp _ _ ⟨_, .store _ _ _, _, _, _, none⟩ _ _ _; first | (refine n_store rfl (hK := ?_))) | (guard_target =~ SOp _ _ ⟨_, .alloc _, _, _, _, none⟩ _ _ _; first | (refine n_alloc rfl (by first | exact zv3 | exact zv4 | exact zv5 | exact zv9 | exact zv22 | exact zv28 | exact zv32 | exact zv50 | exact zv52 | exact zv53 | exact zv67 | fail) (hK := ?_))) | (guard_target =~ SOp _ _ ⟨_, .slice _ _ _ _ _, _, _, _, none⟩ _ _ _; first | (refine n_slice rfl (hg := (fun _ => (by simp only [go_sem, seval, ↓reduceIte, hU] <;> rfl))) (hK := ?_))) | (guard_target =~ SOp _ _ ⟨_, .build _ _, _, _, _, none⟩ _ _ _; first | (refine n_build rfl (by first | exact bd32 | exact bd52 | exact bd67 | fail) (hK := ?_))) | (guard_target =~ SOp _ _ ⟨_, .call ⟨.value (.func 14), _, _⟩, _, _, _, none⟩ _ _ _; first | (refine n_call (f := 14) rfl Tryd.call14 (h := AEq.pure' agT (rrget _ _ _ aoT) (hq := ?_)))) | (guard_target =~ SOp _ _ ⟨_, .call ⟨.value (.func 60), _, _⟩, _, _, _, none⟩ _ _ _; first | (refine n_call (f := 60) rfl Tryd.call60 (h := AEq.pure' agT (rat_no _ _ _ _ aoT aoT aoT aoT) (hq := ?_))))) | (guard_target =~ dw _ _ _ _ _ _ _ _ _ _; first | ((first | guard_target =~ dw _ _ _ _ _ (0 :: _) _ _ _ _ | guard_target =~ dw _ _ _ _ _ (2 :: _) _ _ _ _); first | (refine dw_c rfl rfl (h := ro_v rfl (h := ro_end ⟨rfl, rfl⟩)) (hk := ?_))) | ((first | guard_target =~ dw _ _ _ _ _ (0 :: _) _ _ _ _ | guard_target =~ dw _ _ _ _ _ (1 :: _) _ _ _ _); first | (refine dw_c rfl rfl (h := ro_v rfl (h := ro_end ⟨rfl, rfl⟩)) (hk := ?_))) | ((first | guard_target =~ dw _ _ _ _ _ (1 :: _) _ _ _ _ | guard_target =~ dw _ _ _ _ _ (2 :: _) _ _ _ _ | guard_target =~ dw _ _ _ _ _ (3 :: _) _ _ _ _ | guard_target =~ dw _ _ _ _ _ (4 :: _) _ _ _ _ | guard_target =~ dw _ _ _ _ _ (5 :: _) _ _ _ _ | guard_target =~ dw _ _ _ _ _ (6 :: _) _ _ _ _); first | (refine dw_p rfl rfl (h := (fun τ => ro_a rfl (h := ro_end ⟨rfl, rfl⟩))) (hk := ?_))) | ((first | guard_target =~ dw _ _ _ _ _ (3 :: _) _ _ _ _ | guard_target =~ dw _ _ _ _ _ (4 :: _) _ _ _ _ | guard_target =~ dw _ _ _ _ _ (5 :: _) _ _ _ _); first | (refine dw_wn rfl rfl (h := ro_n (h := n_store rfl (hK := ro_end ⟨rfl, rfl⟩))) (hk := ?_))) | (guard_target =~ dw _ _ _ _ _ [] _ _ _ _; first | (refine dw_nil ?_))) | (guard_target =~ (_ ∨ _) ∧ _; first | (rw [rdecR_no h12]) | ((refine end_q [] (by first | exact .inr rfl | exact .inl rfl | fail) (by rfl) (by rw [Tryd.results26]; exact Lf.resM4 (by (try simp (disch := omega) only [Lf.resOne, go_sem, seval, ↓reduceIte, hU]); rfl) (by (try simp (disch := omega) only [Lf.resOne, go_sem, seval, ↓reduceIte, hU]); rfl) (by (try simp (disch := omega) only [Lf.resOne, go_sem, seval, ↓reduceIte, hU]); rfl) (by (try simp (disch := omega) only [Lf.resOne, go_sem, seval, ↓reduceIte, hU]); rfl)) sT sT (ale_4 ?_ ?_ ?_ ?_) ?_) <;> (try (first | exact aleT | exact stq (by with_reducible rfl) | exact stq (by rfl) | exact stq (by simp (disch := omega) only [go_sem, seval, ↓reduceIte, hU]))))) | (refine hK _ _ ?_; clear hK K))
    | some g =>
      have hbase : (0 < I ∧ dAt xt I = some g) ∨ (I = 0 ∧ g = ⟨⟨NM.toArray⟩, ⟨#[]⟩, false⟩) := by
        by_cases hI0 : I = 0
        · rw [fG_0 (by rw [hR]; exact hI0), hR] at hg
          exact .inr ⟨hI0, (Option.some.inj hg).symm⟩
        · rw [fG_i (by rw [hR]; exact hI0), hR] at hg
          exact .inl ⟨by omega, hg⟩
      have hgs : g.n.size ≤ 1000000 ∧ g.v.size ≤ 1000000 := by
        rcases hbase with ⟨_, h⟩ | ⟨_, rfl⟩
        · exact dAt_size hbt h
        · exact ⟨hNMs, by show (0 : Nat) ≤ _; omega⟩
      obtain ⟨hgs1, hgs2⟩ := hgs
      obtain ⟨fv, hfv⟩ : ∃ x, fV (rgM b) g = x := ⟨_, rfl⟩
      have hfz : fv.n.size ≤ 1000000 ∧ fv.v.size ≤ 1000000 := by rw [← hfv]; exact fV_size (by rw [hR]; dsimp only; omega) hgs1 hgs2
      have hsn := snF_len F fv
      have hk5 : (rgM b).k ≠ 5 := by rw [hR]; exact h5
      by_cases hk2 : K = 2
      · have hs := dStep_2 (Fs := F) (S := S) (t := ⟨xt, st, mt⟩) (r := rgM b) (by rw [hR]; exact hk2) hg
        rw [hfv] at hs
        subst hk2
        by_cases hw : wt fv ≤ mt
        · rw [addT_y hw] at hs
          dsimp only at hs
          have hxl := addX_len xt mt fv
          have hxs := addX_sum (xs := xt) hw
          rcases hbase with ⟨hi, hgd⟩ | ⟨rfl, rfl⟩
          all_goals first | (have hfe : fv = (⟨g.n, ⟨VL.toArray⟩, false⟩ : Fl) := (by rw [← hfv, hR]; unfold fV; rfl); have hap : List.map flA F ++ [[.lit (.string g.n), .lit (.string ⟨VL.toArray⟩), bl false]] = List.map flA (snF F fv) := (by rw [snF_map, hfe]); have hw2 : wt (⟨g.n, ⟨VL.toArray⟩, false⟩ : Fl) ≤ mt := (by rw [← hfe]; exact hw); have har : addL (⟨g.n, ⟨VL.toArray⟩, false⟩ : Fl) (List.take (fitN xt.reverse 0 (mt - wt (⟨g.n, ⟨VL.toArray⟩, false⟩ : Fl))) xt.reverse) = (addX xt mt fv).reverse := (by rw [← hfe]; exact addX_rev xt mt fv)) | (have hfe : fv = (⟨⟨NM.toArray⟩, ⟨VL.toArray⟩, false⟩ : Fl) := (by rw [← hfv, hR]; unfold fV; rfl); have hap : List.map flA F ++ [[.lit (.string ⟨NM.toArray⟩), .lit (.string ⟨VL.toArray⟩), bl false]] = List.map flA (snF F fv) := (by rw [snF_map, hfe]); have hw2 : wt (⟨⟨NM.toArray⟩, ⟨VL.toArray⟩, false⟩ : Fl) ≤ mt := (by rw [← hfe]; exact hw); have har : addL (⟨⟨NM.toArray⟩, ⟨VL.toArray⟩, false⟩ : Fl) (List.take (fitN xt.reverse 0 (mt - wt (⟨⟨NM.toArray⟩, ⟨VL.toArray⟩, false⟩ : Fl))) xt.reverse) = (addX xt mt fv).reverse := (by rw [← hfe]; exact addX_rev xt mt fv))
          all_goals (have hU := And.intro @hR ( And.intro @hap (@har)))
          all_goals (repeat' (first | (guard_target =~ PWp _ _ _ _ _ _ _; first | (refine pwp_seq_k (fun K hK => ?_)) | (refine pwp_block ?_) | (refine pwp_rg_then ?_) | (refine pwp_rg ?_) | (refine pwp_skip ?_) | ((refine pwp_cond_d (fun hcd => ?_) (fun hcd => ?_)) <;> (try simp only [hcP] at hcd) <;> (try exact cdT))) | (guard_target =~ rg _ _ _ _ _ _ _; first | (guard_target =~ rg _ _ _ [] _ _ _; first | (refine rg_end ?_)) | (refine rg_a rfl (h := ?_)) | (refine rg_x rfl (hy := rfl) (h := ?_)) | (refine rg_v rfl (h := ?_)) | (refine rg_s rfl ?_) | (refine rg_n rfl ?_)) | (guard_target =~ SOp _ _ _ _ _ _; first | (guard_target =~ SOp _ _ ⟨_, .store _ _ _, _, _, _, none⟩ _ _ _; first | (refine n_store rfl (hK := ?_))) | (guard_target =~ SOp _ _ ⟨_, .alloc _, _, _, _, none⟩ _ _ _; first | (refine n_alloc rfl (by first | exact zv3 | exact zv4 | exact zv5 | exact zv9 | exact zv22 | exact zv28 | exact zv32 | exact zv50 | exact zv52 | exact zv53 | exact zv67 | fail) (hK := ?_))) | (guard_target =~ SOp _ _ ⟨_, .call ⟨.builtin .append, _, _⟩, _, _, _, none⟩ _ _ _; first | (refine n_append_row rfl (he := by first | exact eo3 | exact eo4 | exact eo5 | exact eo9 | exact eo22 | exact eo28 | exact eo32 | exact eo50 | exact eo52 | exact eo53 | exact eo67 | fail) (hK := ?_))) | (guard_target =~ SOp _ _ ⟨_, .buildSlice _ _ _, _, _, _, none⟩ _ _ _; first | (refine n_lit rfl (he := by first | exact eo3 | exact eo4 | exact eo5 | exact eo9 | exact eo22 | exact eo28 | exact eo32 | exact eo50 | exact eo52 | exact eo53 | exact eo67 | fail) (hK := ?_))) | (guard_target =~ SOp _ _ ⟨_, .slice _ _ _ _ _, _, _, _, none⟩ _ _ _; first | (refine n_slice rfl (hg := (fun _ => (by simp only [go_sem, seval, ↓reduceIte, hU] <;> rfl))) (hK := ?_))) | (guard_target =~ SOp _ _ ⟨_, .build _ _, _, _, _, none⟩ _ _ _; first | (refine n_build rfl (by first | exact bd32 | exact bd52 | exact bd67 | fail) (hK := ?_))) | (guard_target =~ SOp _ _ ⟨_, .call ⟨.value (.func 14), _, _⟩, _, _, _, none⟩ _ _ _; first | (refine n_call (f := 14) rfl Tryd.call14 (h := AEq.pure' agT (rrget _ _ _ aoT) (hq := ?_)))) | (guard_target =~ SOp _ _ ⟨_, .call ⟨.value (.func 60), _, _⟩, _, _, _, none⟩ _ _ _; first | (refine n_call (f := 60) rfl Tryd.call60 (h := AEq.pure' agT (rat_ok _ _ _ _ _ aoT aoT aoT aoT) (hq := ?_)))) | (guard_target =~ SOp _ _ ⟨_, .call ⟨.value (.func 61), _, _⟩, _, _, _, none⟩ _ _ _; first | (refine n_call (f := 61) rfl Tryd.call61 (h := AEq.pure' agT (r_add_c _ _ _ _ _ _ aoT aoT aoT aoT aoT aoT aoT) (hq := ?_))))) | (refine hK _ _ ?_; clear hK K) | (dsimp only [Lf.thenQ, Lf.blockQ])))
          all_goals refine ⟨(⟨b.drop a1, n', a + 1, c, ⟨snF F fv, S, ⟨addX xt mt fv, st + 2, mt⟩⟩⟩, false), [0, 1, 2, 3, 4], ⟨⟨by dsimp only; omega, by dsimp only; omega, by dsimp only; omega, hxs, hmt0, hmt1, addX_size hbt hfz.1 hfz.2, by dsimp only; omega, by dsimp only; omega⟩, ?_⟩, ?_, rfl, ?_, (by repeat' (first | exact agr_refl | refine agr_cons (by rfl) ?_)), ?_⟩
          all_goals dsimp only
          all_goals (have hU := True.intro)
          all_goals first | (rw [← htt]; exact (decM_r hlt he hM hs).symm) | omega | rfl | (simp (disch := omega) only [go_sem, seval, ↓reduceIte]; done) | (simp (disch := omega) only [go_sem, seval, ↓reduceIte]; rfl) | ((refine ⟨⟨_, sT, ?_⟩, ⟨_, sT, ?_⟩, ⟨_, sT, ?_⟩, trivial⟩ <;> (try (first | exact aleT)))) | trace_state
        · rw [addT_n hw] at hs
          dsimp only at hs
          have hxl := xsE_len
          have hxs := xsE_sum
          rcases hbase with ⟨hi, hgd⟩ | ⟨rfl, rfl⟩
          all_goals first | (have hfe : fv = (⟨g.n, ⟨VL.toArray⟩, false⟩ : Fl) := (by rw [← hfv, hR]; unfold fV; rfl); have hap : List.map flA F ++ [[.lit (.string g.n), .lit (.string ⟨VL.toArray⟩), bl false]] = List.map flA (snF F fv) := (by rw [snF_map, hfe]); have hw2 : mt < wt (⟨g.n, ⟨VL.toArray⟩, false⟩ : Fl) := (by rw [← hfe]; omega)) | (have hfe : fv = (⟨⟨NM.toArray⟩, ⟨VL.toArray⟩, false⟩ : Fl) := (by rw [← hfv, hR]; unfold fV; rfl); have hap : List.map flA F ++ [[.lit (.string ⟨NM.toArray⟩), .lit (.string ⟨VL.toArray⟩), bl false]] = List.map flA (snF F fv) := (by rw [snF_map, hfe]); have hw2 : mt < wt (⟨⟨NM.toArray⟩, ⟨VL.toArray⟩, false⟩ : Fl) := (by rw [← hfe]; omega))
          all_goals (have hU := And.intro @hR (@hap))
          all_goals (repeat' (first | (guard_target =~ PWp _ _ _ _ _ _ _; first | (refine pwp_seq_k (fun K hK => ?_)) | (refine pwp_block ?_) | (refine pwp_rg_then ?_) | (refine pwp_rg ?_) | (refine pwp_skip ?_) | ((refine pwp_cond_d (fun hcd => ?_) (fun hcd => ?_)) <;> (try simp only [hcP] at hcd) <;> (try exact cdT))) | (guard_target =~ rg _ _ _ _ _ _ _; first | (guard_target =~ rg _ _ _ [] _ _ _; first | (refine rg_end ?_)) | (refine rg_a rfl (h := ?_)) | (refine rg_x rfl (hy := rfl) (h := ?_)) | (refine rg_v rfl (h := ?_)) | (refine rg_s rfl ?_) | (refine rg_n rfl ?_)) | (guard_target =~ SOp _ _ _ _ _ _; first | (guard_target =~ SOp _ _ ⟨_, .store _ _ _, _, _, _, none⟩ _ _ _; first | (refine n_store rfl (hK := ?_))) | (guard_target =~ SOp _ _ ⟨_, .alloc _, _, _, _, none⟩ _ _ _; first | (refine n_alloc rfl (by first | exact zv3 | exact zv4 | exact zv5 | exact zv9 | exact zv22 | exact zv28 | exact zv32 | exact zv50 | exact zv52 | exact zv53 | exact zv67 | fail) (hK := ?_))) | (guard_target =~ SOp _ _ ⟨_, .call ⟨.builtin .append, _, _⟩, _, _, _, none⟩ _ _ _; first | (refine n_append_row rfl (he := by first | exact eo3 | exact eo4 | exact eo5 | exact eo9 | exact eo22 | exact eo28 | exact eo32 | exact eo50 | exact eo52 | exact eo53 | exact eo67 | fail) (hK := ?_))) | (guard_target =~ SOp _ _ ⟨_, .buildSlice _ _ _, _, _, _, none⟩ _ _ _; first | (refine n_lit rfl (he := by first | exact eo3 | exact eo4 | exact eo5 | exact eo9 | exact eo22 | exact eo28 | exact eo32 | exact eo50 | exact eo52 | exact eo53 | exact eo67 | fail) (hK := ?_))) | (guard_target =~ SOp _ _ ⟨_, .slice _ _ _ _ _, _, _, _, none⟩ _ _ _; first | (refine n_slice rfl (hg := (fun _ => (by simp only [go_sem, seval, ↓reduceIte, hU] <;> rfl))) (hK := ?_))) | (guard_target =~ SOp _ _ ⟨_, .build _ _, _, _, _, none⟩ _ _ _; first | (refine n_build rfl (by first | exact bd32 | exact bd52 | exact bd67 | fail) (hK := ?_))) | (guard_target =~ SOp _ _ ⟨_, .call ⟨.value (.func 14), _, _⟩, _, _, _, none⟩ _ _ _; first | (refine n_call (f := 14) rfl Tryd.call14 (h := AEq.pure' agT (rrget _ _ _ aoT) (hq := ?_)))) | (guard_target =~ SOp _ _ ⟨_, .call ⟨.value (.func 60), _, _⟩, _, _, _, none⟩ _ _ _; first | (refine n_call (f := 60) rfl Tryd.call60 (h := AEq.pure' agT (rat_ok _ _ _ _ _ aoT aoT aoT aoT) (hq := ?_)))) | (guard_target =~ SOp _ _ ⟨_, .call ⟨.value (.func 61), _, _⟩, _, _, _, none⟩ _ _ _; first | (refine n_call (f := 61) rfl Tryd.call61 (h := AEq.pure' agT (r_add_bigc _ _ _ _ _ _ aoT aoT aoT) (hq := ?_))))) | (refine hK _ _ ?_; clear hK K) | (dsimp only [Lf.thenQ, Lf.blockQ])))
          all_goals refine ⟨(⟨b.drop a1, n', a + 1, c, ⟨snF F fv, S, ⟨xsE, st + 1, mt⟩⟩⟩, true), [0, 1, 2, 3, 4], ⟨⟨by dsimp only; omega, by dsimp only; omega, by dsimp only; omega, by dsimp only; omega, hmt0, hmt1, xsE_size, by dsimp only; omega, by dsimp only; omega⟩, ?_⟩, ?_, rfl, ?_, (by repeat' (first | exact agr_refl | refine agr_cons (by rfl) ?_)), ?_⟩
          all_goals dsimp only
          all_goals (have hU := True.intro)
          all_goals first | (rw [← htt]; exact (decM_r hlt he hM hs).symm) | omega | rfl | (simp (disch := omega) only [go_sem, seval, ↓reduceIte]; done) | (simp (disch := omega) only [go_sem, seval, ↓reduceIte]; rfl) | ((refine ⟨⟨_, sT, ?_⟩, ⟨_, sT, ?_⟩, ⟨_, sT, ?_⟩, trivial⟩ <;> (try (first | exact aleT)))) | trace_state
      have hk3 : (rgM b).k ≠ 2 := by rw [hR]; exact hk2
      have hs := dStep_f (Fs := F) (S := S) (t := ⟨xt, st, mt⟩) (r := rgM b) hk5 hk3 hg
      rw [hfv] at hs
      obtain hk | hk | hk : K = 1 ∨ K = 3 ∨ K = 4 := by omega
      all_goals subst hk
      all_goals rcases hbase with ⟨hi, hgd⟩ | ⟨rfl, rfl⟩
      all_goals first | (have hfe : fv = (⟨g.n, g.v, g.k⟩ : Fl) := (by rw [← hfv, hR]; unfold fV; rfl); have hap : List.map flA F ++ [[.lit (.string g.n), .lit (.string g.v), bl g.k]] = List.map flA (snF F fv) := (by rw [snF_map, hfe])) | (have hfe : fv = (⟨g.n, ⟨VL.toArray⟩, false⟩ : Fl) := (by rw [← hfv, hR]; unfold fV; rfl); have hap : List.map flA F ++ [[.lit (.string g.n), .lit (.string ⟨VL.toArray⟩), bl false]] = List.map flA (snF F fv) := (by rw [snF_map, hfe])) | (have hfe : fv = (⟨g.n, ⟨VL.toArray⟩, true⟩ : Fl) := (by rw [← hfv, hR]; unfold fV; rfl); have hap : List.map flA F ++ [[.lit (.string g.n), .lit (.string ⟨VL.toArray⟩), bl true]] = List.map flA (snF F fv) := (by rw [snF_map, hfe])) | (have hfe : fv = (⟨⟨NM.toArray⟩, ⟨#[]⟩, false⟩ : Fl) := (by rw [← hfv, hR]; unfold fV; rfl); have hap : List.map flA F ++ [[.lit (.string ⟨NM.toArray⟩), .lit (.string ⟨#[]⟩), bl false]] = List.map flA (snF F fv) := (by rw [snF_map, hfe])) | (have hfe : fv = (⟨⟨NM.toArray⟩, ⟨VL.toArray⟩, false⟩ : Fl) := (by rw [← hfv, hR]; unfold fV; rfl); have hap : List.map flA F ++ [[.lit (.string ⟨NM.toArray⟩), .lit (.string ⟨VL.toArray⟩), bl false]] = List.map flA (snF F fv) := (by rw [snF_map, hfe])) | (have hfe : fv = (⟨⟨NM.toArray⟩, ⟨VL.toArray⟩, true⟩ : Fl) := (by rw [← hfv, hR]; unfold fV; rfl); have hap : List.map flA F ++ [[.lit (.string ⟨NM.toArray⟩), .lit (.string ⟨VL.toArray⟩), bl true]] = List.map flA (snF F fv) := (by rw [snF_map, hfe]))
      all_goals (have hU := And.intro @hR (@hap))
      all_goals (repeat' (first | (guard_target =~ PWp _ _ _ _ _ _ _; first | (refine pwp_seq_k (fun K hK => ?_)) | (refine pwp_block ?_) | (refine pwp_rg_then ?_) | (refine pwp_rg ?_) | (refine pwp_skip ?_) | ((refine pwp_cond_d (fun hcd => ?_) (fun hcd => ?_)) <;> (try simp only [hcP] at hcd) <;> (try exact cdT))) | (guard_target =~ rg _ _ _ _ _ _ _; first | (guard_target =~ rg _ _ _ [] _ _ _; first | (refine rg_end ?_)) | (refine rg_a rfl (h := ?_)) | (refine rg_x rfl (hy := rfl) (h := ?_)) | (refine rg_v rfl (h := ?_)) | (refine rg_s rfl ?_) | (refine rg_n rfl ?_)) | (guard_target =~ SOp _ _ _ _ _ _; first | (guard_target =~ SOp _ _ ⟨_, .store _ _ _, _, _, _, none⟩ _ _ _; first | (refine n_store rfl (hK := ?_))) | (guard_target =~ SOp _ _ ⟨_, .alloc _, _, _, _, none⟩ _ _ _; first | (refine n_alloc rfl (by first | exact zv3 | exact zv4 | exact zv5 | exact zv9 | exact zv22 | exact zv28 | exact zv32 | exact zv50 | exact zv52 | exact zv53 | exact zv67 | fail) (hK := ?_))) | (guard_target =~ SOp _ _ ⟨_, .call ⟨.builtin .append, _, _⟩, _, _, _, none⟩ _ _ _; first | (refine n_append_row rfl (he := by first | exact eo3 | exact eo4 | exact eo5 | exact eo9 | exact eo22 | exact eo28 | exact eo32 | exact eo50 | exact eo52 | exact eo53 | exact eo67 | fail) (hK := ?_))) | (guard_target =~ SOp _ _ ⟨_, .buildSlice _ _ _, _, _, _, none⟩ _ _ _; first | (refine n_lit rfl (he := by first | exact eo3 | exact eo4 | exact eo5 | exact eo9 | exact eo22 | exact eo28 | exact eo32 | exact eo50 | exact eo52 | exact eo53 | exact eo67 | fail) (hK := ?_))) | (guard_target =~ SOp _ _ ⟨_, .slice _ _ _ _ _, _, _, _, none⟩ _ _ _; first | (refine n_slice rfl (hg := (fun _ => (by simp only [go_sem, seval, ↓reduceIte, hU] <;> rfl))) (hK := ?_))) | (guard_target =~ SOp _ _ ⟨_, .build _ _, _, _, _, none⟩ _ _ _; first | (refine n_build rfl (by first | exact bd32 | exact bd52 | exact bd67 | fail) (hK := ?_))) | (guard_target =~ SOp _ _ ⟨_, .call ⟨.value (.func 14), _, _⟩, _, _, _, none⟩ _ _ _; first | (refine n_call (f := 14) rfl Tryd.call14 (h := AEq.pure' agT (rrget _ _ _ aoT) (hq := ?_)))) | (guard_target =~ SOp _ _ ⟨_, .call ⟨.value (.func 60), _, _⟩, _, _, _, none⟩ _ _ _; first | (refine n_call (f := 60) rfl Tryd.call60 (h := AEq.pure' agT (rat_ok _ _ _ _ _ aoT aoT aoT aoT) (hq := ?_))))) | (refine hK _ _ ?_; clear hK K) | (dsimp only [Lf.thenQ, Lf.blockQ])))
      all_goals refine ⟨(⟨b.drop a1, n', a + 1, c, ⟨snF F fv, S, ⟨xt, st, mt⟩⟩⟩, fl), [0, 1, 2, 3, 4], ⟨⟨by dsimp only; omega, by dsimp only; omega, by dsimp only; omega, hSt, hmt0, hmt1, hbt, by dsimp only; omega, by dsimp only; omega⟩, ?_⟩, ?_, rfl, ?_, (by repeat' (first | exact agr_refl | refine agr_cons (by rfl) ?_)), ?_⟩
      all_goals dsimp only
      all_goals (have hU := True.intro)
      all_goals first | (rw [← htt]; exact (decM_r hlt he hM hs).symm) | omega | rfl | (simp (disch := omega) only [go_sem, seval, ↓reduceIte]; done) | (simp (disch := omega) only [go_sem, seval, ↓reduceIte]; rfl) | ((refine ⟨⟨_, sT, ?_⟩, ⟨_, sT, ?_⟩, ⟨_, sT, ?_⟩, trivial⟩ <;> (try (first | exact aleT)))) | trace_state
theorem rdec_ok (f1 : Bool) (f q : Bool) (b : List UInt8) (xs : List Fl) (s : Nat) (m : Int) (hb : b.length ≤ 50000) (hx : xs.length ≤ 30000) (hS : sumW xs ≤ m) (hm0 : 0 ≤ m) (hm1 : m ≤ 2147483647) (hbb : ∀ f ∈ xs, f.n.size ≤ 1000000 ∧ f.v.size ≤ 1000000) (Q : DQ) (htot : decM b.length b ⟨xs0, ss0, ⟨xs, s, m⟩⟩ = (Q, 0)) : AEq Tryd.prog 26 [.ag [.sl f1 false (xs.reverse.map flA), i64 m], .sl f q (b.map byteA)] [] (.tu [.sl false false (Q.F.map flA), .sl false false (Q.S.map intA), .ag [.sl false false (Q.t.xs.reverse.map flA), i64 Q.t.m], i64 0]) [] := by
  have h := rdec_all_r f1 f q b xs s m hb hx hS hm0 hm1 hbb Q 0 htot
  rw [rdecR_ok] at h
  exact h
theorem rdec_no (f1 : Bool) (f q : Bool) (b : List UInt8) (xs : List Fl) (s : Nat) (m : Int) (hb : b.length ≤ 50000) (hx : xs.length ≤ 30000) (hS : sumW xs ≤ m) (hm0 : 0 ≤ m) (hm1 : m ≤ 2147483647) (hbb : ∀ f ∈ xs, f.n.size ≤ 1000000 ∧ f.v.size ≤ 1000000) (Q : DQ) (E : Int) (hE : E ≠ 0) (htot : decM b.length b ⟨xs0, ss0, ⟨xs, s, m⟩⟩ = (Q, E)) : AEq Tryd.prog 26 [.ag [.sl f1 false (xs.reverse.map flA), i64 m], .sl f q (b.map byteA)] [] (.tu [.sl true false [], .sl true false [], .ag [.sl f1 false (xs.reverse.map flA), i64 m], i64 E]) [] := by
  have h := rdec_all_r f1 f q b xs s m hb hx hS hm0 hm1 hbb Q E htot
  rw [rdecR_no hE] at h
  exact h
end Go.Proofs.YtohbfcmmpaikhaaDoor

set_option linter.unusedVariables false
set_option linter.unusedSimpArgs false
namespace Go.Proofs.YtohbfcmmpaikhaaDoor
open Go Go.Lf Go.Proofs
attribute [local irreducible] Lf.rg Lf.ro Lf.PWp Lf.SOp Lf.ACall Lf.Scoped Lf.dg
set_option maxRecDepth 20000
set_option maxHeartbeats 4000000
end Go.Proofs.YtohbfcmmpaikhaaDoor

set_option linter.unusedVariables false
set_option linter.unusedSimpArgs false
namespace Go.Proofs.YtohbfcmmpaikhaaDoor
open Go Go.Lf Go.Proofs
attribute [local irreducible] Lf.rg Lf.ro Lf.PWp Lf.SOp Lf.ACall Lf.Scoped Lf.dg Lf.dw
set_option maxRecDepth 20000
set_option maxHeartbeats 4000000
attribute [local irreducible] wt sumW decM xs0 ss0 xsE
theorem alive23 : AEq Tryd.prog 22 [] [] (bl true) [] := by
  have h1 := w5_len
  have h2 := w190_len
  have h3 := w191_len
  have h4 := wantL_len
  have h5 := wantL_sum
  have h6 := wantL_size
  have h7 := xsE_len
  have h8 := xsE_sum
  have h9 := xsE_size
  have e1 := w5_dec
  have e2 := w190_dec
  have e3 := w191_dec
  have e12 : (12 : Int) ≠ 0 := by decide
  refine acall_body Tryd.func22 rfl Tryd.ntmps22 (by simp) (fun hsc => ?_); simp only [Lf.enter, Nat.reduceAdd]; clear hsc
  have hU := True.intro
  repeat' (first | (guard_target =~ PWp _ _ _ _ _ _ _; first | (refine pwp_seq_k (fun K hK => ?_)) | (refine pwp_rg_then ?_) | (refine pwp_ret ?_)) | (guard_target =~ rg _ _ _ _ _ _ _; first | (guard_target =~ rg _ _ _ (⟨_, .move _, _, _, _, some _⟩ :: _) _ _ _; first | (refine rg_gtp rfl (h := ?_)) | (refine rg_gt rfl (h := ?_))) | (guard_target =~ rg _ _ _ (⟨_, .binOp _ _ _ _ _, _, _, _, some _⟩ :: _) _ _ _; first | (refine rg_gtp rfl (h := ?_)) | (refine rg_gt rfl (h := ?_))) | (guard_target =~ rg _ _ _ (⟨_, .call ⟨.value (.func 27), _, _⟩, _, _, _, some _⟩ :: _) _ _ _; first | (refine rg_gtp rfl (h := ?_)) | (refine rg_gt rfl (h := ?_))) | (guard_target =~ rg _ _ _ (⟨_, .fieldAddr _ _ _, _, _, _, some _⟩ :: _) _ _ _; first | (refine rg_gtp rfl (h := ?_)) | (refine rg_gt rfl (h := ?_))) | (guard_target =~ rg _ _ _ (⟨_, .load _ _, _, _, _, some _⟩ :: _) _ _ _; first | (refine rg_gtp rfl (h := ?_)) | (refine rg_gt rfl (h := ?_))) | (guard_target =~ rg _ _ _ (⟨_, .call ⟨.value (.func 30), _, _⟩, _, _, _, some _⟩ :: _) _ _ _; first | (refine rg_gtp rfl (h := ?_)) | (refine rg_gt rfl (h := ?_))) | (guard_target =~ rg _ _ _ [] _ _ _; first | (refine rg_end ?_)) | (refine rg_a rfl (h := ?_)) | (refine rg_x rfl (hy := rfl) (h := ?_)) | (refine rg_v rfl (h := ?_)) | (refine rg_s rfl ?_) | (refine rg_n rfl ?_)) | (guard_target =~ SOp _ _ _ _ _ _; first | (guard_target =~ SOp _ _ ⟨_, .buildSlice _ _ _, _, _, _, none⟩ _ _ _; first | (refine n_lit (xs := List.map (byteA) (w5)) rfl (he := by first | exact eo3 | exact eo4 | exact eo5 | exact eo9 | exact eo22 | exact eo28 | exact eo46 | exact eo50 | exact eo53 | exact eo55 | exact eo67 | exact eo69 | exact eo71 | exact eo112 | fail) (hc := by first | rfl | assumption | (simp (disch := omega) only [go_sem, seval, ↓reduceIte, hU]; rfl)) (hK := ?_)) | (refine n_lit (xs := List.map (byteA) (w190)) rfl (he := by first | exact eo3 | exact eo4 | exact eo5 | exact eo9 | exact eo22 | exact eo28 | exact eo46 | exact eo50 | exact eo53 | exact eo55 | exact eo67 | exact eo69 | exact eo71 | exact eo112 | fail) (hc := by first | rfl | assumption | (simp (disch := omega) only [go_sem, seval, ↓reduceIte, hU]; rfl)) (hK := ?_)) | (refine n_lit (xs := List.map (byteA) (w191)) rfl (he := by first | exact eo3 | exact eo4 | exact eo5 | exact eo9 | exact eo22 | exact eo28 | exact eo46 | exact eo50 | exact eo53 | exact eo55 | exact eo67 | exact eo69 | exact eo71 | exact eo112 | fail) (hc := by first | rfl | assumption | (simp (disch := omega) only [go_sem, seval, ↓reduceIte, hU]; rfl)) (hK := ?_)) | (refine n_lit (xs := List.map (flA) (wantL)) rfl (he := by first | exact eo3 | exact eo4 | exact eo5 | exact eo9 | exact eo22 | exact eo28 | exact eo46 | exact eo50 | exact eo53 | exact eo55 | exact eo67 | exact eo69 | exact eo71 | exact eo112 | fail) (hc := by first | rfl | assumption | (simp (disch := omega) only [go_sem, seval, ↓reduceIte, hU]; rfl)) (hK := ?_))) | (guard_target =~ SOp _ _ ⟨_, .alloc _, _, _, _, none⟩ _ _ _; first | (refine n_alloc rfl (by first | exact zv3 | exact zv4 | exact zv5 | exact zv9 | exact zv22 | exact zv28 | exact zv46 | exact zv50 | exact zv53 | exact zv55 | exact zv67 | exact zv69 | exact zv71 | exact zv112 | fail) (hK := ?_))) | (guard_target =~ SOp _ _ ⟨_, .store _ _ _, _, _, _, none⟩ _ _ _; first | (refine n_store rfl (hK := ?_))) | (guard_target =~ SOp _ _ ⟨_, .call ⟨.value (.func 25), _, _⟩, _, _, _, none⟩ _ _ _; first | (refine n_call (f := 25) rfl Tryd.call25 (h := AEq.sub' [_, _, _] (hc := dec_no _ _ _ _ _ _ aoT aoT aoT aoT aoT aoT _ _ aoT aoT) (hq := ?_))) | (refine n_call (f := 25) rfl Tryd.call25 (h := AEq.sub' [_, _, _] (hc := dec_ok _ _ _ _ _ _ aoT aoT aoT aoT aoT aoT _ aoT) (hq := ?_)))) | (guard_target =~ SOp _ _ ⟨_, .call ⟨.value (.func 27), _, _⟩, _, _, _, some _⟩ _ _ _; first | (refine n_call (f := 27) rfl Tryd.call27 (h := AEq.pure' agT (r_same _ _ _ _ _ aoT) (hq := ?_)))) | (guard_target =~ SOp _ _ ⟨_, .call ⟨.value (.func 23), _, _⟩, _, _, _, none⟩ _ _ _; first | (refine n_call (f := 23) rfl Tryd.call23 (h := AEq.sub' [] (hc := dnew_ok _ aoT aoT) (hq := ?_)))) | (guard_target =~ SOp _ _ ⟨_, .call ⟨.value (.func 30), _, _⟩, _, _, _, some _⟩ _ _ _; first | (refine n_call (f := 30) rfl Tryd.call30 (h := AEq.sub' [_, _, _] (hc := dsize _ _ _ _) (hq := ?_)))) | (guard_target =~ SOp _ _ ⟨_, .build _ _, _, _, _, none⟩ _ _ _; first | (refine n_build rfl (by first | exact bd55 | exact bd67 | exact bd71 | exact bd112 | fail) (hK := ?_)))) | (guard_target =~ (_ ∨ _) ∧ _; first | ((refine end_d [] (by rw [Tryd.results22, Lf.res1]) (ale_1 ?_) ?_) <;> (try (first | exact aleT | exact stq (by with_reducible rfl) | exact stq (by rfl) | exact stq (by simp (disch := omega) only [go_sem, seval, ↓reduceIte, hU]))))) | (refine hK _ _ ?_; clear hK K))
  all_goals first | exact ale_bl (by simp [h5]) | trace_state
end Go.Proofs.YtohbfcmmpaikhaaDoor

set_option linter.unusedVariables false
set_option linter.unusedSimpArgs false
namespace Go.Proofs.YtohbfcmmpaikhaaDoor
open Go Go.Lf Go.Proofs
attribute [local irreducible] Lf.rg Lf.ro Lf.PWp Lf.SOp Lf.ACall Lf.Scoped Lf.dg Lf.dw
set_option maxRecDepth 20000
set_option maxHeartbeats 4000000
theorem xsE_rev : xsE.reverse.map flA = [] := rfl
structure LS where
  (i s : Nat) (xs : List Fl) (m : Int) (f : Bool)
attribute [local irreducible] wt sumW decM xs0 ss0 xsE
theorem r_same_nil : AEq Tryd.prog 27 [.sl true false [], .sl true false []] [] (bl true) [] := r_same true true false false [] (by simp)
theorem isame_nil : AEq Tryd.prog 28 [.sl true false [], .sl true false []] [] (bl true) [] := isame true true false false [] (by simp)
set_option maxRecDepth 20000 in
theorem law_dcplays (mx : Int) (f : Bool) (l : List (List UInt8)) (h : l.length ≤ 9223372036854775807) (hb : ∀ b ∈ l, b.length ≤ 9223372036854775807) : AEq Tryd.prog 6 [i64 mx, .sl f false (l.map blA)] [] (bl true) [] := by
  cases hLg : lgB l with
  | true =>
    refine acall_body Tryd.func6 rfl Tryd.ntmps6 (by simp) (fun hsc => ?_); simp only [Lf.enter, Nat.reduceAdd]; clear hsc
    have hU := @hLg
    repeat' (first | (guard_target =~ PWp _ _ _ _ _ _ _; first | (refine pwp_seq_k (fun K hK => ?_)) | (refine pwp_rg_then ?_) | (refine pwp_ret ?_) | ((refine pwp_cond_d (fun hcd => ?_) (fun hcd => ?_)) <;> (try simp only [hcP] at hcd) <;> (try exact cdT))) | (guard_target =~ rg _ _ _ _ _ _ _; first | (guard_target =~ rg _ _ _ [] _ _ _; first | (refine rg_end ?_)) | (refine rg_a rfl (h := ?_)) | (refine rg_v rfl (h := ?_)) | (refine rg_s rfl ?_)) | (guard_target =~ SOp _ _ _ _ _ _; first | (guard_target =~ SOp _ _ ⟨_, .call ⟨.value (.func 22), _, _⟩, _, _, _, none⟩ _ _ _; first | (refine n_call (f := 22) rfl Tryd.call22 (h := AEq.pure' agT alive23 (hq := ?_)))) | (guard_target =~ SOp _ _ ⟨_, .call ⟨.value (.func 22), _, _⟩, _, _, _, some _⟩ _ _ _; first | (refine n_call (f := 22) rfl Tryd.call22 (h := AEq.pure' agT alive23 (hq := ?_)))) | (guard_target =~ SOp _ _ ⟨_, .call ⟨.value (.func 21), _, _⟩, _, _, _, none⟩ _ _ _; first | (refine n_call (f := 21) rfl Tryd.call21 (h := AEq.pure' agT (lgB_is _ _ (by assumption) (by assumption)) (hq := ?_))))) | (guard_target =~ (_ ∨ _) ∧ _; first | ((refine end_d [] (by rw [Tryd.results6, Lf.res1]) (ale_1 ?_) ?_) <;> (try (first | exact aleT | exact stq (by with_reducible rfl) | exact stq (by rfl) | exact stq (by simp (disch := omega) only [go_sem, seval, ↓reduceIte, hU]))))) | (refine hK _ _ ?_; clear hK K))
  | false =>
  obtain ⟨hl60, hbd⟩ := lgB_no hLg
  by_cases hm : mx < 0 ∨ 2147483647 < mx
  · have hmay : decide (0 ≤ mx ∧ mx ≤ 2147483647) = false := by rw [decide_eq_false_iff_not]; omega
    refine acall_body Tryd.func6 rfl Tryd.ntmps6 (by simp) (fun hsc => ?_); simp only [Lf.enter, Nat.reduceAdd]; clear hsc
    have hU := And.intro @hLg (@hmay)
    repeat' (first | (guard_target =~ PWp _ _ _ _ _ _ _; first | (refine pwp_seq_k (fun K hK => ?_)) | (refine pwp_rg_then ?_) | (refine pwp_ret ?_) | (refine pwp_skip ?_) | ((refine pwp_cond_d (fun hcd => ?_) (fun hcd => ?_)) <;> (try simp only [hcP] at hcd) <;> (try exact cdT))) | (guard_target =~ rg _ _ _ _ _ _ _; first | (guard_target =~ rg _ _ _ (⟨_, .move _, _, _, _, some _⟩ :: _) _ _ _; first | (refine rg_gtp rfl (h := ?_)) | (refine rg_gt rfl (h := ?_))) | (guard_target =~ rg _ _ _ (⟨_, .load _ _, _, _, _, some _⟩ :: _) _ _ _; first | (refine rg_gtp rfl (h := ?_)) | (refine rg_gt rfl (h := ?_))) | (guard_target =~ rg _ _ _ (⟨_, .unOp _ _ _, _, _, _, some _⟩ :: _) _ _ _; first | (refine rg_gtp rfl (h := ?_)) | (refine rg_gt rfl (h := ?_))) | (guard_target =~ rg _ _ _ (⟨_, .fieldAddr _ _ _, _, _, _, some _⟩ :: _) _ _ _; first | (refine rg_gtp rfl (h := ?_)) | (refine rg_gt rfl (h := ?_))) | (guard_target =~ rg _ _ _ (⟨_, .binOp _ _ _ _ _, _, _, _, some _⟩ :: _) _ _ _; first | (refine rg_gtp rfl (h := ?_)) | (refine rg_gt rfl (h := ?_))) | (guard_target =~ rg _ _ _ (⟨_, .call ⟨.value (.func 27), _, _⟩, _, _, _, some _⟩ :: _) _ _ _; first | (refine rg_gtp rfl (h := ?_)) | (refine rg_gt rfl (h := ?_))) | (guard_target =~ rg _ _ _ (⟨_, .call ⟨.value (.func 28), _, _⟩, _, _, _, some _⟩ :: _) _ _ _; first | (refine rg_gtp rfl (h := ?_)) | (refine rg_gt rfl (h := ?_))) | (guard_target =~ rg _ _ _ (⟨_, .call ⟨.value (.func 32), _, _⟩, _, _, _, some _⟩ :: _) _ _ _; first | (refine rg_gtp rfl (h := ?_)) | (refine rg_gt rfl (h := ?_))) | (guard_target =~ rg _ _ _ (⟨_, .call ⟨.value (.func 30), _, _⟩, _, _, _, some _⟩ :: _) _ _ _; first | (refine rg_gtp rfl (h := ?_)) | (refine rg_gt rfl (h := ?_))) | (guard_target =~ rg _ _ _ (⟨_, .call ⟨.value (.func 31), _, _⟩, _, _, _, some _⟩ :: _) _ _ _; first | (refine rg_gtp rfl (h := ?_)) | (refine rg_gt rfl (h := ?_))) | (guard_target =~ rg _ _ _ (⟨_, .call ⟨.value (.func 22), _, _⟩, _, _, _, some _⟩ :: _) _ _ _; first | (refine rg_gtp rfl (h := ?_)) | (refine rg_gt rfl (h := ?_))) | (guard_target =~ rg _ _ _ [] _ _ _; first | (refine rg_end ?_)) | (refine rg_a rfl (h := ?_)) | (refine rg_x rfl (hy := rfl) (h := ?_)) | (refine rg_v rfl (h := ?_)) | (refine rg_s rfl ?_)) | (guard_target =~ SOp _ _ _ _ _ _; first | (guard_target =~ SOp _ _ ⟨_, .call ⟨.value (.func 22), _, _⟩, _, _, _, none⟩ _ _ _; first | (refine n_call (f := 22) rfl Tryd.call22 (h := AEq.pure' agT alive23 (hq := ?_)))) | (guard_target =~ SOp _ _ ⟨_, .call ⟨.value (.func 24), _, _⟩, _, _, _, none⟩ _ _ _; first | (refine n_call (f := 24) rfl Tryd.call24 (h := AEq.pure' agT (r_may _) (hq := ?_)))) | (guard_target =~ SOp _ _ ⟨_, .call ⟨.value (.func 23), _, _⟩, _, _, _, none⟩ _ _ _; first | (refine n_call (f := 23) rfl Tryd.call23 (h := AEq.pure' agT (dnew_no _ (by assumption)) (hq := ?_)))) | (guard_target =~ SOp _ _ ⟨_, .call ⟨.value (.func 22), _, _⟩, _, _, _, some _⟩ _ _ _; first | (refine n_call (f := 22) rfl Tryd.call22 (h := AEq.pure' agT alive23 (hq := ?_)))) | (guard_target =~ SOp _ _ ⟨_, .call ⟨.value (.func 21), _, _⟩, _, _, _, none⟩ _ _ _; first | (refine n_call (f := 21) rfl Tryd.call21 (h := AEq.pure' agT (lgB_is _ _ (by assumption) (by assumption)) (hq := ?_))))) | (guard_target =~ (_ ∨ _) ∧ _; first | ((refine end_d [] (by rw [Tryd.results6, Lf.res1]) (ale_1 ?_) ?_) <;> (try (first | exact aleT | exact stq (by with_reducible rfl) | exact stq (by rfl) | exact stq (by simp (disch := omega) only [go_sem, seval, ↓reduceIte, hU]))))) | (refine hK _ _ ?_; clear hK K))
  have hm0 : 0 ≤ mx := by omega
  have hm1 : mx ≤ 2147483647 := by omega
  have hmay : decide (0 ≤ mx ∧ mx ≤ 2147483647) = true := by rw [decide_eq_true_eq]; omega
  refine acall_body Tryd.func6 rfl Tryd.ntmps6 (by simp) (fun hsc => ?_); simp only [Lf.enter, Nat.reduceAdd]; clear hsc
  have hU := And.intro @hLg (@hmay)
  repeat' (first | (guard_target =~ PWp _ _ _ _ _ _ _; first | (refine pwp_seq_k (fun K hK => ?_)) | (refine pwp_block ?_) | (refine pwp_rg_then ?_) | (refine pwp_skip ?_) | ((refine pwp_cond_d (fun hcd => ?_) (fun hcd => ?_)) <;> (try simp only [hcP] at hcd) <;> (try exact cdT))) | (guard_target =~ rg _ _ _ _ _ _ _; first | (guard_target =~ rg _ _ _ [] _ _ _; first | (refine rg_end ?_)) | (refine rg_a rfl (h := ?_)) | (refine rg_x rfl (hy := rfl) (h := ?_)) | (refine rg_v rfl (h := ?_)) | (refine rg_s rfl ?_) | (refine rg_n rfl ?_)) | (guard_target =~ SOp _ _ _ _ _ _; first | (guard_target =~ SOp _ _ ⟨_, .store _ _ _, _, _, _, none⟩ _ _ _; first | (refine n_store rfl (hK := ?_))) | (guard_target =~ SOp _ _ ⟨_, .alloc _, _, _, _, none⟩ _ _ _; first | (refine n_alloc rfl (by first | exact zv3 | exact zv4 | exact zv5 | exact zv9 | exact zv22 | exact zv28 | exact zv44 | exact zv46 | exact zv50 | exact zv52 | exact zv53 | exact zv55 | exact zv67 | exact zv69 | exact zv71 | exact zv112 | fail) (hK := ?_))) | (guard_target =~ SOp _ _ ⟨_, .call ⟨.value (.func 24), _, _⟩, _, _, _, none⟩ _ _ _; first | (refine n_call (f := 24) rfl Tryd.call24 (h := AEq.pure' agT (r_may _) (hq := ?_)))) | (guard_target =~ SOp _ _ ⟨_, .call ⟨.value (.func 23), _, _⟩, _, _, _, none⟩ _ _ _; first | (refine n_call (f := 23) rfl Tryd.call23 (h := AEq.sub' [] (hc := dnew_ok _ (by assumption) (by assumption)) (hq := ?_)))) | (guard_target =~ SOp _ _ ⟨_, .build _ _, _, _, _, none⟩ _ _ _; first | (refine n_build rfl (by first | exact bd52 | exact bd55 | exact bd67 | exact bd71 | exact bd112 | fail) (hK := ?_))) | (guard_target =~ SOp _ _ ⟨_, .call ⟨.value (.func 21), _, _⟩, _, _, _, none⟩ _ _ _; first | (refine n_call (f := 21) rfl Tryd.call21 (h := AEq.pure' agT (lgB_is _ _ (by assumption) (by assumption)) (hq := ?_))))) | (refine hK _ _ ?_; clear hK K))
  refine pwp_loop_k [4, 9, 10, 11, 12, 13, 14, 15, 42, 43, 44, 45, 46, 47, 48, 49, 50, 51, 52, 53, 54, 55, 56, 57, 58, 59, 60, 61, 62, 63, 64, 65, 66, 67, 68, 69, 70, 71, 72, 73, 74, 75, 76, 77, 78, 79, 80, 81, 82, 83, 84, 85, 86, 87, 88, 89, 90, 91, 92, 93, 94, 95, 96, 97, 98] (fun q : LS => [(42, i64 q.i)]) (fun q => [.box [.row 1 q.s, i64 (sumW q.xs), i64 q.m], .row q.s 67 3 (q.xs.map flA), .box [.ptr 0 0], .box [.sl q.f false (q.xs.reverse.map flA), i64 q.m]]) (fun q => q.i ≤ l.length ∧ q.xs.length ≤ 120 * q.i ∧ TOk ⟨q.xs, q.s, q.m⟩) (fun q => l.length - q.i) ⟨0, 0, xsE, mx, true⟩ ⟨Nat.zero_le _, by rw [xsE_len]; exact Nat.zero_le _, ⟨by dsimp only; rw [xsE_sum]; exact hm0, hm0, hm1, xsE_size⟩⟩ ?_ (by dsimp only; rw [xsE_rev]) ?_
  · have hU := True.intro
    (refine ⟨⟨_, sT, ?_⟩, trivial⟩ <;> (try (first | exact aleT)))
  · rintro ⟨i, s, xs, m, f2⟩ ⟨hi, hxi, hok⟩
    have hok2 := hok
    obtain ⟨hS, h0, h1, hbb⟩ := hok2
    dsimp only at hi hxi hS h0 h1 hbb ⊢
    simp only [mask, List.map_cons, List.map_nil, List.cons_append, List.nil_append]
    by_cases hlt : i < l.length
    · obtain ⟨b, hb1⟩ := ex_at hlt
      have hb2 := hbd b (List.mem_of_getElem? hb1)
      obtain ⟨⟨⟨F, S, ⟨xt, st, mt⟩⟩, E⟩, htot⟩ : ∃ p, decM b.length b ⟨xs0, ss0, ⟨xs, 0, m⟩⟩ = p := ⟨_, rfl⟩
      by_cases hE : E = 0
      · subst hE
        obtain ⟨⟨i1, i2, i3, i4⟩, j2, j3, j4⟩ := decM_inv b.length b ⟨xs0, ss0, ⟨xs, 0, m⟩⟩ _ (Nat.le_refl _) (by omega) ⟨hS, h0, h1, hbb⟩ htot
        dsimp only at i1 i2 i3 i4 j2 j3 j4
        rw [xs0_len] at j3
        rw [ss0_len] at j4
        have hrl : xt.reverse.length = xt.length := List.length_reverse
        have hrs := sumW_rev xt
        have hrb : ∀ f ∈ xt.reverse, f.n.size ≤ 1000000000 ∧ f.v.size ≤ 1000000000 := fun f hf => by have := i4 f (List.mem_reverse.1 hf); omega
        have hU := @hrs
        repeat' (first | (guard_target =~ PWp _ _ _ _ _ _ _; first | (refine pwp_seq_k (fun K hK => ?_)) | (refine pwp_block ?_) | (refine pwp_rg_then ?_) | (refine pwp_draw mixed (by kernel_rfl) ?_) | (refine pwp_skip ?_) | ((refine pwp_cond_d (fun hcd => ?_) (fun hcd => ?_)) <;> (try simp only [hcP] at hcd) <;> (try exact cdT))) | (guard_target =~ rg _ _ _ _ _ _ _; first | (guard_target =~ rg _ _ _ (⟨_, .move _, _, _, _, some _⟩ :: _) _ _ _; first | (refine rg_gtp rfl (h := ?_)) | (refine rg_gt rfl (h := ?_))) | (guard_target =~ rg _ _ _ (⟨_, .load _ _, _, _, _, some _⟩ :: _) _ _ _; first | (refine rg_gtp rfl (h := ?_)) | (refine rg_gt rfl (h := ?_))) | (guard_target =~ rg _ _ _ (⟨_, .unOp _ _ _, _, _, _, some _⟩ :: _) _ _ _; first | (refine rg_gtp rfl (h := ?_)) | (refine rg_gt rfl (h := ?_))) | (guard_target =~ rg _ _ _ (⟨_, .fieldAddr _ _ _, _, _, _, some _⟩ :: _) _ _ _; first | (refine rg_gtp rfl (h := ?_)) | (refine rg_gt rfl (h := ?_))) | (guard_target =~ rg _ _ _ (⟨_, .binOp _ _ _ _ _, _, _, _, some _⟩ :: _) _ _ _; first | (refine rg_gtp rfl (h := ?_)) | (refine rg_gt rfl (h := ?_))) | (guard_target =~ rg _ _ _ (⟨_, .call ⟨.value (.func 27), _, _⟩, _, _, _, some _⟩ :: _) _ _ _; first | (refine rg_gtp rfl (h := ?_)) | (refine rg_gt rfl (h := ?_))) | (guard_target =~ rg _ _ _ (⟨_, .call ⟨.value (.func 28), _, _⟩, _, _, _, some _⟩ :: _) _ _ _; first | (refine rg_gtp rfl (h := ?_)) | (refine rg_gt rfl (h := ?_))) | (guard_target =~ rg _ _ _ (⟨_, .call ⟨.value (.func 32), _, _⟩, _, _, _, some _⟩ :: _) _ _ _; first | (refine rg_gtp rfl (h := ?_)) | (refine rg_gt rfl (h := ?_))) | (guard_target =~ rg _ _ _ (⟨_, .call ⟨.value (.func 30), _, _⟩, _, _, _, some _⟩ :: _) _ _ _; first | (refine rg_gtp rfl (h := ?_)) | (refine rg_gt rfl (h := ?_))) | (guard_target =~ rg _ _ _ (⟨_, .call ⟨.value (.func 31), _, _⟩, _, _, _, some _⟩ :: _) _ _ _; first | (refine rg_gtp rfl (h := ?_)) | (refine rg_gt rfl (h := ?_))) | (guard_target =~ rg _ _ _ (⟨_, .call ⟨.value (.func 22), _, _⟩, _, _, _, some _⟩ :: _) _ _ _; first | (refine rg_gtp rfl (h := ?_)) | (refine rg_gt rfl (h := ?_))) | (guard_target =~ rg _ _ _ [] _ _ _; first | (refine rg_end ?_)) | (refine rg_a rfl (h := ?_)) | (refine rg_x rfl (hy := rfl) (h := ?_)) | (refine rg_v rfl (h := ?_)) | (refine rg_s rfl ?_) | (refine rg_n rfl ?_)) | (guard_target =~ SOp _ _ _ _ _ _; first | (guard_target =~ SOp _ _ ⟨_, .store _ _ _, _, _, _, none⟩ _ _ _; first | (refine n_store rfl (hK := ?_))) | (guard_target =~ SOp _ _ ⟨_, .alloc _, _, _, _, none⟩ _ _ _; first | (refine n_alloc rfl (by first | exact zv3 | exact zv4 | exact zv5 | exact zv9 | exact zv22 | exact zv28 | exact zv44 | exact zv46 | exact zv50 | exact zv52 | exact zv53 | exact zv55 | exact zv67 | exact zv69 | exact zv71 | exact zv112 | fail) (hK := ?_))) | (guard_target =~ SOp _ _ ⟨_, .call ⟨.value (.func 27), _, _⟩, _, _, _, some _⟩ _ _ _; first | (refine n_call (f := 27) rfl Tryd.call27 (h := AEq.pure' agT (r_same _ _ _ _ _ aoT) (hq := ?_)))) | (guard_target =~ SOp _ _ ⟨_, .indexAddr _ _ _, _, _, _, none⟩ _ _ _; first | (refine n_index rfl (hK := ?_))) | (guard_target =~ SOp _ _ ⟨_, .call ⟨.value (.func 28), _, _⟩, _, _, _, some _⟩ _ _ _; first | (refine n_call (f := 28) rfl Tryd.call28 (h := AEq.pure' agT (isame _ _ _ _ _ aoT) (hq := ?_)))) | (guard_target =~ SOp _ _ ⟨_, .call ⟨.value (.func 26), _, _⟩, _, _, _, none⟩ _ _ _; first | (refine n_call (f := 26) rfl Tryd.call26 (h := AEq.pure' agT (rdec_ok _ _ _ _ _ _ _ aoT aoT aoT aoT aoT aoT _ aoT) (hq := ?_)))) | (guard_target =~ SOp _ _ ⟨_, .call ⟨.value (.func 25), _, _⟩, _, _, _, none⟩ _ _ _; first | (refine n_call (f := 25) rfl Tryd.call25 (h := AEq.sub' [_, _, _] (hc := dec_ok _ _ _ _ _ _ aoT aoT aoT aoT aoT aoT _ aoT) (hq := ?_))))) | (guard_target =~ dg _ _ _ _ _ _ _; first | (guard_target =~ dg _ _ _ (⟨_, .move _, _, _, _, none⟩ :: _) _ _ _; first | (refine dg_v rfl (hk := ?_))) | (guard_target =~ dg _ _ _ (⟨_, .pick _ _ _, _, _, _, none⟩ :: _) _ _ _; first | (refine dg_v rfl (hk := ?_))) | (guard_target =~ dg _ _ _ (⟨_, .binOp _ _ _ _ _, _, _, _, none⟩ :: _) _ _ _; first | (refine dg_v rfl (hk := ?_))) | (guard_target =~ dg _ _ _ (⟨_, .move _, _, _, _, some _⟩ :: _) _ _ _; first | (refine dg_gtp rfl (hk := ?_))) | (guard_target =~ dg _ _ _ (⟨_, .load _ _, _, _, _, some _⟩ :: _) _ _ _; first | (refine dg_gtp rfl (hk := ?_))) | (guard_target =~ dg _ _ _ (⟨_, .load _ _, _, _, _, none⟩ :: _) _ _ _; first | (refine dg_v rfl (hk := ?_))) | (guard_target =~ dg _ _ _ (⟨_, .unOp _ _ _, _, _, _, some _⟩ :: _) _ _ _; first | (refine dg_gtp rfl (hk := ?_))) | (guard_target =~ dg _ _ _ (⟨_, .fieldAddr _ _ _, _, _, _, some _⟩ :: _) _ _ _; first | (refine dg_gtp rfl (hk := ?_))) | (guard_target =~ dg _ _ _ (⟨_, .binOp _ _ _ _ _, _, _, _, some _⟩ :: _) _ _ _; first | (refine dg_gtp rfl (hk := ?_))) | (guard_target =~ dg _ _ _ (⟨_, .call ⟨.value (.func 27), _, _⟩, _, _, _, some _⟩ :: _) _ _ _; first | (refine dg_gtp rfl (hk := ?_)) | (refine dg_c (x := _) (h := ro_gt (h := n_call (f := 27) rfl Tryd.call27 (h := AEq.pure' agT (r_same _ _ _ _ _ aoT) (hq := ro_end ⟨rfl, rfl⟩)))) (hk := ?_))) | (guard_target =~ dg _ _ _ (⟨_, .call ⟨.builtin .len, _, _⟩, _, _, _, none⟩ :: _) _ _ _; first | (refine dg_v rfl (hk := ?_))) | (guard_target =~ dg _ _ _ (⟨_, .call ⟨.value (.func 28), _, _⟩, _, _, _, some _⟩ :: _) _ _ _; first | (refine dg_gtp rfl (hk := ?_))) | (guard_target =~ dg _ _ _ (⟨_, .fieldAddr _ _ _, _, _, _, none⟩ :: _) _ _ _; first | (refine dg_v rfl (hk := ?_))) | (guard_target =~ dg _ _ _ (⟨_, .call ⟨.value (.func 32), _, _⟩, _, _, _, some _⟩ :: _) _ _ _; first | (refine dg_gtp rfl (hk := ?_)) | (refine dg_c (x := _) (h := ro_gt (h := n_call (f := 32) rfl Tryd.call32 (h := AEq.sub' [_, _, _] (hc := dall _ _ _ _ aoT) (hq := ro_end ⟨rfl, rfl⟩)))) (hk := ?_))) | (guard_target =~ dg _ _ _ (⟨_, .call ⟨.value (.func 30), _, _⟩, _, _, _, some _⟩ :: _) _ _ _; first | (refine dg_gtp rfl (hk := ?_)) | (refine dg_c (x := _) (h := ro_gt (h := n_call (f := 30) rfl Tryd.call30 (h := AEq.sub' [_, _, _] (hc := dsize _ _ _ _) (hq := ro_end ⟨rfl, rfl⟩)))) (hk := ?_))) | (guard_target =~ dg _ _ _ (⟨_, .call ⟨.value (.func 31), _, _⟩, _, _, _, some _⟩ :: _) _ _ _; first | (refine dg_gtp rfl (hk := ?_)) | (refine dg_c (x := _) (h := ro_gt (h := n_call (f := 31) rfl Tryd.call31 (h := AEq.pure' agT (r_size _ _ _ aoT aoT aoT) (hq := ro_end ⟨rfl, rfl⟩)))) (hk := ?_))) | (guard_target =~ dg _ _ _ (⟨_, .call ⟨.value (.func 22), _, _⟩, _, _, _, some _⟩ :: _) _ _ _; first | (refine dg_gtp rfl (hk := ?_))) | (guard_target =~ dg _ _ _ (⟨_, .call ⟨.value (.func 29), _, _⟩, _, _, _, none⟩ :: _) _ _ _; first | (refine dg_c (x := _) (h := ro_s (h := n_call (f := 29) rfl Tryd.call29 (h := AEq.sub' [_, _, _] (hc := dmax _ _ _ _) (hq := ro_end ⟨rfl, rfl⟩)))) (hk := ?_))) | (guard_target =~ dg _ _ _ (⟨_, .unOp _ _ _, _, _, _, none⟩ :: _) _ _ _; first | (refine dg_v rfl (hk := ?_))) | (guard_target =~ dg _ _ _ [] _ _ _; first | (refine dg_nil ?_))) | (refine hK _ _ ?_; clear hK K))
        refine ⟨⟨i + 1, st, xt, mt, false⟩, [4, 5, 2, 3], ⟨by dsimp only; omega, by dsimp only; omega, ⟨i1, i2, i3, i4⟩⟩, by dsimp only; omega, rfl, ?_, (by repeat' (first | exact agr_refl | refine agr_cons (by rfl) ?_)), ?_⟩
        · dsimp only
          have hU := True.intro
          (refine ⟨⟨_, sT, ?_⟩, trivial⟩ <;> (try (first | exact aleT)))
        · dsimp only
          first | rfl | (simp (disch := omega) only [go_sem, seval, ↓reduceIte]; done) | (simp (disch := omega) only [go_sem, seval, ↓reduceIte]; rfl) | trace_state
      · have hrl : xs.reverse.length = xs.length := List.length_reverse
        have hrs := sumW_rev xs
        have hrb : ∀ f ∈ xs.reverse, f.n.size ≤ 1000000000 ∧ f.v.size ≤ 1000000000 := fun f hf => by have := hbb f (List.mem_reverse.1 hf); omega
        have hU := @hrs
        repeat' (first | (guard_target =~ PWp _ _ _ _ _ _ _; first | (refine pwp_seq_k (fun K hK => ?_)) | (refine pwp_block ?_) | (refine pwp_rg_then ?_) | (refine pwp_draw mixed (by kernel_rfl) ?_) | (refine pwp_skip ?_) | ((refine pwp_cond_d (fun hcd => ?_) (fun hcd => ?_)) <;> (try simp only [hcP] at hcd) <;> (try exact cdT))) | (guard_target =~ rg _ _ _ _ _ _ _; first | (guard_target =~ rg _ _ _ (⟨_, .move _, _, _, _, some _⟩ :: _) _ _ _; first | (refine rg_gtp rfl (h := ?_)) | (refine rg_gt rfl (h := ?_))) | (guard_target =~ rg _ _ _ (⟨_, .load _ _, _, _, _, some _⟩ :: _) _ _ _; first | (refine rg_gtp rfl (h := ?_)) | (refine rg_gt rfl (h := ?_))) | (guard_target =~ rg _ _ _ (⟨_, .unOp _ _ _, _, _, _, some _⟩ :: _) _ _ _; first | (refine rg_gtp rfl (h := ?_)) | (refine rg_gt rfl (h := ?_))) | (guard_target =~ rg _ _ _ (⟨_, .fieldAddr _ _ _, _, _, _, some _⟩ :: _) _ _ _; first | (refine rg_gtp rfl (h := ?_)) | (refine rg_gt rfl (h := ?_))) | (guard_target =~ rg _ _ _ (⟨_, .binOp _ _ _ _ _, _, _, _, some _⟩ :: _) _ _ _; first | (refine rg_gtp rfl (h := ?_)) | (refine rg_gt rfl (h := ?_))) | (guard_target =~ rg _ _ _ (⟨_, .call ⟨.value (.func 27), _, _⟩, _, _, _, some _⟩ :: _) _ _ _; first | (refine rg_gtp rfl (h := ?_)) | (refine rg_gt rfl (h := ?_))) | (guard_target =~ rg _ _ _ (⟨_, .call ⟨.value (.func 28), _, _⟩, _, _, _, some _⟩ :: _) _ _ _; first | (refine rg_gtp rfl (h := ?_)) | (refine rg_gt rfl (h := ?_))) | (guard_target =~ rg _ _ _ (⟨_, .call ⟨.value (.func 32), _, _⟩, _, _, _, some _⟩ :: _) _ _ _; first | (refine rg_gtp rfl (h := ?_)) | (refine rg_gt rfl (h := ?_))) | (guard_target =~ rg _ _ _ (⟨_, .call ⟨.value (.func 30), _, _⟩, _, _, _, some _⟩ :: _) _ _ _; first | (refine rg_gtp rfl (h := ?_)) | (refine rg_gt rfl (h := ?_))) | (guard_target =~ rg _ _ _ (⟨_, .call ⟨.value (.func 31), _, _⟩, _, _, _, some _⟩ :: _) _ _ _; first | (refine rg_gtp rfl (h := ?_)) | (refine rg_gt rfl (h := ?_))) | (guard_target =~ rg _ _ _ (⟨_, .call ⟨.value (.func 22), _, _⟩, _, _, _, some _⟩ :: _) _ _ _; first | (refine rg_gtp rfl (h := ?_)) | (refine rg_gt rfl (h := ?_))) | (guard_target =~ rg _ _ _ [] _ _ _; first | (refine rg_end ?_)) | (refine rg_a rfl (h := ?_)) | (refine rg_x rfl (hy := rfl) (h := ?_)) | (refine rg_v rfl (h := ?_)) | (refine rg_s rfl ?_) | (refine rg_n rfl ?_)) | (guard_target =~ SOp _ _ _ _ _ _; first | (guard_target =~ SOp _ _ ⟨_, .store _ _ _, _, _, _, none⟩ _ _ _; first | (refine n_store rfl (hK := ?_))) | (guard_target =~ SOp _ _ ⟨_, .alloc _, _, _, _, none⟩ _ _ _; first | (refine n_alloc rfl (by first | exact zv3 | exact zv4 | exact zv5 | exact zv9 | exact zv22 | exact zv28 | exact zv44 | exact zv46 | exact zv50 | exact zv52 | exact zv53 | exact zv55 | exact zv67 | exact zv69 | exact zv71 | exact zv112 | fail) (hK := ?_))) | (guard_target =~ SOp _ _ ⟨_, .call ⟨.value (.func 27), _, _⟩, _, _, _, some _⟩ _ _ _; first | (refine n_call (f := 27) rfl Tryd.call27 (h := AEq.pure' agT r_same_nil (hq := ?_)))) | (guard_target =~ SOp _ _ ⟨_, .indexAddr _ _ _, _, _, _, none⟩ _ _ _; first | (refine n_index rfl (hK := ?_))) | (guard_target =~ SOp _ _ ⟨_, .call ⟨.value (.func 28), _, _⟩, _, _, _, some _⟩ _ _ _; first | (refine n_call (f := 28) rfl Tryd.call28 (h := AEq.pure' agT isame_nil (hq := ?_)))) | (guard_target =~ SOp _ _ ⟨_, .call ⟨.value (.func 26), _, _⟩, _, _, _, none⟩ _ _ _; first | (refine n_call (f := 26) rfl Tryd.call26 (h := AEq.pure' agT (rdec_no _ _ _ _ _ _ _ aoT aoT aoT aoT aoT aoT _ _ aoT aoT) (hq := ?_)))) | (guard_target =~ SOp _ _ ⟨_, .call ⟨.value (.func 25), _, _⟩, _, _, _, none⟩ _ _ _; first | (refine n_call (f := 25) rfl Tryd.call25 (h := AEq.sub' [_, _, _] (hc := dec_no _ _ _ _ _ _ aoT aoT aoT aoT aoT aoT _ _ aoT aoT) (hq := ?_))))) | (guard_target =~ dg _ _ _ _ _ _ _; first | (guard_target =~ dg _ _ _ (⟨_, .move _, _, _, _, none⟩ :: _) _ _ _; first | (refine dg_v rfl (hk := ?_))) | (guard_target =~ dg _ _ _ (⟨_, .pick _ _ _, _, _, _, none⟩ :: _) _ _ _; first | (refine dg_v rfl (hk := ?_))) | (guard_target =~ dg _ _ _ (⟨_, .binOp _ _ _ _ _, _, _, _, none⟩ :: _) _ _ _; first | (refine dg_v rfl (hk := ?_))) | (guard_target =~ dg _ _ _ (⟨_, .move _, _, _, _, some _⟩ :: _) _ _ _; first | (refine dg_gtp rfl (hk := ?_))) | (guard_target =~ dg _ _ _ (⟨_, .load _ _, _, _, _, some _⟩ :: _) _ _ _; first | (refine dg_gtp rfl (hk := ?_))) | (guard_target =~ dg _ _ _ (⟨_, .load _ _, _, _, _, none⟩ :: _) _ _ _; first | (refine dg_v rfl (hk := ?_))) | (guard_target =~ dg _ _ _ (⟨_, .unOp _ _ _, _, _, _, some _⟩ :: _) _ _ _; first | (refine dg_gtp rfl (hk := ?_))) | (guard_target =~ dg _ _ _ (⟨_, .fieldAddr _ _ _, _, _, _, some _⟩ :: _) _ _ _; first | (refine dg_gtp rfl (hk := ?_))) | (guard_target =~ dg _ _ _ (⟨_, .binOp _ _ _ _ _, _, _, _, some _⟩ :: _) _ _ _; first | (refine dg_gtp rfl (hk := ?_))) | (guard_target =~ dg _ _ _ (⟨_, .call ⟨.value (.func 27), _, _⟩, _, _, _, some _⟩ :: _) _ _ _; first | (refine dg_gtp rfl (hk := ?_)) | (refine dg_c (x := _) (h := ro_gt (h := n_call (f := 27) rfl Tryd.call27 (h := AEq.pure' agT (r_same _ _ _ _ _ aoT) (hq := ro_end ⟨rfl, rfl⟩)))) (hk := ?_))) | (guard_target =~ dg _ _ _ (⟨_, .call ⟨.builtin .len, _, _⟩, _, _, _, none⟩ :: _) _ _ _; first | (refine dg_v rfl (hk := ?_))) | (guard_target =~ dg _ _ _ (⟨_, .call ⟨.value (.func 28), _, _⟩, _, _, _, some _⟩ :: _) _ _ _; first | (refine dg_gtp rfl (hk := ?_))) | (guard_target =~ dg _ _ _ (⟨_, .fieldAddr _ _ _, _, _, _, none⟩ :: _) _ _ _; first | (refine dg_v rfl (hk := ?_))) | (guard_target =~ dg _ _ _ (⟨_, .call ⟨.value (.func 32), _, _⟩, _, _, _, some _⟩ :: _) _ _ _; first | (refine dg_gtp rfl (hk := ?_)) | (refine dg_c (x := _) (h := ro_gt (h := n_call (f := 32) rfl Tryd.call32 (h := AEq.sub' [_, _, _] (hc := dall _ _ _ _ aoT) (hq := ro_end ⟨rfl, rfl⟩)))) (hk := ?_))) | (guard_target =~ dg _ _ _ (⟨_, .call ⟨.value (.func 30), _, _⟩, _, _, _, some _⟩ :: _) _ _ _; first | (refine dg_gtp rfl (hk := ?_)) | (refine dg_c (x := _) (h := ro_gt (h := n_call (f := 30) rfl Tryd.call30 (h := AEq.sub' [_, _, _] (hc := dsize _ _ _ _) (hq := ro_end ⟨rfl, rfl⟩)))) (hk := ?_))) | (guard_target =~ dg _ _ _ (⟨_, .call ⟨.value (.func 31), _, _⟩, _, _, _, some _⟩ :: _) _ _ _; first | (refine dg_gtp rfl (hk := ?_)) | (refine dg_c (x := _) (h := ro_gt (h := n_call (f := 31) rfl Tryd.call31 (h := AEq.pure' agT (r_size _ _ _ aoT aoT aoT) (hq := ro_end ⟨rfl, rfl⟩)))) (hk := ?_))) | (guard_target =~ dg _ _ _ (⟨_, .call ⟨.value (.func 22), _, _⟩, _, _, _, some _⟩ :: _) _ _ _; first | (refine dg_gtp rfl (hk := ?_))) | (guard_target =~ dg _ _ _ (⟨_, .call ⟨.value (.func 29), _, _⟩, _, _, _, none⟩ :: _) _ _ _; first | (refine dg_c (x := _) (h := ro_s (h := n_call (f := 29) rfl Tryd.call29 (h := AEq.sub' [_, _, _] (hc := dmax _ _ _ _) (hq := ro_end ⟨rfl, rfl⟩)))) (hk := ?_))) | (guard_target =~ dg _ _ _ (⟨_, .unOp _ _ _, _, _, _, none⟩ :: _) _ _ _; first | (refine dg_v rfl (hk := ?_))) | (guard_target =~ dg _ _ _ [] _ _ _; first | (refine dg_nil ?_))) | (refine hK _ _ ?_; clear hK K))
        refine ⟨⟨i + 1, s, xs, m, f2⟩, [0, 1, 2, 3], ⟨by dsimp only; omega, by dsimp only; omega, hok⟩, by dsimp only; omega, rfl, ?_, (by repeat' (first | exact agr_refl | refine agr_cons (by rfl) ?_)), ?_⟩
        · dsimp only
          have hU := True.intro
          (refine ⟨⟨_, sT, ?_⟩, trivial⟩ <;> (try (first | exact aleT)))
        · dsimp only
          first | rfl | (simp (disch := omega) only [go_sem, seval, ↓reduceIte]; done) | (simp (disch := omega) only [go_sem, seval, ↓reduceIte]; rfl) | trace_state
    · have hU := True.intro
      repeat' (first | (guard_target =~ PWp _ _ _ _ _ _ _; first | (refine pwp_seq_k (fun K hK => ?_)) | (refine pwp_rg_then ?_) | (refine pwp_ret ?_) | (refine pwp_exit ?_) | ((refine pwp_cond_d (fun hcd => ?_) (fun hcd => ?_)) <;> (try simp only [hcP] at hcd) <;> (try exact cdT))) | (guard_target =~ rg _ _ _ _ _ _ _; first | (guard_target =~ rg _ _ _ [] _ _ _; first | (refine rg_end ?_)) | (refine rg_a rfl (h := ?_)) | (refine rg_v rfl (h := ?_)) | (refine rg_s rfl ?_)) | (guard_target =~ SOp _ _ _ _ _ _; first | (guard_target =~ SOp _ _ ⟨_, .call ⟨.value (.func 22), _, _⟩, _, _, _, none⟩ _ _ _; first | (refine n_call (f := 22) rfl Tryd.call22 (h := AEq.pure' agT alive23 (hq := ?_)))) | (guard_target =~ SOp _ _ ⟨_, .call ⟨.value (.func 22), _, _⟩, _, _, _, some _⟩ _ _ _; first | (refine n_call (f := 22) rfl Tryd.call22 (h := AEq.pure' agT alive23 (hq := ?_))))) | (guard_target =~ (_ ∨ _) ∧ _; first | ((refine end_d [] (by rw [Tryd.results6, Lf.res1]) (ale_1 ?_) ?_) <;> (try (first | exact aleT | exact stq (by with_reducible rfl) | exact stq (by rfl) | exact stq (by simp (disch := omega) only [go_sem, seval, ↓reduceIte, hU]))))) | (refine hK _ _ ?_; clear hK K) | (apply_assumption (exfalso := false) (symm := false)))
end Go.Proofs.YtohbfcmmpaikhaaDoor

set_option linter.unusedVariables false
set_option linter.unusedSimpArgs false
namespace Go.Proofs.YtohbfcmmpaikhaaDoor
open Go Go.Lf Go.Proofs
attribute [local irreducible] Lf.rg Lf.ro Lf.PWp Lf.SOp Lf.ACall Lf.Scoped Lf.dg Lf.dw
set_option maxRecDepth 20000
set_option maxHeartbeats 4000000
theorem xsE_map : xsE.map flA = [] := rfl
def deczR (Q : DQ) (E : Int) : AV := if E = 0 then .tu [.ag [.sl false false (Q.F.map flA), .sl false false (Q.S.map intA)], i64 0] else .tu [.ag [.sl true false [], .sl true false []], i64 E]
theorem deczR_ok {Q : DQ} : deczR Q 0 = .tu [.ag [.sl false false (Q.F.map flA), .sl false false (Q.S.map intA)], i64 0] := if_pos rfl
theorem deczR_no {Q : DQ} {E : Int} (h : E ≠ 0) : deczR Q E = .tu [.ag [.sl true false [], .sl true false []], i64 E] := if_neg h
def deczT  (Q : DQ) (E : Int) : Sto := if E = 0 then [.box [.ptr 1 0], .box [.row 2 Q.t.s, i64 (sumW Q.t.xs), i64 Q.t.m], .row Q.t.s 67 3 (Q.t.xs.map flA)] else [.box [.lit (.pointer none)]]
theorem deczT_ok  {Q : DQ} : deczT  Q 0 = [.box [.ptr 1 0], .box [.row 2 Q.t.s, i64 (sumW Q.t.xs), i64 Q.t.m], .row Q.t.s 67 3 (Q.t.xs.map flA)] := if_pos rfl
theorem deczT_no  {Q : DQ} {E : Int} (h : E ≠ 0) : deczT  Q E = [.box [.lit (.pointer none)]] := if_neg h
attribute [local irreducible] wt sumW keptL flN addX stAt oneFl snI snF dAt xsE rgM decM xs0 ss0 dStep fG fV addT deczR deczT
set_option maxRecDepth 20000 in
theorem decz_all_r (f q : Bool) (b : List UInt8) (hb : b.length ≤ 50000) (Q : DQ) (E : Int) (htot : decM b.length b ⟨xs0, ss0, ⟨xsE, 0, 0⟩⟩ = (Q, E)) : AEq Tryd.prog 25 [.ptr 0 0, .sl f q (b.map byteA)] [.box [.lit (.pointer none)]] (deczR Q E) (deczT  Q E) := by
  have hx0 := xs0_len
  have hs0 := ss0_len
  have hxe := xsE_len
  have hxz := xsE_sum
  refine acall_body Tryd.func25 rfl Tryd.ntmps25 (by simp) (fun hsc => ?_); simp only [Lf.enter, Nat.reduceAdd]; clear hsc
  have hU := True.intro
  repeat' (first | (guard_target =~ PWp _ _ _ _ _ _ _; first | (refine pwp_seq_k (fun K hK => ?_)) | (refine pwp_block ?_) | (refine pwp_rg_then ?_) | (refine pwp_skip ?_) | ((refine pwp_cond_d (fun hcd => ?_) (fun hcd => ?_)) <;> (try simp only [hcP] at hcd) <;> (try exact cdT))) | (guard_target =~ rg _ _ _ _ _ _ _; first | (guard_target =~ rg _ _ _ [] _ _ _; first | (refine rg_end ?_)) | (refine rg_a rfl (h := ?_)) | (refine rg_v rfl (h := ?_)) | (refine rg_s rfl ?_) | (refine rg_n rfl ?_)) | (guard_target =~ SOp _ _ _ _ _ _; first | (guard_target =~ SOp _ _ ⟨_, .store _ _ _, _, _, _, none⟩ _ _ _; first | (refine n_store rfl (hK := ?_))) | (guard_target =~ SOp _ _ ⟨_, .build _ _, _, _, _, none⟩ _ _ _; first | (refine n_build rfl (by first | exact bd25 | exact bd27 | exact bd55 | exact bd67 | exact bd71 | exact bd110 | exact bd112 | fail) (hK := ?_))) | (guard_target =~ SOp _ _ ⟨_, .box _ _, _, _, _, none⟩ _ _ _; first | (refine n_box rfl (hK := ?_))) | (guard_target =~ SOp _ _ ⟨_, .alloc _, _, _, _, none⟩ _ _ _; first | (refine n_alloc rfl (by first | exact zv3 | exact zv4 | exact zv5 | exact zv9 | exact zv22 | exact zv25 | exact zv27 | exact zv28 | exact zv46 | exact zv50 | exact zv53 | exact zv55 | exact zv67 | exact zv69 | exact zv71 | exact zv107 | exact zv110 | exact zv112 | fail) (hK := ?_))) | (guard_target =~ SOp _ _ ⟨_, .call ⟨.value (.func 56), _, _⟩, _, _, _, none⟩ _ _ _; first | (refine n_call (f := 56) rfl Tryd.call56 (h := AEq.pure' agT t_copy0 (hq := ?_))))) | (refine hK _ _ ?_; clear hK K))
  refine pwp_rowc 2 0 67 3 (by decide) rfl rfl rfl ?_
  refine pwp_rowc 2 1 3 1 (by decide) rfl rfl rfl ?_
  refine pwp_rowc 3 0 67 3 (by decide) rfl rfl rfl ?_
  refine pwp_loop_k [1, 5, 7, 8, 9, 30, 31, 32, 33, 34, 35, 36, 37, 38, 39, 40, 41, 42, 43, 44, 45, 46, 47, 48, 49, 50, 51, 52, 53, 54, 55, 56, 57, 58, 59] (fun w : DW => [(1, .sl false q (w.b.map byteA))]) (fun w => [.box [.lit (.pointer none)], .box [.sl true false [], .sl true false []], .box [.row 4 w.a, .row 5 w.c, .ptr 3 0], .box [.row 6 w.q.t.s, i64 (sumW w.q.t.xs), i64 w.q.t.m], .row w.a 67 3 (w.q.F.map flA), .row w.c 3 1 (w.q.S.map intA), .row w.q.t.s 67 3 (w.q.t.xs.map flA)]) (fun w => DOk w ∧ decM w.n w.b w.q = (Q, E)) (fun w => w.b.length) ⟨b, b.length, 0, 0, ⟨xs0, ss0, ⟨xsE, 0, 0⟩⟩⟩ ⟨⟨Nat.le_refl _, hb, by dsimp only; omega, by dsimp only; omega, by dsimp only; omega, by dsimp only; omega, xsE_size, by dsimp only; omega, by dsimp only; omega⟩, htot⟩ ?_ (by dsimp only; rw [xs0_map, ss0_map, xsE_sum, xsE_map]; rfl) ?_
  · dsimp only
    (refine ⟨⟨_, sT, ?_⟩, trivial⟩ <;> (try (first | exact aleT)))
  · rintro ⟨b, n, a, c, ⟨F, S, ⟨xt, st, mt⟩⟩⟩ ⟨⟨hbn, hbN, hxN, hSt, hmt0, hmt1, hbt, hFN, hSN⟩, htt⟩
    dsimp only at hbn hbN hxN hSt hmt0 hmt1 hbt hFN hSN htt ⊢
    simp only [mask, List.map_cons, List.map_nil, List.cons_append, List.nil_append]
    by_cases hlt : b.length = 0
    · rw [decM_nil hlt] at htt
      obtain ⟨rfl, rfl⟩ : (⟨F, S, ⟨xt, st, mt⟩⟩ : DQ) = Q ∧ 0 = E := by simpa only [Prod.mk.injEq] using htt
      try dsimp only
      repeat' (first | (guard_target =~ PWp _ _ _ _ _ _ _; first | (refine pwp_seq_k (fun K hK => ?_)) | (refine pwp_rg_then ?_) | (refine pwp_ret ?_) | (refine pwp_exit ?_) | ((refine pwp_cond_d (fun hcd => ?_) (fun hcd => ?_)) <;> (try simp only [hcP] at hcd) <;> (try exact cdT))) | (guard_target =~ rg _ _ _ _ _ _ _; first | (guard_target =~ rg _ _ _ [] _ _ _; first | (refine rg_end ?_)) | (refine rg_a rfl (h := ?_)) | (refine rg_v rfl (h := ?_)) | (refine rg_n rfl ?_)) | (guard_target =~ SOp _ _ _ _ _ _; first | (guard_target =~ SOp _ _ ⟨_, .store _ _ _, _, _, _, none⟩ _ _ _; first | (refine n_store rfl (hK := ?_)))) | (guard_target =~ (_ ∨ _) ∧ _; first | (rw [deczR_ok, deczT_ok]) | ((refine end_q [0, 3, 6] (by first | exact .inr rfl | exact .inl rfl | fail) (by rfl) (by rw [Tryd.results25]; exact Lf.resM2 (by (try simp (disch := omega) only [Lf.resOne, go_sem, seval, ↓reduceIte, hU]); rfl) (by (try simp (disch := omega) only [Lf.resOne, go_sem, seval, ↓reduceIte, hU]); rfl)) sT sT (ale_2 ?_ ?_) ?_) <;> (try (first | exact aleT | exact stq (by with_reducible rfl) | exact stq (by rfl) | exact stq (by simp (disch := omega) only [go_sem, seval, ↓reduceIte, hU]))))) | (refine hK _ _ ?_; clear hK K) | (apply_assumption (exfalso := false) (symm := false)))
    obtain ⟨n', rfl⟩ : ∃ j, n = j + 1 := ⟨n - 1, by omega⟩
    have hrr := rg_right b
    have hrl := rg_len b
    obtain ⟨K, I, NM, NS, VL, VS, SZ, M, e1, hR⟩ : ∃ K I NM NS VL VS SZ M e, rgM b = ⟨K, I, NM, NS, VL, VS, SZ, M, e⟩ := ⟨_, _, _, _, _, _, _, _, _, rfl⟩
    by_cases he0 : e1 ≠ 0
    · have hee : (rgM b).e ≠ 0 := by rw [hR]; exact he0
      rw [decM_e hlt hee, hR] at htt
      obtain ⟨rfl, rfl⟩ : (⟨F, S, ⟨xt, st, mt⟩⟩ : DQ) = Q ∧ e1 = E := by simpa only [Prod.mk.injEq] using htt
      have hU := @hR
      repeat' (first | (guard_target =~ PWp _ _ _ _ _ _ _; first | (refine pwp_seq_k (fun K hK => ?_)) | (refine pwp_block ?_) | (refine pwp_rg_then ?_) | (refine pwp_ret ?_) | (refine pwp_skip ?_) | ((refine pwp_cond_d (fun hcd => ?_) (fun hcd => ?_)) <;> (try simp only [hcP] at hcd) <;> (try exact cdT))) | (guard_target =~ rg _ _ _ _ _ _ _; first | (guard_target =~ rg _ _ _ [] _ _ _; first | (refine rg_end ?_)) | (refine rg_a rfl (h := ?_)) | (refine rg_x rfl (hy := rfl) (h := ?_)) | (refine rg_v rfl (h := ?_)) | (refine rg_s rfl ?_) | (refine rg_n rfl ?_)) | (guard_target =~ SOp _ _ _ _ _ _; first | (guard_target =~ SOp _ _ ⟨_, .store _ _ _, _, _, _, none⟩ _ _ _; first | (refine n_store rfl (hK := ?_))) | (guard_target =~ SOp _ _ ⟨_, .build _ _, _, _, _, none⟩ _ _ _; first | (refine n_build rfl (by first | exact bd25 | exact bd27 | exact bd55 | exact bd67 | exact bd71 | exact bd110 | exact bd112 | fail) (hK := ?_))) | (guard_target =~ SOp _ _ ⟨_, .alloc _, _, _, _, none⟩ _ _ _; first | (refine n_alloc rfl (by first | exact zv3 | exact zv4 | exact zv5 | exact zv9 | exact zv22 | exact zv25 | exact zv27 | exact zv28 | exact zv46 | exact zv50 | exact zv53 | exact zv55 | exact zv67 | exact zv69 | exact zv71 | exact zv107 | exact zv110 | exact zv112 | fail) (hK := ?_))) | (guard_target =~ SOp _ _ ⟨_, .call ⟨.value (.func 13), _, _⟩, _, _, _, none⟩ _ _ _; first | (refine n_call (f := 13) rfl Tryd.call13 (h := AEq.pure' agT (pget22 _ _ _ (by omega)) (hq := ?_))))) | (guard_target =~ (_ ∨ _) ∧ _; first | (rw [deczR_no he0, deczT_no he0]) | ((refine end_q [0] (by first | exact .inr rfl | exact .inl rfl | fail) (by rfl) (by rw [Tryd.results25]; exact Lf.resM2 (by (try simp (disch := omega) only [Lf.resOne, go_sem, seval, ↓reduceIte, hU]); rfl) (by (try simp (disch := omega) only [Lf.resOne, go_sem, seval, ↓reduceIte, hU]); rfl)) sT sT (ale_2 ?_ ?_) ?_) <;> (try (first | exact aleT | exact stq (by with_reducible rfl) | exact stq (by rfl) | exact stq (by simp (disch := omega) only [go_sem, seval, ↓reduceIte, hU]))))) | (refine hK _ _ ?_; clear hK K))
    obtain rfl : e1 = 0 := by omega
    have he : (rgM b).e = 0 := by rw [hR]
    rcases hrr with ⟨h, _⟩ | ⟨_, hP, hM0, hM1⟩
    · exact absurd he h
    rw [hR] at hP hM0 hM1 hrl
    dsimp only at hP hM0 hM1 hrl
    obtain ⟨a1, rfl⟩ : ∃ j : Nat, M = j := ⟨M.toNat, by omega⟩
    have hM : (rgM b).n = (a1 : Int) := by rw [hR]
    have hdl : (b.drop a1).length = b.length - a1 := List.length_drop
    have hnz := asz NM
    have hvz := asz VL
    have hNMs : (⟨NM.toArray⟩ : ByteArray).size ≤ 1000000 := by omega
    have hVLs : (⟨VL.toArray⟩ : ByteArray).size ≤ 1000000 := by omega
    have hKb : 1 ≤ K ∧ K ≤ 5 := hP.1
    have hIb : 0 ≤ I ∧ I ≤ 2147483647 := hP.2.1
    have hZb : 0 ≤ SZ ∧ SZ ≤ 2147483647 := hP.2.2.1
    by_cases h5 : K = 5
    · subst h5
      by_cases hF0 : 0 < F.length
      · have hs := dStep_upd (Fs := F) (S := S) (t := ⟨xt, st, mt⟩) (r := rgM b) (by rw [hR]) hF0
        rw [decM_s hlt he hs (by decide)] at htt
        have h13 : (13 : Int) ≠ 0 := by decide
        obtain ⟨rfl, rfl⟩ : (⟨F, S, ⟨xt, st, mt⟩⟩ : DQ) = Q ∧ 13 = E := by simpa only [Prod.mk.injEq] using htt
        have hU := @hR
        repeat' (first | (guard_target =~ PWp _ _ _ _ _ _ _; first | (refine pwp_seq_k (fun K hK => ?_)) | (refine pwp_block ?_) | (refine pwp_rg_then ?_) | (refine pwp_rg ?_) | (refine pwp_ret ?_) | (refine pwp_skip ?_) | ((refine pwp_cond_d (fun hcd => ?_) (fun hcd => ?_)) <;> (try simp only [hcP] at hcd) <;> (try exact cdT))) | (guard_target =~ rg _ _ _ _ _ _ _; first | (guard_target =~ rg _ _ _ [] _ _ _; first | (refine rg_end ?_)) | (refine rg_a rfl (h := ?_)) | (refine rg_x rfl (hy := rfl) (h := ?_)) | (refine rg_v rfl (h := ?_)) | (refine rg_s rfl ?_) | (refine rg_n rfl ?_)) | (guard_target =~ SOp _ _ _ _ _ _; first | (guard_target =~ SOp _ _ ⟨_, .store _ _ _, _, _, _, none⟩ _ _ _; first | (refine n_store rfl (hK := ?_))) | (guard_target =~ SOp _ _ ⟨_, .build _ _, _, _, _, none⟩ _ _ _; first | (refine n_build rfl (by first | exact bd25 | exact bd27 | exact bd55 | exact bd67 | exact bd71 | exact bd110 | exact bd112 | fail) (hK := ?_))) | (guard_target =~ SOp _ _ ⟨_, .alloc _, _, _, _, none⟩ _ _ _; first | (refine n_alloc rfl (by first | exact zv3 | exact zv4 | exact zv5 | exact zv9 | exact zv22 | exact zv25 | exact zv27 | exact zv28 | exact zv46 | exact zv50 | exact zv53 | exact zv55 | exact zv67 | exact zv69 | exact zv71 | exact zv107 | exact zv110 | exact zv112 | fail) (hK := ?_))) | (guard_target =~ SOp _ _ ⟨_, .call ⟨.value (.func 13), _, _⟩, _, _, _, none⟩ _ _ _; first | (refine n_call (f := 13) rfl Tryd.call13 (h := AEq.pure' agT (pget22 _ _ _ aoT) (hq := ?_)))) | (guard_target =~ SOp _ _ ⟨_, .call ⟨.value (.func 57), _, _⟩, _, _, _, none⟩ _ _ _; first | (refine n_call (f := 57) rfl Tryd.call57 (h := AEq.sub' [_, _, _, _, _] (hc := xres_no _ _ _ _ _ _ _ _ aoT aoT) (hq := ?_))))) | (guard_target =~ (_ ∨ _) ∧ _; first | (rw [deczR_no h13, deczT_no h13]) | ((refine end_q [0] (by first | exact .inr rfl | exact .inl rfl | fail) (by rfl) (by rw [Tryd.results25]; exact Lf.resM2 (by (try simp (disch := omega) only [Lf.resOne, go_sem, seval, ↓reduceIte, hU]); rfl) (by (try simp (disch := omega) only [Lf.resOne, go_sem, seval, ↓reduceIte, hU]); rfl)) sT sT (ale_2 ?_ ?_) ?_) <;> (try (first | exact aleT | exact stq (by with_reducible rfl) | exact stq (by rfl) | exact stq (by simp (disch := omega) only [go_sem, seval, ↓reduceIte, hU]))))) | (refine hK _ _ ?_; clear hK K))
      have hs := dStep_res (Fs := F) (S := S) (t := ⟨xt, st, mt⟩) (r := rgM b) (by rw [hR]) hF0
      rw [hR] at hs
      dsimp only at hs
      have hkl := keptL_len SZ xt
      have hks := keptL_sum SZ hZb.1 xt
      have hsl := snI_len S SZ
      have hF00 : F.length = 0 := by omega
      have hap := (snI_map S SZ).symm
      have hSt2 : sumW xt ≤ 2147483647 := by omega
      have hs' : dStep ⟨F, S, ⟨xt, st, mt⟩⟩ (rgM b) = (⟨F, snI S SZ, ⟨keptL xt SZ, st + 1, SZ⟩⟩, 0) := by rw [hR]; exact hs
      have hU := @hR
      repeat' (first | (guard_target =~ PWp _ _ _ _ _ _ _; first | (refine pwp_seq_k (fun K hK => ?_)) | (refine pwp_block ?_) | (refine pwp_rg_then ?_) | (refine pwp_rg ?_) | (refine pwp_skip ?_) | ((refine pwp_cond_d (fun hcd => ?_) (fun hcd => ?_)) <;> (try simp only [hcP] at hcd) <;> (try exact cdT))) | (guard_target =~ rg _ _ _ _ _ _ _; first | (guard_target =~ rg _ _ _ [] _ _ _; first | (refine rg_end ?_)) | (refine rg_a rfl (h := ?_)) | (refine rg_x rfl (hy := rfl) (h := ?_)) | (refine rg_v rfl (h := ?_)) | (refine rg_s rfl ?_) | (refine rg_n rfl ?_)) | (guard_target =~ SOp _ _ _ _ _ _; first | (guard_target =~ SOp _ _ ⟨_, .store _ _ _, _, _, _, none⟩ _ _ _; first | (refine n_store rfl (hK := ?_))) | (guard_target =~ SOp _ _ ⟨_, .alloc _, _, _, _, none⟩ _ _ _; first | (refine n_alloc rfl (by first | exact zv3 | exact zv4 | exact zv5 | exact zv9 | exact zv22 | exact zv25 | exact zv27 | exact zv28 | exact zv46 | exact zv50 | exact zv53 | exact zv55 | exact zv67 | exact zv69 | exact zv71 | exact zv107 | exact zv110 | exact zv112 | fail) (hK := ?_))) | (guard_target =~ SOp _ _ ⟨_, .call ⟨.value (.func 13), _, _⟩, _, _, _, none⟩ _ _ _; first | (refine n_call (f := 13) rfl Tryd.call13 (h := AEq.pure' agT (pget22 _ _ _ aoT) (hq := ?_)))) | (guard_target =~ SOp _ _ ⟨_, .slice _ _ _ _ _, _, _, _, none⟩ _ _ _; first | (refine n_slice rfl (hg := (fun _ => (by simp only [go_sem, seval, ↓reduceIte, hU] <;> rfl))) (hK := ?_))) | (guard_target =~ SOp _ _ ⟨_, .call ⟨.value (.func 57), _, _⟩, _, _, _, none⟩ _ _ _; first | (refine n_call (f := 57) rfl Tryd.call57 (h := AEq.sub' [_, _, _, _, _] (hc := xres_ok _ _ _ _ _ _ _ _ aoT aoT aoT aoT aoT aoT aoT aoT aoT aoT) (hq := ?_))))) | (refine hK _ _ ?_; clear hK K) | (dsimp only [Lf.thenQ, Lf.blockQ]))
      refine ⟨⟨b.drop a1, n', a, c + 1, ⟨F, snI S SZ, ⟨keptL xt SZ, st + 1, SZ⟩⟩⟩, [0, 1, 2, 3, 4, 5, 6], ⟨⟨by dsimp only; omega, by dsimp only; omega, by dsimp only; omega, hks, hZb.1, hZb.2, fun f hf => hbt f (keptL_mem _ _ f hf), by dsimp only; omega, by dsimp only; omega⟩, ?_⟩, ?_, rfl, ?_, (by repeat' (first | exact agr_refl | refine agr_cons (by rfl) ?_)), ?_⟩
      · (rw [← htt]; exact (decM_r hlt he hM hs').symm)
      · dsimp only; omega
      · dsimp only
        have hU := True.intro
        (refine ⟨⟨_, sT, ?_⟩, trivial⟩ <;> (try (first | exact aleT)))
      · dsimp only
        first | rfl | (simp (disch := omega) only [go_sem, seval, ↓reduceIte]; done) | (simp (disch := omega) only [go_sem, seval, ↓reduceIte]; rfl) | trace_state
    have hSt2 : sumW xt ≤ 2147483647 := by omega
    have hxt9 : xt.length ≤ 90000 := by omega
    cases hg : fG xt (rgM b) with
    | none =>
      have hs := dStep_no (Fs := F) (S := S) (t := ⟨xt, st, mt⟩) (r := rgM b) (by rw [hR]; exact h5) hg
      rw [decM_s hlt he hs (by decide)] at htt
      by_cases hI0 : I = 0
      · rw [fG_0 (by rw [hR]; exact hI0)] at hg; exact absurd hg (by simp)
      rw [fG_i (by rw [hR]; exact hI0), hR] at hg
      dsimp only at hg
      have h12 : (12 : Int) ≠ 0 := by decide
      obtain ⟨rfl, rfl⟩ : (⟨F, S, ⟨xt, st, mt⟩⟩ : DQ) = Q ∧ 12 = E := by simpa only [Prod.mk.injEq] using htt
      have hU := @hR
      repeat' (first | (guard_target =~ PWp _ _ _ _ _ _ _; first | (refine pwp_seq_k (fun K hK => ?_)) | (refine pwp_block ?_) | (refine pwp_rg_then ?_) | (refine pwp_rg ?_) | (refine pwp_ret ?_) | (refine pwp_skip ?_) | ((refine pwp_cond_d (fun hcd => ?_) (fun hcd => ?_)) <;> (try simp only [hcP] at hcd) <;> (try exact cdT))) | (guard_target =~ rg _ _ _ _ _ _ _; first | (guard_target =~ rg _ _ _ [] _ _ _; first | (refine rg_end ?_)) | (refine rg_a rfl (h := ?_)) | (refine rg_x rfl (hy := rfl) (h := ?_)) | (refine rg_v rfl (h := ?_)) | (refine rg_s rfl ?_) | (refine rg_n rfl ?_)) | (guard_target =~ SOp _ _ _ _ _ _; first | (guard_target =~ SOp _ _ ⟨_, .store _ _ _, _, _, _, none⟩ _ _ _; first | (refine n_store rfl (hK := ?_))) | (guard_target =~ SOp _ _ ⟨_, .build _ _, _, _, _, none⟩ _ _ _; first | (refine n_build rfl (by first | exact bd25 | exact bd27 | exact bd55 | exact bd67 | exact bd71 | exact bd110 | exact bd112 | fail) (hK := ?_))) | (guard_target =~ SOp _ _ ⟨_, .alloc _, _, _, _, none⟩ _ _ _; first | (refine n_alloc rfl (by first | exact zv3 | exact zv4 | exact zv5 | exact zv9 | exact zv22 | exact zv25 | exact zv27 | exact zv28 | exact zv46 | exact zv50 | exact zv53 | exact zv55 | exact zv67 | exact zv69 | exact zv71 | exact zv107 | exact zv110 | exact zv112 | fail) (hK := ?_))) | (guard_target =~ SOp _ _ ⟨_, .call ⟨.value (.func 13), _, _⟩, _, _, _, none⟩ _ _ _; first | (refine n_call (f := 13) rfl Tryd.call13 (h := AEq.pure' agT (pget22 _ _ _ aoT) (hq := ?_)))) | (guard_target =~ SOp _ _ ⟨_, .call ⟨.value (.func 58), _, _⟩, _, _, _, none⟩ _ _ _; first | (refine n_call (f := 58) rfl Tryd.call58 (h := AEq.sub' [_, _, _, _, _] (hc := xf_no _ _ _ _ _ _ _ _ _ _ _ _ _ _ aoT aoT aoT aoT) (hq := ?_))))) | (guard_target =~ (_ ∨ _) ∧ _; first | (rw [deczR_no h12, deczT_no h12]) | ((refine end_q [0] (by first | exact .inr rfl | exact .inl rfl | fail) (by rfl) (by rw [Tryd.results25]; exact Lf.resM2 (by (try simp (disch := omega) only [Lf.resOne, go_sem, seval, ↓reduceIte, hU]); rfl) (by (try simp (disch := omega) only [Lf.resOne, go_sem, seval, ↓reduceIte, hU]); rfl)) sT sT (ale_2 ?_ ?_) ?_) <;> (try (first | exact aleT | exact stq (by with_reducible rfl) | exact stq (by rfl) | exact stq (by simp (disch := omega) only [go_sem, seval, ↓reduceIte, hU]))))) | (refine hK _ _ ?_; clear hK K))
    | some g =>
      have hbase : (0 < I ∧ dAt xt I = some g) ∨ (I = 0 ∧ g = ⟨⟨NM.toArray⟩, ⟨#[]⟩, false⟩) := by
        by_cases hI0 : I = 0
        · rw [fG_0 (by rw [hR]; exact hI0), hR] at hg
          exact .inr ⟨hI0, (Option.some.inj hg).symm⟩
        · rw [fG_i (by rw [hR]; exact hI0), hR] at hg
          exact .inl ⟨by omega, hg⟩
      have hgs : g.n.size ≤ 1000000 ∧ g.v.size ≤ 1000000 := by
        rcases hbase with ⟨_, h⟩ | ⟨_, rfl⟩
        · exact dAt_size hbt h
        · exact ⟨hNMs, by show (0 : Nat) ≤ _; omega⟩
      obtain ⟨hgs1, hgs2⟩ := hgs
      by_cases hk : K = 1
      · subst hk
        have hfv : fV (rgM b) g = g := by rw [hR]; unfold fV; rfl
        have hs := dStep_f (Fs := F) (S := S) (t := ⟨xt, st, mt⟩) (r := rgM b) (by rw [hR]; show (1 : Int) ≠ 5; decide) (by rw [hR]; show (1 : Int) ≠ 2; decide) hg
        rw [hfv] at hs
        have hsn := snF_len F g
        have hU := @hR
        repeat' (first | (guard_target =~ PWp _ _ _ _ _ _ _; first | (refine pwp_seq_k (fun K hK => ?_)) | (refine pwp_block ?_) | (refine pwp_rg_then ?_) | (refine pwp_rg ?_) | (refine pwp_skip ?_) | ((refine pwp_cond_d (fun hcd => ?_) (fun hcd => ?_)) <;> (try simp only [hcP] at hcd) <;> (try exact cdT))) | (guard_target =~ rg _ _ _ _ _ _ _; first | (guard_target =~ rg _ _ _ [] _ _ _; first | (refine rg_end ?_)) | (refine rg_a rfl (h := ?_)) | (refine rg_x rfl (hy := rfl) (h := ?_)) | (refine rg_v rfl (h := ?_)) | (refine rg_s rfl ?_) | (refine rg_n rfl ?_)) | (guard_target =~ SOp _ _ _ _ _ _; first | (guard_target =~ SOp _ _ ⟨_, .store _ _ _, _, _, _, none⟩ _ _ _; first | (refine n_store rfl (hK := ?_))) | (guard_target =~ SOp _ _ ⟨_, .alloc _, _, _, _, none⟩ _ _ _; first | (refine n_alloc rfl (by first | exact zv3 | exact zv4 | exact zv5 | exact zv9 | exact zv22 | exact zv25 | exact zv27 | exact zv28 | exact zv46 | exact zv50 | exact zv53 | exact zv55 | exact zv67 | exact zv69 | exact zv71 | exact zv107 | exact zv110 | exact zv112 | fail) (hK := ?_))) | (guard_target =~ SOp _ _ ⟨_, .call ⟨.value (.func 13), _, _⟩, _, _, _, none⟩ _ _ _; first | (refine n_call (f := 13) rfl Tryd.call13 (h := AEq.pure' agT (pget22 _ _ _ aoT) (hq := ?_)))) | (guard_target =~ SOp _ _ ⟨_, .slice _ _ _ _ _, _, _, _, none⟩ _ _ _; first | (refine n_slice rfl (hg := (fun _ => (by simp only [go_sem, seval, ↓reduceIte, hU] <;> rfl))) (hK := ?_))) | (guard_target =~ SOp _ _ ⟨_, .call ⟨.value (.func 58), _, _⟩, _, _, _, none⟩ _ _ _; first | (refine n_call (f := 58) rfl Tryd.call58 (h := AEq.sub' [_, _, _, _, _] (hc := xf_1 _ _ _ _ _ _ _ _ _ _ _ _ _ aoT aoT aoT aoT aoT aoT aoT _ aoT aoT aoT aoT aoT aoT) (hq := ?_))))) | (refine hK _ _ ?_; clear hK K) | (dsimp only [Lf.thenQ, Lf.blockQ]))
        refine ⟨⟨b.drop a1, n', a + 1, c, ⟨snF F g, S, ⟨xt, st, mt⟩⟩⟩, [0, 1, 2, 3, 4, 5, 6], ⟨⟨by dsimp only; omega, by dsimp only; omega, by dsimp only; omega, hSt, hmt0, hmt1, hbt, by dsimp only; omega, by dsimp only; omega⟩, ?_⟩, ?_, rfl, ?_, (by repeat' (first | exact agr_refl | refine agr_cons (by rfl) ?_)), ?_⟩
        · (rw [← htt]; exact (decM_r hlt he hM hs).symm)
        · dsimp only; omega
        · dsimp only
          have hU := True.intro
          (refine ⟨⟨_, sT, ?_⟩, trivial⟩ <;> (try (first | exact aleT)))
        · dsimp only
          first | rfl | (simp (disch := omega) only [go_sem, seval, ↓reduceIte]; done) | (simp (disch := omega) only [go_sem, seval, ↓reduceIte]; rfl) | trace_state
      by_cases hk : K = 3
      · subst hk
        have hfv : fV (rgM b) g = ⟨g.n, ⟨VL.toArray⟩, false⟩ := by rw [hR]; unfold fV; rfl
        have hs := dStep_f (Fs := F) (S := S) (t := ⟨xt, st, mt⟩) (r := rgM b) (by rw [hR]; show (3 : Int) ≠ 5; decide) (by rw [hR]; show (3 : Int) ≠ 2; decide) hg
        rw [hfv] at hs
        have hsn := snF_len F ⟨g.n, ⟨VL.toArray⟩, false⟩
        have hU := @hR
        repeat' (first | (guard_target =~ PWp _ _ _ _ _ _ _; first | (refine pwp_seq_k (fun K hK => ?_)) | (refine pwp_block ?_) | (refine pwp_rg_then ?_) | (refine pwp_rg ?_) | (refine pwp_skip ?_) | ((refine pwp_cond_d (fun hcd => ?_) (fun hcd => ?_)) <;> (try simp only [hcP] at hcd) <;> (try exact cdT))) | (guard_target =~ rg _ _ _ _ _ _ _; first | (guard_target =~ rg _ _ _ [] _ _ _; first | (refine rg_end ?_)) | (refine rg_a rfl (h := ?_)) | (refine rg_x rfl (hy := rfl) (h := ?_)) | (refine rg_v rfl (h := ?_)) | (refine rg_s rfl ?_) | (refine rg_n rfl ?_)) | (guard_target =~ SOp _ _ _ _ _ _; first | (guard_target =~ SOp _ _ ⟨_, .store _ _ _, _, _, _, none⟩ _ _ _; first | (refine n_store rfl (hK := ?_))) | (guard_target =~ SOp _ _ ⟨_, .alloc _, _, _, _, none⟩ _ _ _; first | (refine n_alloc rfl (by first | exact zv3 | exact zv4 | exact zv5 | exact zv9 | exact zv22 | exact zv25 | exact zv27 | exact zv28 | exact zv46 | exact zv50 | exact zv53 | exact zv55 | exact zv67 | exact zv69 | exact zv71 | exact zv107 | exact zv110 | exact zv112 | fail) (hK := ?_))) | (guard_target =~ SOp _ _ ⟨_, .call ⟨.value (.func 13), _, _⟩, _, _, _, none⟩ _ _ _; first | (refine n_call (f := 13) rfl Tryd.call13 (h := AEq.pure' agT (pget22 _ _ _ aoT) (hq := ?_)))) | (guard_target =~ SOp _ _ ⟨_, .slice _ _ _ _ _, _, _, _, none⟩ _ _ _; first | (refine n_slice rfl (hg := (fun _ => (by simp only [go_sem, seval, ↓reduceIte, hU] <;> rfl))) (hK := ?_))) | (guard_target =~ SOp _ _ ⟨_, .call ⟨.value (.func 58), _, _⟩, _, _, _, none⟩ _ _ _; first | (refine n_call (f := 58) rfl Tryd.call58 (h := AEq.sub' [_, _, _, _, _] (hc := xf_3 _ _ _ _ _ _ _ _ _ _ _ _ _ aoT aoT aoT aoT aoT aoT aoT _ aoT aoT aoT aoT aoT aoT) (hq := ?_))))) | (refine hK _ _ ?_; clear hK K) | (dsimp only [Lf.thenQ, Lf.blockQ]))
        refine ⟨⟨b.drop a1, n', a + 1, c, ⟨snF F ⟨g.n, ⟨VL.toArray⟩, false⟩, S, ⟨xt, st, mt⟩⟩⟩, [0, 1, 2, 3, 4, 5, 6], ⟨⟨by dsimp only; omega, by dsimp only; omega, by dsimp only; omega, hSt, hmt0, hmt1, hbt, by dsimp only; omega, by dsimp only; omega⟩, ?_⟩, ?_, rfl, ?_, (by repeat' (first | exact agr_refl | refine agr_cons (by rfl) ?_)), ?_⟩
        · (rw [← htt]; exact (decM_r hlt he hM hs).symm)
        · dsimp only; omega
        · dsimp only
          have hU := True.intro
          (refine ⟨⟨_, sT, ?_⟩, trivial⟩ <;> (try (first | exact aleT)))
        · dsimp only
          first | rfl | (simp (disch := omega) only [go_sem, seval, ↓reduceIte]; done) | (simp (disch := omega) only [go_sem, seval, ↓reduceIte]; rfl) | trace_state
      by_cases hk : K = 4
      · subst hk
        have hfv : fV (rgM b) g = ⟨g.n, ⟨VL.toArray⟩, true⟩ := by rw [hR]; unfold fV; rfl
        have hs := dStep_f (Fs := F) (S := S) (t := ⟨xt, st, mt⟩) (r := rgM b) (by rw [hR]; show (4 : Int) ≠ 5; decide) (by rw [hR]; show (4 : Int) ≠ 2; decide) hg
        rw [hfv] at hs
        have hsn := snF_len F ⟨g.n, ⟨VL.toArray⟩, true⟩
        have hU := @hR
        repeat' (first | (guard_target =~ PWp _ _ _ _ _ _ _; first | (refine pwp_seq_k (fun K hK => ?_)) | (refine pwp_block ?_) | (refine pwp_rg_then ?_) | (refine pwp_rg ?_) | (refine pwp_skip ?_) | ((refine pwp_cond_d (fun hcd => ?_) (fun hcd => ?_)) <;> (try simp only [hcP] at hcd) <;> (try exact cdT))) | (guard_target =~ rg _ _ _ _ _ _ _; first | (guard_target =~ rg _ _ _ [] _ _ _; first | (refine rg_end ?_)) | (refine rg_a rfl (h := ?_)) | (refine rg_x rfl (hy := rfl) (h := ?_)) | (refine rg_v rfl (h := ?_)) | (refine rg_s rfl ?_) | (refine rg_n rfl ?_)) | (guard_target =~ SOp _ _ _ _ _ _; first | (guard_target =~ SOp _ _ ⟨_, .store _ _ _, _, _, _, none⟩ _ _ _; first | (refine n_store rfl (hK := ?_))) | (guard_target =~ SOp _ _ ⟨_, .alloc _, _, _, _, none⟩ _ _ _; first | (refine n_alloc rfl (by first | exact zv3 | exact zv4 | exact zv5 | exact zv9 | exact zv22 | exact zv25 | exact zv27 | exact zv28 | exact zv46 | exact zv50 | exact zv53 | exact zv55 | exact zv67 | exact zv69 | exact zv71 | exact zv107 | exact zv110 | exact zv112 | fail) (hK := ?_))) | (guard_target =~ SOp _ _ ⟨_, .call ⟨.value (.func 13), _, _⟩, _, _, _, none⟩ _ _ _; first | (refine n_call (f := 13) rfl Tryd.call13 (h := AEq.pure' agT (pget22 _ _ _ aoT) (hq := ?_)))) | (guard_target =~ SOp _ _ ⟨_, .slice _ _ _ _ _, _, _, _, none⟩ _ _ _; first | (refine n_slice rfl (hg := (fun _ => (by simp only [go_sem, seval, ↓reduceIte, hU] <;> rfl))) (hK := ?_))) | (guard_target =~ SOp _ _ ⟨_, .call ⟨.value (.func 58), _, _⟩, _, _, _, none⟩ _ _ _; first | (refine n_call (f := 58) rfl Tryd.call58 (h := AEq.sub' [_, _, _, _, _] (hc := xf_4 _ _ _ _ _ _ _ _ _ _ _ _ _ aoT aoT aoT aoT aoT aoT aoT _ aoT aoT aoT aoT aoT aoT) (hq := ?_))))) | (refine hK _ _ ?_; clear hK K) | (dsimp only [Lf.thenQ, Lf.blockQ]))
        refine ⟨⟨b.drop a1, n', a + 1, c, ⟨snF F ⟨g.n, ⟨VL.toArray⟩, true⟩, S, ⟨xt, st, mt⟩⟩⟩, [0, 1, 2, 3, 4, 5, 6], ⟨⟨by dsimp only; omega, by dsimp only; omega, by dsimp only; omega, hSt, hmt0, hmt1, hbt, by dsimp only; omega, by dsimp only; omega⟩, ?_⟩, ?_, rfl, ?_, (by repeat' (first | exact agr_refl | refine agr_cons (by rfl) ?_)), ?_⟩
        · (rw [← htt]; exact (decM_r hlt he hM hs).symm)
        · dsimp only; omega
        · dsimp only
          have hU := True.intro
          (refine ⟨⟨_, sT, ?_⟩, trivial⟩ <;> (try (first | exact aleT)))
        · dsimp only
          first | rfl | (simp (disch := omega) only [go_sem, seval, ↓reduceIte]; done) | (simp (disch := omega) only [go_sem, seval, ↓reduceIte]; rfl) | trace_state
      obtain rfl : K = 2 := by omega
      have hfv : fV (rgM b) g = ⟨g.n, ⟨VL.toArray⟩, false⟩ := by rw [hR]; unfold fV; rfl
      have hs := dStep_2 (Fs := F) (S := S) (t := ⟨xt, st, mt⟩) (r := rgM b) (by rw [hR]) hg
      rw [hfv] at hs
      have hsn := snF_len F ⟨g.n, ⟨VL.toArray⟩, false⟩
      by_cases hw : wt ⟨g.n, ⟨VL.toArray⟩, false⟩ ≤ mt
      · rw [addT_y hw] at hs
        dsimp only at hs
        have hxl := addX_len xt mt ⟨g.n, ⟨VL.toArray⟩, false⟩
        have hxs := addX_sum (xs := xt) hw
        have hU := @hR
        repeat' (first | (guard_target =~ PWp _ _ _ _ _ _ _; first | (refine pwp_seq_k (fun K hK => ?_)) | (refine pwp_block ?_) | (refine pwp_rg_then ?_) | (refine pwp_rg ?_) | (refine pwp_skip ?_) | ((refine pwp_cond_d (fun hcd => ?_) (fun hcd => ?_)) <;> (try simp only [hcP] at hcd) <;> (try exact cdT))) | (guard_target =~ rg _ _ _ _ _ _ _; first | (guard_target =~ rg _ _ _ [] _ _ _; first | (refine rg_end ?_)) | (refine rg_a rfl (h := ?_)) | (refine rg_x rfl (hy := rfl) (h := ?_)) | (refine rg_v rfl (h := ?_)) | (refine rg_s rfl ?_) | (refine rg_n rfl ?_)) | (guard_target =~ SOp _ _ _ _ _ _; first | (guard_target =~ SOp _ _ ⟨_, .store _ _ _, _, _, _, none⟩ _ _ _; first | (refine n_store rfl (hK := ?_))) | (guard_target =~ SOp _ _ ⟨_, .alloc _, _, _, _, none⟩ _ _ _; first | (refine n_alloc rfl (by first | exact zv3 | exact zv4 | exact zv5 | exact zv9 | exact zv22 | exact zv25 | exact zv27 | exact zv28 | exact zv46 | exact zv50 | exact zv53 | exact zv55 | exact zv67 | exact zv69 | exact zv71 | exact zv107 | exact zv110 | exact zv112 | fail) (hK := ?_))) | (guard_target =~ SOp _ _ ⟨_, .call ⟨.value (.func 13), _, _⟩, _, _, _, none⟩ _ _ _; first | (refine n_call (f := 13) rfl Tryd.call13 (h := AEq.pure' agT (pget22 _ _ _ aoT) (hq := ?_)))) | (guard_target =~ SOp _ _ ⟨_, .slice _ _ _ _ _, _, _, _, none⟩ _ _ _; first | (refine n_slice rfl (hg := (fun _ => (by simp only [go_sem, seval, ↓reduceIte, hU] <;> rfl))) (hK := ?_))) | (guard_target =~ SOp _ _ ⟨_, .call ⟨.value (.func 58), _, _⟩, _, _, _, none⟩ _ _ _; first | (refine n_call (f := 58) rfl Tryd.call58 (h := AEq.sub' [_, _, _, _, _] (hc := xf_2f _ _ _ _ _ _ _ _ _ _ _ _ _ aoT aoT aoT aoT aoT aoT aoT _ aoT aoT aoT aoT aoT aoT aoT) (hq := ?_))))) | (refine hK _ _ ?_; clear hK K) | (dsimp only [Lf.thenQ, Lf.blockQ]))
        refine ⟨⟨b.drop a1, n', a + 1, c, ⟨snF F ⟨g.n, ⟨VL.toArray⟩, false⟩, S, ⟨addX xt mt ⟨g.n, ⟨VL.toArray⟩, false⟩, st + 2, mt⟩⟩⟩, [0, 1, 2, 3, 4, 5, 6], ⟨⟨by dsimp only; omega, by dsimp only; omega, by dsimp only; omega, hxs, hmt0, hmt1, addX_size hbt hgs1 hVLs, by dsimp only; omega, by dsimp only; omega⟩, ?_⟩, ?_, rfl, ?_, (by repeat' (first | exact agr_refl | refine agr_cons (by rfl) ?_)), ?_⟩
        · (rw [← htt]; exact (decM_r hlt he hM hs).symm)
        · dsimp only; omega
        · dsimp only
          have hU := True.intro
          (refine ⟨⟨_, sT, ?_⟩, trivial⟩ <;> (try (first | exact aleT)))
        · dsimp only
          first | rfl | (simp (disch := omega) only [go_sem, seval, ↓reduceIte]; done) | (simp (disch := omega) only [go_sem, seval, ↓reduceIte]; rfl) | trace_state
      · rw [addT_n hw] at hs
        dsimp only at hs
        have hwn : mt < wt ⟨g.n, ⟨VL.toArray⟩, false⟩ := by omega
        have hxl := xsE_len
        have hxs := xsE_sum
        have hU := @hR
        repeat' (first | (guard_target =~ PWp _ _ _ _ _ _ _; first | (refine pwp_seq_k (fun K hK => ?_)) | (refine pwp_block ?_) | (refine pwp_rg_then ?_) | (refine pwp_rg ?_) | (refine pwp_skip ?_) | ((refine pwp_cond_d (fun hcd => ?_) (fun hcd => ?_)) <;> (try simp only [hcP] at hcd) <;> (try exact cdT))) | (guard_target =~ rg _ _ _ _ _ _ _; first | (guard_target =~ rg _ _ _ [] _ _ _; first | (refine rg_end ?_)) | (refine rg_a rfl (h := ?_)) | (refine rg_x rfl (hy := rfl) (h := ?_)) | (refine rg_v rfl (h := ?_)) | (refine rg_s rfl ?_) | (refine rg_n rfl ?_)) | (guard_target =~ SOp _ _ _ _ _ _; first | (guard_target =~ SOp _ _ ⟨_, .store _ _ _, _, _, _, none⟩ _ _ _; first | (refine n_store rfl (hK := ?_))) | (guard_target =~ SOp _ _ ⟨_, .alloc _, _, _, _, none⟩ _ _ _; first | (refine n_alloc rfl (by first | exact zv3 | exact zv4 | exact zv5 | exact zv9 | exact zv22 | exact zv25 | exact zv27 | exact zv28 | exact zv46 | exact zv50 | exact zv53 | exact zv55 | exact zv67 | exact zv69 | exact zv71 | exact zv107 | exact zv110 | exact zv112 | fail) (hK := ?_))) | (guard_target =~ SOp _ _ ⟨_, .call ⟨.value (.func 13), _, _⟩, _, _, _, none⟩ _ _ _; first | (refine n_call (f := 13) rfl Tryd.call13 (h := AEq.pure' agT (pget22 _ _ _ aoT) (hq := ?_)))) | (guard_target =~ SOp _ _ ⟨_, .slice _ _ _ _ _, _, _, _, none⟩ _ _ _; first | (refine n_slice rfl (hg := (fun _ => (by simp only [go_sem, seval, ↓reduceIte, hU] <;> rfl))) (hK := ?_))) | (guard_target =~ SOp _ _ ⟨_, .call ⟨.value (.func 58), _, _⟩, _, _, _, none⟩ _ _ _; first | (refine n_call (f := 58) rfl Tryd.call58 (h := AEq.sub' [_, _, _, _, _] (hc := xf_2n _ _ _ _ _ _ _ _ _ _ _ _ _ aoT aoT aoT aoT aoT aoT aoT _ aoT aoT aoT aoT aoT aoT aoT) (hq := ?_))))) | (refine hK _ _ ?_; clear hK K) | (dsimp only [Lf.thenQ, Lf.blockQ]))
        refine ⟨⟨b.drop a1, n', a + 1, c, ⟨snF F ⟨g.n, ⟨VL.toArray⟩, false⟩, S, ⟨xsE, st + 1, mt⟩⟩⟩, [0, 1, 2, 3, 4, 5, 6], ⟨⟨by dsimp only; omega, by dsimp only; omega, by dsimp only; omega, by dsimp only; omega, hmt0, hmt1, xsE_size, by dsimp only; omega, by dsimp only; omega⟩, ?_⟩, ?_, rfl, ?_, (by repeat' (first | exact agr_refl | refine agr_cons (by rfl) ?_)), ?_⟩
        · (rw [← htt]; exact (decM_r hlt he hM hs).symm)
        · dsimp only; omega
        · dsimp only
          have hU := True.intro
          (refine ⟨⟨_, sT, ?_⟩, trivial⟩ <;> (try (first | exact aleT)))
        · dsimp only
          first | rfl | (simp (disch := omega) only [go_sem, seval, ↓reduceIte]; done) | (simp (disch := omega) only [go_sem, seval, ↓reduceIte]; rfl) | trace_state
theorem decz_ok (f q : Bool) (b : List UInt8) (hb : b.length ≤ 50000) (Q : DQ) (htot : decM b.length b ⟨xs0, ss0, ⟨xsE, 0, 0⟩⟩ = (Q, 0)) : AEq Tryd.prog 25 [.ptr 0 0, .sl f q (b.map byteA)] [.box [.lit (.pointer none)]] (.tu [.ag [.sl false false (Q.F.map flA), .sl false false (Q.S.map intA)], i64 0]) [.box [.ptr 1 0], .box [.row 2 Q.t.s, i64 (sumW Q.t.xs), i64 Q.t.m], .row Q.t.s 67 3 (Q.t.xs.map flA)] := by
  have h := decz_all_r f q b hb Q 0 htot
  rw [deczR_ok, deczT_ok] at h
  exact h
theorem decz_no (f q : Bool) (b : List UInt8) (hb : b.length ≤ 50000) (Q : DQ) (E : Int) (hE : E ≠ 0) (htot : decM b.length b ⟨xs0, ss0, ⟨xsE, 0, 0⟩⟩ = (Q, E)) : AEq Tryd.prog 25 [.ptr 0 0, .sl f q (b.map byteA)] [.box [.lit (.pointer none)]] (.tu [.ag [.sl true false [], .sl true false []], i64 E]) [.box [.lit (.pointer none)]] := by
  have h := decz_all_r f q b hb Q E htot
  rw [deczR_no hE, deczT_no hE] at h
  exact h
end Go.Proofs.YtohbfcmmpaikhaaDoor

set_option linter.unusedVariables false
set_option linter.unusedSimpArgs false
namespace Go.Proofs.YtohbfcmmpaikhaaDoor
open Go Go.Lf Go.Proofs
attribute [local irreducible] Lf.rg Lf.ro Lf.PWp Lf.SOp Lf.ACall Lf.Scoped Lf.dg Lf.dw
set_option maxRecDepth 20000
set_option maxHeartbeats 4000000
theorem rdecz_ok (f q : Bool) (b : List UInt8) (hb : b.length ≤ 50000) (Q : DQ) (htot : decM b.length b ⟨xs0, ss0, ⟨xsE, 0, 0⟩⟩ = (Q, 0)) : AEq Tryd.prog 26 [.ag [.sl true false [], i64 0], .sl f q (b.map byteA)] [] (.tu [.sl false false (Q.F.map flA), .sl false false (Q.S.map intA), .ag [.sl false false (Q.t.xs.reverse.map flA), i64 Q.t.m], i64 0]) [] :=
  rdec_ok true f q b xsE 0 0 hb (by decide) (by decide) (by decide) (by decide) xsE_size Q htot
theorem rdecz_no (f q : Bool) (b : List UInt8) (hb : b.length ≤ 50000) (Q : DQ) (E : Int) (hE : E ≠ 0) (htot : decM b.length b ⟨xs0, ss0, ⟨xsE, 0, 0⟩⟩ = (Q, E)) : AEq Tryd.prog 26 [.ag [.sl true false [], i64 0], .sl f q (b.map byteA)] [] (.tu [.sl true false [], .sl true false [], .ag [.sl true false [], i64 0], i64 E]) [] :=
  rdec_no true f q b xsE 0 0 hb (by decide) (by decide) (by decide) (by decide) xsE_size Q E hE htot
theorem r_size_nil : AEq Tryd.prog 31 [.ag [.sl true false [], i64 0]] [] (i64 0) [] := r_size true [] 0 (by simp) (by decide) (by simp)
attribute [local irreducible] wt sumW decM xs0 ss0 xsE
theorem dtab_z : AEq Tryd.prog 62 [.ptr 0 0] [.box [.lit (.pointer none)]] (.lit (.pointer none)) [.box [.lit (.pointer none)]] := by
  refine acall_body Tryd.func62 rfl Tryd.ntmps62 (by simp) (fun hsc => ?_); simp only [Lf.enter, Nat.reduceAdd]; clear hsc
  have hU := True.intro
  repeat' (first | (guard_target =~ PWp _ _ _ _ _ _ _; first | (refine pwp_seq_k (fun K hK => ?_)) | (refine pwp_rg_then ?_) | (refine pwp_ret ?_) | (refine pwp_skip ?_) | ((refine pwp_cond_d (fun hcd => ?_) (fun hcd => ?_)) <;> (try simp only [hcP] at hcd) <;> (try exact cdT))) | (guard_target =~ rg _ _ _ _ _ _ _; first | (guard_target =~ rg _ _ _ [] _ _ _; first | (refine rg_end ?_)) | (refine rg_a rfl (h := ?_)) | (refine rg_v rfl (h := ?_))) | (guard_target =~ (_ ∨ _) ∧ _; first | ((refine end_d [0] (by rw [Tryd.results62, Lf.res1]) (ale_1 ?_) ?_) <;> (try (first | exact aleT | exact stq (by with_reducible rfl) | exact stq (by rfl) | exact stq (by simp (disch := omega) only [go_sem, seval, ↓reduceIte, hU]))))) | (refine hK _ _ ?_; clear hK K))
theorem dmax_z : AEq Tryd.prog 29 [.ptr 0 0] [.box [.lit (.pointer none)]] (i64 0) [.box [.lit (.pointer none)]] := by
  refine acall_body Tryd.func29 rfl Tryd.ntmps29 (by simp) (fun hsc => ?_); simp only [Lf.enter, Nat.reduceAdd]; clear hsc
  have hU := True.intro
  repeat' (first | (guard_target =~ PWp _ _ _ _ _ _ _; first | (refine pwp_seq_k (fun K hK => ?_)) | (refine pwp_rg_then ?_) | (refine pwp_ret ?_)) | (guard_target =~ rg _ _ _ _ _ _ _; first | (guard_target =~ rg _ _ _ [] _ _ _; first | (refine rg_end ?_)) | (refine rg_a rfl (h := ?_)) | (refine rg_v rfl (h := ?_)) | (refine rg_s rfl ?_)) | (guard_target =~ SOp _ _ _ _ _ _; first | (guard_target =~ SOp _ _ ⟨_, .call ⟨.value (.func 63), _, _⟩, _, _, _, none⟩ _ _ _; first | (refine n_call (f := 63) rfl Tryd.call63 (h := AEq.pure' agT t_max0 (hq := ?_)))) | (guard_target =~ SOp _ _ ⟨_, .call ⟨.value (.func 62), _, _⟩, _, _, _, none⟩ _ _ _; first | (refine n_call (f := 62) rfl Tryd.call62 (h := AEq.sub' [_] (hc := dtab_z) (hq := ?_))))) | (guard_target =~ (_ ∨ _) ∧ _; first | ((refine end_d [0] (by rw [Tryd.results29, Lf.res1]) (ale_1 ?_) ?_) <;> (try (first | exact aleT | exact stq (by with_reducible rfl) | exact stq (by rfl) | exact stq (by simp (disch := omega) only [go_sem, seval, ↓reduceIte, hU]))))) | (refine hK _ _ ?_; clear hK K))
theorem dsize_z : AEq Tryd.prog 30 [.ptr 0 0] [.box [.lit (.pointer none)]] (i64 0) [.box [.lit (.pointer none)]] := by
  refine acall_body Tryd.func30 rfl Tryd.ntmps30 (by simp) (fun hsc => ?_); simp only [Lf.enter, Nat.reduceAdd]; clear hsc
  have hU := True.intro
  repeat' (first | (guard_target =~ PWp _ _ _ _ _ _ _; first | (refine pwp_seq_k (fun K hK => ?_)) | (refine pwp_rg_then ?_) | (refine pwp_ret ?_)) | (guard_target =~ rg _ _ _ _ _ _ _; first | (guard_target =~ rg _ _ _ [] _ _ _; first | (refine rg_end ?_)) | (refine rg_a rfl (h := ?_)) | (refine rg_v rfl (h := ?_)) | (refine rg_s rfl ?_)) | (guard_target =~ SOp _ _ _ _ _ _; first | (guard_target =~ SOp _ _ ⟨_, .call ⟨.value (.func 62), _, _⟩, _, _, _, none⟩ _ _ _; first | (refine n_call (f := 62) rfl Tryd.call62 (h := AEq.sub' [_] (hc := dtab_z) (hq := ?_)))) | (guard_target =~ SOp _ _ ⟨_, .call ⟨.value (.func 64), _, _⟩, _, _, _, none⟩ _ _ _; first | (refine n_call (f := 64) rfl Tryd.call64 (h := AEq.pure' agT t_size0 (hq := ?_))))) | (guard_target =~ (_ ∨ _) ∧ _; first | ((refine end_d [0] (by rw [Tryd.results30, Lf.res1]) (ale_1 ?_) ?_) <;> (try (first | exact aleT | exact stq (by with_reducible rfl) | exact stq (by rfl) | exact stq (by simp (disch := omega) only [go_sem, seval, ↓reduceIte, hU]))))) | (refine hK _ _ ?_; clear hK K))
set_option maxRecDepth 20000 in
theorem law_dcnobody (f : Bool) (b : List UInt8) (hb : b.length ≤ 9223372036854775807) : AEq Tryd.prog 8 [.sl f false (b.map byteA)] [] (bl true) [] := by
  by_cases hlen : 120 < b.length
  · refine acall_body Tryd.func8 rfl Tryd.ntmps8 (by simp) (fun hsc => ?_); simp only [Lf.enter, Nat.reduceAdd]; clear hsc
    have hU := True.intro
    repeat' (first | (guard_target =~ PWp _ _ _ _ _ _ _; first | (refine pwp_seq_k (fun K hK => ?_)) | (refine pwp_rg_then ?_) | (refine pwp_ret ?_) | ((refine pwp_cond_d (fun hcd => ?_) (fun hcd => ?_)) <;> (try simp only [hcP] at hcd) <;> (try exact cdT))) | (guard_target =~ rg _ _ _ _ _ _ _; first | (guard_target =~ rg _ _ _ [] _ _ _; first | (refine rg_end ?_)) | (refine rg_a rfl (h := ?_)) | (refine rg_v rfl (h := ?_)) | (refine rg_s rfl ?_)) | (guard_target =~ SOp _ _ _ _ _ _; first | (guard_target =~ SOp _ _ ⟨_, .call ⟨.value (.func 22), _, _⟩, _, _, _, none⟩ _ _ _; first | (refine n_call (f := 22) rfl Tryd.call22 (h := AEq.pure' agT alive23 (hq := ?_)))) | (guard_target =~ SOp _ _ ⟨_, .call ⟨.value (.func 22), _, _⟩, _, _, _, some _⟩ _ _ _; first | (refine n_call (f := 22) rfl Tryd.call22 (h := AEq.pure' agT alive23 (hq := ?_))))) | (guard_target =~ (_ ∨ _) ∧ _; first | ((refine end_d [] (by rw [Tryd.results8, Lf.res1]) (ale_1 ?_) ?_) <;> (try (first | exact aleT | exact stq (by with_reducible rfl) | exact stq (by rfl) | exact stq (by simp (disch := omega) only [go_sem, seval, ↓reduceIte, hU]))))) | (refine hK _ _ ?_; clear hK K))
  obtain ⟨⟨⟨F, S, ⟨xt, st, mt⟩⟩, E⟩, htot⟩ : ∃ p, decM b.length b ⟨xs0, ss0, ⟨xsE, 0, 0⟩⟩ = p := ⟨_, rfl⟩
  by_cases hE : E = 0
  · subst hE
    obtain ⟨⟨i1, i2, i3, i4⟩, j2, j3, j4⟩ := decM_inv b.length b ⟨xs0, ss0, ⟨xsE, 0, 0⟩⟩ _ (Nat.le_refl _) (by omega) ⟨by dsimp only; rw [xsE_sum]; decide, by decide, by decide, xsE_size⟩ htot
    dsimp only at i1 i2 i3 i4 j2 j3 j4
    rw [xs0_len] at j3
    rw [ss0_len] at j4
    rw [xsE_len] at j2
    have hrl : xt.reverse.length = xt.length := List.length_reverse
    have hrs := sumW_rev xt
    have hrb : ∀ f ∈ xt.reverse, f.n.size ≤ 1000000000 ∧ f.v.size ≤ 1000000000 := fun f hf => by have := i4 f (List.mem_reverse.1 hf); omega
    refine acall_body Tryd.func8 rfl Tryd.ntmps8 (by simp) (fun hsc => ?_); simp only [Lf.enter, Nat.reduceAdd]; clear hsc
    have hU := @hrs
    repeat' (first | (guard_target =~ PWp _ _ _ _ _ _ _; first | (refine pwp_seq_k (fun K hK => ?_)) | (refine pwp_rg_then ?_) | (refine pwp_draw mixed (by kernel_rfl) ?_) | (refine pwp_ret ?_) | (refine pwp_skip ?_) | ((refine pwp_cond_d (fun hcd => ?_) (fun hcd => ?_)) <;> (try simp only [hcP] at hcd) <;> (try exact cdT))) | (guard_target =~ rg _ _ _ _ _ _ _; first | (guard_target =~ rg _ _ _ [] _ _ _; first | (refine rg_end ?_)) | (refine rg_a rfl (h := ?_)) | (refine rg_x rfl (hy := rfl) (h := ?_)) | (refine rg_v rfl (h := ?_)) | (refine rg_s rfl ?_) | (refine rg_n rfl ?_)) | (guard_target =~ SOp _ _ _ _ _ _; first | (guard_target =~ SOp _ _ ⟨_, .alloc _, _, _, _, none⟩ _ _ _; first | (refine n_alloc rfl (by first | exact zv3 | exact zv4 | exact zv5 | exact zv9 | exact zv22 | exact zv28 | exact zv46 | exact zv50 | exact zv52 | exact zv53 | exact zv55 | exact zv67 | exact zv69 | exact zv71 | exact zv112 | fail) (hK := ?_))) | (guard_target =~ SOp _ _ ⟨_, .store _ _ _, _, _, _, none⟩ _ _ _; first | (refine n_store rfl (hK := ?_))) | (guard_target =~ SOp _ _ ⟨_, .call ⟨.value (.func 25), _, _⟩, _, _, _, none⟩ _ _ _; first | (refine n_call (f := 25) rfl Tryd.call25 (h := AEq.sub' [_] (hc := decz_ok _ _ _ aoT _ aoT) (hq := ?_))) | (refine n_call (f := 25) rfl Tryd.call25 (h := AEq.pure' agT (dec_nil _) (hq := ?_)))) | (guard_target =~ SOp _ _ ⟨_, .build _ _, _, _, _, none⟩ _ _ _; first | (refine n_build rfl (by first | exact bd52 | exact bd55 | exact bd67 | exact bd71 | exact bd112 | fail) (hK := ?_))) | (guard_target =~ SOp _ _ ⟨_, .call ⟨.value (.func 26), _, _⟩, _, _, _, none⟩ _ _ _; first | (refine n_call (f := 26) rfl Tryd.call26 (h := AEq.pure' agT (rdecz_ok _ _ _ aoT _ aoT) (hq := ?_))))) | (guard_target =~ dg _ _ _ _ _ _ _; first | (guard_target =~ dg _ _ _ (⟨_, .move _, _, _, _, none⟩ :: _) _ _ _; first | (refine dg_v rfl (hk := ?_))) | (guard_target =~ dg _ _ _ (⟨_, .assign _, _, _, _, none⟩ :: _) _ _ _; first | (refine dg_a rfl (hk := ?_))) | (guard_target =~ dg _ _ _ (⟨_, .move _, _, _, _, some _⟩ :: _) _ _ _; first | (refine dg_gtp rfl (hk := ?_))) | (guard_target =~ dg _ _ _ (⟨_, .pick _ _ _, _, _, _, none⟩ :: _) _ _ _; first | (refine dg_v rfl (hk := ?_))) | (guard_target =~ dg _ _ _ (⟨_, .binOp _ _ _ _ _, _, _, _, some _⟩ :: _) _ _ _; first | (refine dg_gtp rfl (hk := ?_))) | (guard_target =~ dg _ _ _ (⟨_, .load _ _, _, _, _, some _⟩ :: _) _ _ _; first | (refine dg_gtp rfl (hk := ?_))) | (guard_target =~ dg _ _ _ (⟨_, .fieldAddr _ _ _, _, _, _, some _⟩ :: _) _ _ _; first | (refine dg_gtp rfl (hk := ?_))) | (guard_target =~ dg _ _ _ (⟨_, .call ⟨.builtin .len, _, _⟩, _, _, _, none⟩ :: _) _ _ _; first | (refine dg_v rfl (hk := ?_))) | (guard_target =~ dg _ _ _ (⟨_, .binOp _ _ _ _ _, _, _, _, none⟩ :: _) _ _ _; first | (refine dg_v rfl (hk := ?_))) | (guard_target =~ dg _ _ _ (⟨_, .call ⟨.value (.func 30), _, _⟩, _, _, _, some _⟩ :: _) _ _ _; first | (refine dg_gtp rfl (hk := ?_)) | (refine dg_c (x := _) (h := ro_gt (h := n_call (f := 30) rfl Tryd.call30 (h := AEq.sub' [_, _, _] (hc := dsize _ _ _ _) (hq := ro_end ⟨rfl, rfl⟩)))) (hk := ?_)) | (refine dg_c (x := _) (h := ro_gt (h := n_call (f := 30) rfl Tryd.call30 (h := AEq.pure' agT dsize0 (hq := ro_end ⟨rfl, rfl⟩)))) (hk := ?_))) | (guard_target =~ dg _ _ _ (⟨_, .fieldAddr _ _ _, _, _, _, none⟩ :: _) _ _ _; first | (refine dg_v rfl (hk := ?_))) | (guard_target =~ dg _ _ _ (⟨_, .load _ _, _, _, _, none⟩ :: _) _ _ _; first | (refine dg_v rfl (hk := ?_))) | (guard_target =~ dg _ _ _ (⟨_, .call ⟨.value (.func 29), _, _⟩, _, _, _, some _⟩ :: _) _ _ _; first | (refine dg_gtp rfl (hk := ?_)) | (refine dg_c (x := _) (h := ro_gt (h := n_call (f := 29) rfl Tryd.call29 (h := AEq.sub' [_, _, _] (hc := dmax _ _ _ _) (hq := ro_end ⟨rfl, rfl⟩)))) (hk := ?_)) | (refine dg_c (x := _) (h := ro_gt (h := n_call (f := 29) rfl Tryd.call29 (h := AEq.pure' agT dmax0 (hq := ro_end ⟨rfl, rfl⟩)))) (hk := ?_))) | (guard_target =~ dg _ _ _ (⟨_, .call ⟨.value (.func 27), _, _⟩, _, _, _, some _⟩ :: _) _ _ _; first | (refine dg_gtp rfl (hk := ?_)) | (refine dg_c (x := _) (h := ro_gt (h := n_call (f := 27) rfl Tryd.call27 (h := AEq.pure' agT (r_same _ _ _ _ _ aoT) (hq := ro_end ⟨rfl, rfl⟩)))) (hk := ?_))) | (guard_target =~ dg _ _ _ (⟨_, .call ⟨.value (.func 22), _, _⟩, _, _, _, some _⟩ :: _) _ _ _; first | (refine dg_gtp rfl (hk := ?_)) | (refine dg_c (x := _) (h := ro_gt (h := n_call (f := 22) rfl Tryd.call22 (h := AEq.pure' agT alive23 (hq := ro_end ⟨rfl, rfl⟩)))) (hk := ?_))) | (guard_target =~ dg _ _ _ (⟨_, .call ⟨.value (.func 31), _, _⟩, _, _, _, some _⟩ :: _) _ _ _; first | (refine dg_gtp rfl (hk := ?_)) | (refine dg_c (x := _) (h := ro_gt (h := n_call (f := 31) rfl Tryd.call31 (h := AEq.pure' agT (r_size _ _ _ aoT aoT aoT) (hq := ro_end ⟨rfl, rfl⟩)))) (hk := ?_))) | (guard_target =~ dg _ _ _ (⟨_, .call ⟨.value (.func 32), _, _⟩, _, _, _, some _⟩ :: _) _ _ _; first | (refine dg_gtp rfl (hk := ?_)) | (refine dg_c (x := _) (h := ro_gt (h := n_call (f := 32) rfl Tryd.call32 (h := AEq.pure' agT dall0 (hq := ro_end ⟨rfl, rfl⟩)))) (hk := ?_))) | (guard_target =~ dg _ _ _ (⟨_, .call ⟨.value (.func 28), _, _⟩, _, _, _, some _⟩ :: _) _ _ _; first | (refine dg_gtp rfl (hk := ?_)) | (refine dg_c (x := _) (h := ro_gt (h := n_call (f := 28) rfl Tryd.call28 (h := AEq.pure' agT (isame _ _ _ _ _ aoT) (hq := ro_end ⟨rfl, rfl⟩)))) (hk := ?_))) | (guard_target =~ dg _ _ _ (⟨_, .call ⟨.builtin .len, _, _⟩, _, _, _, some _⟩ :: _) _ _ _; first | (refine dg_gtp rfl (hk := ?_))) | (guard_target =~ dg _ _ _ [] _ _ _; first | (refine dg_nil ?_))) | (guard_target =~ (_ ∨ _) ∧ _; first | ((refine end_d [] (by rw [Tryd.results8, Lf.res1]) (ale_1 ?_) ?_) <;> (try (first | exact aleT | exact stq (by with_reducible rfl) | exact stq (by rfl) | exact stq (by simp (disch := omega) only [go_sem, seval, ↓reduceIte, hU]))))) | (refine hK _ _ ?_; clear hK K))
  · refine acall_body Tryd.func8 rfl Tryd.ntmps8 (by simp) (fun hsc => ?_); simp only [Lf.enter, Nat.reduceAdd]; clear hsc
    have hU := True.intro
    repeat' (first | (guard_target =~ PWp _ _ _ _ _ _ _; first | (refine pwp_seq_k (fun K hK => ?_)) | (refine pwp_rg_then ?_) | (refine pwp_draw mixed (by kernel_rfl) ?_) | (refine pwp_ret ?_) | (refine pwp_skip ?_) | ((refine pwp_cond_d (fun hcd => ?_) (fun hcd => ?_)) <;> (try simp only [hcP] at hcd) <;> (try exact cdT))) | (guard_target =~ rg _ _ _ _ _ _ _; first | (guard_target =~ rg _ _ _ [] _ _ _; first | (refine rg_end ?_)) | (refine rg_a rfl (h := ?_)) | (refine rg_x rfl (hy := rfl) (h := ?_)) | (refine rg_v rfl (h := ?_)) | (refine rg_s rfl ?_) | (refine rg_n rfl ?_)) | (guard_target =~ SOp _ _ _ _ _ _; first | (guard_target =~ SOp _ _ ⟨_, .alloc _, _, _, _, none⟩ _ _ _; first | (refine n_alloc rfl (by first | exact zv3 | exact zv4 | exact zv5 | exact zv9 | exact zv22 | exact zv28 | exact zv46 | exact zv50 | exact zv52 | exact zv53 | exact zv55 | exact zv67 | exact zv69 | exact zv71 | exact zv112 | fail) (hK := ?_))) | (guard_target =~ SOp _ _ ⟨_, .store _ _ _, _, _, _, none⟩ _ _ _; first | (refine n_store rfl (hK := ?_))) | (guard_target =~ SOp _ _ ⟨_, .call ⟨.value (.func 25), _, _⟩, _, _, _, none⟩ _ _ _; first | (refine n_call (f := 25) rfl Tryd.call25 (h := AEq.sub' [_] (hc := decz_no _ _ _ aoT _ _ aoT aoT) (hq := ?_))) | (refine n_call (f := 25) rfl Tryd.call25 (h := AEq.pure' agT (dec_nil _) (hq := ?_)))) | (guard_target =~ SOp _ _ ⟨_, .build _ _, _, _, _, none⟩ _ _ _; first | (refine n_build rfl (by first | exact bd52 | exact bd55 | exact bd67 | exact bd71 | exact bd112 | fail) (hK := ?_))) | (guard_target =~ SOp _ _ ⟨_, .call ⟨.value (.func 26), _, _⟩, _, _, _, none⟩ _ _ _; first | (refine n_call (f := 26) rfl Tryd.call26 (h := AEq.pure' agT (rdecz_no _ _ _ aoT _ _ aoT aoT) (hq := ?_))))) | (guard_target =~ dg _ _ _ _ _ _ _; first | (guard_target =~ dg _ _ _ (⟨_, .move _, _, _, _, none⟩ :: _) _ _ _; first | (refine dg_v rfl (hk := ?_))) | (guard_target =~ dg _ _ _ (⟨_, .assign _, _, _, _, none⟩ :: _) _ _ _; first | (refine dg_a rfl (hk := ?_))) | (guard_target =~ dg _ _ _ (⟨_, .move _, _, _, _, some _⟩ :: _) _ _ _; first | (refine dg_gtp rfl (hk := ?_))) | (guard_target =~ dg _ _ _ (⟨_, .pick _ _ _, _, _, _, none⟩ :: _) _ _ _; first | (refine dg_v rfl (hk := ?_))) | (guard_target =~ dg _ _ _ (⟨_, .binOp _ _ _ _ _, _, _, _, some _⟩ :: _) _ _ _; first | (refine dg_gtp rfl (hk := ?_))) | (guard_target =~ dg _ _ _ (⟨_, .load _ _, _, _, _, some _⟩ :: _) _ _ _; first | (refine dg_gtp rfl (hk := ?_))) | (guard_target =~ dg _ _ _ (⟨_, .fieldAddr _ _ _, _, _, _, some _⟩ :: _) _ _ _; first | (refine dg_gtp rfl (hk := ?_))) | (guard_target =~ dg _ _ _ (⟨_, .call ⟨.builtin .len, _, _⟩, _, _, _, none⟩ :: _) _ _ _; first | (refine dg_v rfl (hk := ?_))) | (guard_target =~ dg _ _ _ (⟨_, .binOp _ _ _ _ _, _, _, _, none⟩ :: _) _ _ _; first | (refine dg_v rfl (hk := ?_))) | (guard_target =~ dg _ _ _ (⟨_, .call ⟨.value (.func 30), _, _⟩, _, _, _, some _⟩ :: _) _ _ _; first | (refine dg_gtp rfl (hk := ?_)) | (refine dg_c (x := _) (h := ro_gt (h := n_call (f := 30) rfl Tryd.call30 (h := AEq.sub' [_] (hc := dsize_z) (hq := ro_end ⟨rfl, rfl⟩)))) (hk := ?_)) | (refine dg_c (x := _) (h := ro_gt (h := n_call (f := 30) rfl Tryd.call30 (h := AEq.pure' agT dsize0 (hq := ro_end ⟨rfl, rfl⟩)))) (hk := ?_))) | (guard_target =~ dg _ _ _ (⟨_, .fieldAddr _ _ _, _, _, _, none⟩ :: _) _ _ _; first | (refine dg_v rfl (hk := ?_))) | (guard_target =~ dg _ _ _ (⟨_, .load _ _, _, _, _, none⟩ :: _) _ _ _; first | (refine dg_v rfl (hk := ?_))) | (guard_target =~ dg _ _ _ (⟨_, .call ⟨.value (.func 29), _, _⟩, _, _, _, some _⟩ :: _) _ _ _; first | (refine dg_gtp rfl (hk := ?_)) | (refine dg_c (x := _) (h := ro_gt (h := n_call (f := 29) rfl Tryd.call29 (h := AEq.sub' [_] (hc := dmax_z) (hq := ro_end ⟨rfl, rfl⟩)))) (hk := ?_)) | (refine dg_c (x := _) (h := ro_gt (h := n_call (f := 29) rfl Tryd.call29 (h := AEq.pure' agT dmax0 (hq := ro_end ⟨rfl, rfl⟩)))) (hk := ?_))) | (guard_target =~ dg _ _ _ (⟨_, .call ⟨.value (.func 27), _, _⟩, _, _, _, some _⟩ :: _) _ _ _; first | (refine dg_gtp rfl (hk := ?_)) | (refine dg_c (x := _) (h := ro_gt (h := n_call (f := 27) rfl Tryd.call27 (h := AEq.pure' agT r_same_nil (hq := ro_end ⟨rfl, rfl⟩)))) (hk := ?_))) | (guard_target =~ dg _ _ _ (⟨_, .call ⟨.value (.func 22), _, _⟩, _, _, _, some _⟩ :: _) _ _ _; first | (refine dg_gtp rfl (hk := ?_)) | (refine dg_c (x := _) (h := ro_gt (h := n_call (f := 22) rfl Tryd.call22 (h := AEq.pure' agT alive23 (hq := ro_end ⟨rfl, rfl⟩)))) (hk := ?_))) | (guard_target =~ dg _ _ _ (⟨_, .call ⟨.value (.func 31), _, _⟩, _, _, _, some _⟩ :: _) _ _ _; first | (refine dg_gtp rfl (hk := ?_)) | (refine dg_c (x := _) (h := ro_gt (h := n_call (f := 31) rfl Tryd.call31 (h := AEq.pure' agT r_size_nil (hq := ro_end ⟨rfl, rfl⟩)))) (hk := ?_))) | (guard_target =~ dg _ _ _ (⟨_, .call ⟨.value (.func 32), _, _⟩, _, _, _, some _⟩ :: _) _ _ _; first | (refine dg_gtp rfl (hk := ?_)) | (refine dg_c (x := _) (h := ro_gt (h := n_call (f := 32) rfl Tryd.call32 (h := AEq.pure' agT dall0 (hq := ro_end ⟨rfl, rfl⟩)))) (hk := ?_))) | (guard_target =~ dg _ _ _ (⟨_, .call ⟨.value (.func 28), _, _⟩, _, _, _, some _⟩ :: _) _ _ _; first | (refine dg_gtp rfl (hk := ?_)) | (refine dg_c (x := _) (h := ro_gt (h := n_call (f := 28) rfl Tryd.call28 (h := AEq.pure' agT isame_nil (hq := ro_end ⟨rfl, rfl⟩)))) (hk := ?_))) | (guard_target =~ dg _ _ _ (⟨_, .call ⟨.builtin .len, _, _⟩, _, _, _, some _⟩ :: _) _ _ _; first | (refine dg_gtp rfl (hk := ?_))) | (guard_target =~ dg _ _ _ [] _ _ _; first | (refine dg_nil ?_))) | (guard_target =~ (_ ∨ _) ∧ _; first | ((refine end_d [] (by rw [Tryd.results8, Lf.res1]) (ale_1 ?_) ?_) <;> (try (first | exact aleT | exact stq (by with_reducible rfl) | exact stq (by rfl) | exact stq (by simp (disch := omega) only [go_sem, seval, ↓reduceIte, hU]))))) | (refine hK _ _ ?_; clear hK K))
end Go.Proofs.YtohbfcmmpaikhaaDoor

set_option linter.unusedVariables false
set_option linter.unusedSimpArgs false
namespace Go.Proofs.YtohbfcmmpaikhaaDoor
open Go Go.Lf Go.Proofs Go.ChangeShapes Go.WideShapes Go.ChangeAt Go.RowKit
attribute [local irreducible] Lf.rg Lf.ro Lf.PWp Lf.SOp Lf.ACall Lf.Scoped Lf.dg
set_option maxRecDepth 20000
set_option maxHeartbeats 4000000
abbrev laidD : List (String × DataW Unit) := [("stickler/repr.forms", Rows.laid_stickler_repr_forms)]
theorem gForms : Tryd.prog.globalNamed "stickler/repr.forms" = some 0 := by kernel_rfl
theorem tForms : (Tryd.prog.globals[0]?).map (·.type) = some 94 := by kernel_rfl
theorem laid_pair {W : World} {base : Nat} {spare : Nat → Bool} {held : Bool} {n : Nat} {cs : List Value} {a b : Int} {x : DataW Unit × List MemPlace} {enc : TypeId × Value → Unit}
    (h : DataW.trod enc Tryd.prog W base spare held n 93 cs = some x) (hx : x.1 = .agg [.lit (.int .i64 a), .lit (.int .i64 b)]) : cs = [.int .i64 a, .int .i64 b] := by
  obtain ⟨y0, y1, m, rfl, hl, h0, h1⟩ := trod_struct2 Tryd.underlying93 h
  obtain ⟨k0, e0, f0, _⟩ := DataW.trod_int Tryd.underlying3 h0
  obtain ⟨k1, e1, f1, _⟩ := DataW.trod_int Tryd.underlying3 h1
  simp only [DataW.agg.injEq, List.cons.injEq] at hx
  have c3 : Tryd.prog.cellsOf 3 = 1 := ce3
  have c93 : Tryd.prog.cellsOf 93 = 2 := ce93
  rw [c93] at hl
  match cs, hl with
  | [c0, c1], _ =>
    simp [c3] at e0 e1
    rw [f0, f1] at hx
    simp at hx
    obtain ⟨rfl, rfl⟩ := hx
    rw [e0, e1]
theorem take12 {α : Type} (cs : List α) (h : cs.length = 12) : cs = (cs.drop 0).take 2 ++ ((cs.drop 2).take 2 ++ ((cs.drop 4).take 2 ++ ((cs.drop 6).take 2 ++ ((cs.drop 8).take 2 ++ (cs.drop 10).take 2)))) := by
  match cs, h with
  | [a, b, c, d, e, f, g, h, i, j, k, l], _ => rfl
theorem gv_of_laid {W : World} (h : laidMetH Tryd.prog laidD W) : GV [] rz0 W := by
  rw [MakeChecks.laidMetH_plain _ _ _ (by kernel_rfl)] at h
  obtain ⟨ps, ⟨g0, t0, cs0, f0, p0, q0, hg0, ht0, hv0, hd0, _, _⟩, _, _⟩ := h
  obtain rfl := Option.some.inj (gForms.symm.trans hg0)
  obtain rfl := Option.some.inj (tForms.symm.trans ht0)
  obtain ⟨xs, m1, rfl, hx1, hlen, hn6, hel⟩ := DataW.trod_array Tryd.underlying94 hd0
  have c93 : Tryd.prog.cellsOf 93 = 2 := ce93
  have c94 : Tryd.prog.cellsOf 94 = 12 := ce94
  rw [c94] at hlen
  simp only [c93] at hel
  have hcs : cs0.toList = [.int .i64 0, .int .i64 0, .int .i64 128, .int .i64 7, .int .i64 64, .int .i64 6, .int .i64 0, .int .i64 4, .int .i64 16, .int .i64 4, .int .i64 32, .int .i64 5] := by
    match xs, hn6 with
    | [x0, x1, x2, x3, x4, x5], _ =>
      simp only [Prod.mk.injEq, Rows.laid_stickler_repr_forms, List.map_cons, List.map_nil, DataW.agg.injEq, List.cons.injEq, and_true] at hx1
      obtain ⟨⟨y0, y1, y2, y3, y4, y5⟩, _⟩ := hx1
      have e0 := laid_pair (hel 0 (by decide)) y0.symm
      have e1 := laid_pair (hel 1 (by decide)) y1.symm
      have e2 := laid_pair (hel 2 (by decide)) y2.symm
      have e3 := laid_pair (hel 3 (by decide)) y3.symm
      have e4 := laid_pair (hel 4 (by decide)) y4.symm
      have e5 := laid_pair (hel 5 (by decide)) y5.symm
      rw [take12 cs0.toList hlen]
      simp only [Nat.reduceMul] at e0 e1 e2 e3 e4 e5
      rw [e0, e1, e2, e3, e4, e5]
      rfl
  have hc : ∀ i v, cs0.toList[i]? = some v → W.cell? ⟨0, i, none⟩ = some v := by
    intro i v hv
    have := World.var?_cell hg0 hv0 i
    rw [this, ← Array.getElem?_toList]
    exact hv
  intro g
  cases g with
  | succ g => exact trivial
  | zero =>
    show VR [] rz0 W (.ip false _) _
    simp only [VR]
    have h0 := hc 0 (.int .i64 0) (by rw [hcs]; rfl)
    refine ⟨0, 0, rfl, ?_, ?_, ?_⟩
    · have h1 := h0
      unfold World.cell? at h1
      cases hh : W.heap[0]? with
      | none => simp [hh] at h1
      | some o => exact (Array.getElem?_eq_some_iff.1 hh).1
    · intro h
      rcases (Bset.mset h) with ⟨o, ob, q, _⟩ | h
      · simp at q
      · exact h
    · simp only [List.map_cons, List.map_nil, PVs, PV]
      repeat' (first | exact trivial | refine ⟨⟨_, hc _ _ (by rw [hcs]; rfl), rfl, rfl⟩, ?_⟩)
end Go.Proofs.YtohbfcmmpaikhaaDoor

set_option linter.unusedVariables false
set_option linter.unusedSimpArgs false
namespace Go.Proofs.YtohbfcmmpaikhaaDoor
open Go Go.Lf Go.Proofs
attribute [local irreducible] Lf.rg Lf.ro Lf.PWp Lf.SOp Lf.ACall Lf.Scoped Lf.dg
set_option maxRecDepth 20000
set_option maxHeartbeats 4000000
theorem vas_map_p {α : Type} {g : α → List AV} {p : α → Prop} : ∀ (ys : List (List AV)), (∀ y ∈ ys, ∃ a, p a ∧ y = g a) → ∃ l : List α, (∀ a ∈ l, p a) ∧ ys = l.map g
  | [], _ => ⟨[], by simp, rfl⟩
  | y :: ys, h => by
    obtain ⟨a, ha, rfl⟩ := h y List.mem_cons_self
    obtain ⟨l, hl, rfl⟩ := vas_map_p ys (fun y hy => h y (List.mem_cons_of_mem _ hy))
    refine ⟨a :: l, ?_, rfl⟩
    intro b hb
    rw [List.mem_cons] at hb
    rcases hb with rfl | hb
    · exact ha
    · exact hl b hb
theorem sh_blk {k : Nat} {y : List AV} (h : Sh Tryd.prog (k + 2) 22 y) : ∃ b : List UInt8, b.length ≤ 9223372036854775807 ∧ y = blA b := by
  simp only [Sh, Tryd.underlying22] at h
  obtain ⟨ys, hl, hy, rfl⟩ := h
  obtain ⟨bs, rfl⟩ := as_map (g := byteA) ys (fun y h => sh_byte (k := k) Tryd.underlying5 (hy y h))
  exact ⟨bs, by simpa [maxLen] using hl, rfl⟩
theorem in_blocks {w : World} {a : Option Addr} {l c k : Nat} (h : ∃ xs, Sh Tryd.prog (k + 3) 44 xs ∧ ((∃ x, xs = [x] ∧ VR [] rz0 w x (.slice a l c)) ∨ VR [] rz0 w (.ag xs) (.slice a l c))) :
    ∃ s : List (List UInt8), s.length ≤ 9223372036854775807 ∧ (∀ b ∈ s, b.length ≤ 9223372036854775807) ∧ VR [] rz0 w (.sl false false (s.map blA)) (.slice a l c) := by
  obtain ⟨ys, h1, h2, h3⟩ := in_sl Tryd.underlying44 h
  obtain ⟨b, hb, rfl⟩ := vas_map_p (g := blA) (p := fun b => b.length ≤ 9223372036854775807) ys (fun y hy => sh_blk (k := k) (h2 y hy))
  exact ⟨b, by simpa [maxLen] using h1, hb, h3⟩
end Go.Proofs.YtohbfcmmpaikhaaDoor

