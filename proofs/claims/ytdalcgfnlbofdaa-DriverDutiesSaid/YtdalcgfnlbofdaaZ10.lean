import Derived.Test.YtdalcgfnlbofdaaZ09
import Derived.Test.YtdalcgfnlbofdaaZ01
import Derived.Test.YtdalcgfnlbofdaaLc
set_option linter.unusedVariables false
set_option linter.unusedSimpArgs false
/-! the greater of two by n_max_m -/
namespace Go.Proofs.Ytdalcgfnlbofdaa
open Go Go.Lf Go.Proofs
attribute [local irreducible] Lf.rg Lf.ro Lf.PWp Lf.SOp Lf.ACall Lf.Scoped Lf.dg Lf.dw
set_option maxRecDepth 20000
set_option maxHeartbeats 4000000
theorem osee_q (sd n : Int) (s : Nat) (p : List (List UInt8)) (w t g st : Int) (r f : Bool) (b : List UInt8) (hl : p.length ≤ 1000) (hb : b.length ≤ 100000) (hn : -1000 ≤ n ∧ n ≤ 1000) (hs : sd = 0 ∨ sd = 1) : AEq Try.prog 11 [.ptr 0 0, .ag [i64 w, i64 t, i64 g, i64 st, bl r, .sl f false (b.map byteA)]] [.box [i64 sd, i64 n, .row 1 s], .row s 28 1 (p.map bsA)] (.tu []) [.box [i64 sd, i64 (seeM sd ⟨n, p⟩ ⟨w, t, g, st, r, b⟩).n, .row 1 (cntM sd s ⟨n, p⟩ ⟨w, t, g, st, r, b⟩)], .row (cntM sd s ⟨n, p⟩ ⟨w, t, g, st, r, b⟩) 28 1 ((seeM sd ⟨n, p⟩ ⟨w, t, g, st, r, b⟩).p.map bsA)] := osee_is sd s ⟨n, p⟩ ⟨w, t, g, st, r, b⟩ f hl hb hn hs
theorem dsided (n : Int) : AEq Try.prog 10 [i64 n] [] (bl (decide (n = 0 ∨ n = 1))) [] := by
 refine acall_body Try.func10 rfl Try.ntmps10 (by simp) (fun hsc => ?_); simp only [Lf.enter, Nat.reduceAdd]; clear hsc
 have hU := True.intro
 repeat' (first | (guard_target =~ PWp _ _ _ _ _ _ _; first | (refine pwp_seq_k (fun K hK => ?_)) | (refine pwp_rg_then ?_) | (refine pwp_ret ?_)) | (guard_target =~ rg _ _ _ _ _ _ _; first | (guard_target =~ rg _ _ _ (⟨_, .move _, _, _, _, some _⟩ :: _) _ _ _; first | (refine rg_gq rfl (h := ?_))) | (guard_target =~ rg _ _ _ (⟨_, .binOp _ _ _ _ _, _, _, _, some _⟩ :: _) _ _ _; first | (refine rg_gq rfl (h := ?_))) | (guard_target =~ rg _ _ _ [] _ _ _; first | (refine rg_end ?_)) | (refine rg_a rfl (h := ?_)) | (refine rg_v rfl (h := ?_))) | (guard_target =~ (_ ∨ _) ∧ _; first | ((refine end_d [] (by rw [Try.results10, Lf.res1]) (ale_1 ?_) ?_) <;> (try (first | exact aleT | exact stq (by with_reducible rfl) | exact stq (by rfl) | exact stq (by simp (disch := omega) only [go_sem, seval, ↓reduceIte, hU]))))) | (refine hK _ _ ?_; clear hK K))
 all_goals exact ale_bl (by grind)
theorem dduties_no (sd : Int) (f q : Bool) (l : List Fr) (hs : ¬ (sd = 0 ∨ sd = 1)) : AEq Try.prog 6 [i64 sd, .sl f q (l.map frA)] [] (.sl false false (List.map frA [])) [] := by
 have hds : decide (sd = 0 ∨ sd = 1) = false := decide_eq_false hs
 refine acall_body Try.func6 rfl Try.ntmps6 (by simp) (fun hsc => ?_); simp only [Lf.enter, Nat.reduceAdd]; clear hsc
 have hU := @hds
 repeat' (first | (guard_target =~ PWp _ _ _ _ _ _ _; first | (refine pwp_seq_k (fun K hK => ?_)) | (refine pwp_rg_then ?_) | (refine pwp_ret ?_) | ((refine pwp_cond_d (fun hcd => ?_) (fun hcd => ?_)) <;> (try simp only [hcP] at hcd) <;> (try exact cdT))) | (guard_target =~ rg _ _ _ _ _ _ _; first | (guard_target =~ rg _ _ _ [] _ _ _; first | (refine rg_end ?_)) | (refine rg_a rfl (h := ?_)) | (refine rg_v rfl (h := ?_)) | (refine rg_s rfl ?_)) | (guard_target =~ SOp _ _ _ _ _ _; first | (guard_target =~ SOp _ _ ⟨_, .call ⟨.value (.func 10), _, _⟩, _, _, _, none⟩ _ _ _; first | (refine n_call (f := 10) rfl Try.call10 (h := AEq.pure' agT (dsided _) (hq := ?_))))) | (guard_target =~ (_ ∨ _) ∧ _; first | ((refine end_d [] (by rw [Try.results6, Lf.res1]) (ale_1 ?_) ?_) <;> (try (first | exact aleT | exact stq (by with_reducible rfl) | exact stq (by rfl) | exact stq (by simp (disch := omega) only [go_sem, seval, ↓reduceIte, hU]))))) | (refine hK _ _ ?_; clear hK K))
theorem fs_join (sd : Int) (j : Nat) : List.map frA (dsF sd j []) ++ [[i64 sd, i64 4, i64 1, i64 0, bl false, .sl true false []]] = List.map frA (dsF sd (j + 1) []) := by rw [dsF_s, List.map_append]; rfl
theorem fp_join (sd : Int) (k : Nat) {p : List (List UInt8)} {i : Nat} {b : List UInt8} (h : p[i]? = some b) : List.map frA (dsF sd k (p.take i)) ++ [[i64 sd, i64 6, i64 1, i64 0, bl false, .sl false false (b.map byteA)]] = List.map frA (dsF sd k (p.take (i + 1))) := by
 rw [List.take_add_one, h]
 show _ = List.map frA (dsF sd k (p.take i ++ [b]))
 rw [dsF_p, List.map_append]; rfl
theorem dsF_len (sd : Int) (k : Nat) (p : List (List UInt8)) : (dsF sd k p).length = k + p.length := by unfold dsF; simp
theorem dduties (sd : Int) (f q : Bool) (l : List Fr) (hs : sd = 0 ∨ sd = 1) (hl : l.length ≤ 100) (hx : ∀ x ∈ l, x.b.length ≤ 100000) : AEq Try.prog 6 [i64 sd, .sl f q (l.map frA)] [] (.sl false false ((dutF sd (seeF sd l)).map frA)) [] := by
 have hds : decide (sd = 0 ∨ sd = 1) = true := decide_eq_true hs
 refine acall_body Try.func6 rfl Try.ntmps6 (by simp) (fun hsc => ?_); simp only [Lf.enter, Nat.reduceAdd]; clear hsc
 have hU := @hds
 repeat' (first | (guard_target =~ PWp _ _ _ _ _ _ _; first | (refine pwp_seq_k (fun K hK => ?_)) | (refine pwp_block ?_) | (refine pwp_rg_then ?_) | (refine pwp_skip ?_) | ((refine pwp_cond_d (fun hcd => ?_) (fun hcd => ?_)) <;> (try simp only [hcP] at hcd) <;> (try exact cdT))) | (guard_target =~ rg _ _ _ _ _ _ _; first | (guard_target =~ rg _ _ _ [] _ _ _; first | (refine rg_end ?_)) | (refine rg_a rfl (h := ?_)) | (refine rg_v rfl (h := ?_)) | (refine rg_s rfl ?_)) | (guard_target =~ SOp _ _ _ _ _ _; first | (guard_target =~ SOp _ _ ⟨_, .build _ _, _, _, _, none⟩ _ _ _; first | (refine n_build rfl (by first | exact bd30 | exact bd36 | fail) (hK := ?_))) | (guard_target =~ SOp _ _ ⟨_, .call ⟨.value (.func 10), _, _⟩, _, _, _, none⟩ _ _ _; first | (refine n_call (f := 10) rfl Try.call10 (h := AEq.pure' agT (dsided _) (hq := ?_)))) | (guard_target =~ SOp _ _ ⟨_, .box _ _, _, _, _, none⟩ _ _ _; first | (refine n_box rfl (hK := ?_)))) | (refine hK _ _ ?_; clear hK K))
 refine pwp_rowc 0 2 28 1 (by decide) rfl rfl rfl ?_
 refine pwp_loop_g [7, 19, 20, 21, 22, 23, 24, 25, 26] [0, 1] (fun q : Nat × Nat => [(19, i64 q.1)]) (fun q => [.box [i64 sd, i64 (seeF sd (l.take q.1)).n, .row 1 q.2], .row q.2 28 1 ((seeF sd (l.take q.1)).p.map bsA)]) (fun q => q.1 ≤ l.length) (fun q => l.length - q.1) (0, 0) (fun _ => rfl) rfl rfl (Nat.zero_le _) ?_ rfl (by intro s q x h; simp only [List.mem_cons, Prod.mk.injEq, List.not_mem_nil, or_false] at h; obtain ⟨rfl, _⟩ := h; decide) ?_
 ·have hU := True.intro
  (refine ⟨⟨_, sT, ?_⟩, trivial⟩ <;> (try (first | exact aleT)))
 ·rintro ⟨i, s⟩ hi
  dsimp only at hi ⊢
  simp only [mask, List.map_cons, List.map_nil, List.cons_append, List.nil_append]
  by_cases hlt : i < l.length
  ·obtain ⟨x, hc⟩ := cex_at hlt
   have hxb := hx x (List.mem_of_getElem? hc)
   obtain ⟨hb1, hb2, hb3⟩ := seeF_len sd (l.take i)
   have htl : (l.take i).length ≤ 100 := by rw [List.length_take]; omega
   have hN : -1000 ≤ (seeF sd (l.take i)).n ∧ (seeF sd (l.take i)).n ≤ 1000 := by omega
   have hP : (seeF sd (l.take i)).p.length ≤ 1000 := by omega
   have hfj : seeM sd ⟨(seeF sd (l.take i)).n, (seeF sd (l.take i)).p⟩ ⟨x.w, x.t, x.g, x.s, x.r, x.b⟩ = seeF sd (l.take (i + 1)) := (seeF_s hc).symm
   have hU := @hfj
   repeat' (first | (guard_target =~ PWp _ _ _ _ _ _ _; first | (refine pwp_seq_k (fun K hK => ?_)) | (refine pwp_block ?_) | (refine pwp_rg_then ?_) | (refine pwp_rg ?_) | (refine pwp_skip ?_) | ((refine pwp_cond_d (fun hcd => ?_) (fun hcd => ?_)) <;> (try simp only [hcP] at hcd) <;> (try exact cdT))) | (guard_target =~ rg _ _ _ _ _ _ _; first | (guard_target =~ rg _ _ _ [] _ _ _; first | (refine rg_end ?_)) | (refine rg_v rfl (h := ?_)) | (refine rg_s rfl ?_) | (refine rg_n rfl ?_)) | (guard_target =~ SOp _ _ _ _ _ _; first | (guard_target =~ SOp _ _ ⟨_, .indexAddr _ _ _, _, _, _, none⟩ _ _ _; first | (refine n_index rfl (hK := ?_))) | (guard_target =~ SOp _ _ ⟨_, .call ⟨.value (.func 11), _, _⟩, _, _, _, none⟩ _ _ _; first | (refine n_call (f := 11) rfl Try.call11 (h := AEq.sub' [_, _] (hc := osee_q _ _ _ _ _ _ _ _ _ _ _ (by assumption) (by assumption) (by assumption) (by assumption)) (hq := ?_)))) | (guard_target =~ SOp _ _ ⟨_, .alloc _, _, _, _, none⟩ _ _ _; first | (refine n_alloc rfl (by first | exact zv3 | exact zv4 | exact zv5 | exact zv22 | exact zv28 | exact zv30 | exact zv33 | exact zv34 | exact zv36 | fail) (hK := ?_))) | (guard_target =~ SOp _ _ ⟨_, .store _ _ _, _, _, _, none⟩ _ _ _; first | (refine n_store rfl (hK := ?_)))) | (refine hK _ _ ?_; clear hK K))
   refine ⟨(i + 1, cntM sd s ⟨(seeF sd (l.take i)).n, (seeF sd (l.take i)).p⟩ ⟨x.w, x.t, x.g, x.s, x.r, x.b⟩), by dsimp only; omega, by dsimp only; omega, ?_, (by repeat' (first | exact agr_refl | refine agr_cons (by rfl) ?_)), (by first | rfl | (simp (disch := omega) only [go_sem, seval, ↓reduceIte, hU]; done) | (simp (disch := omega) only [go_sem, seval, ↓reduceIte, hU]; rfl))⟩
   (refine ⟨⟨_, sT, ?_⟩, trivial⟩ <;> (try (first | exact aleT)))
  ·have hil : i = l.length := by omega
   subst hil
   rw [List.take_length]
   obtain ⟨hb1, hb2, hb3⟩ := seeF_len sd l
   have h8 := seeF_8 sd l
   show PWp _ _ _ _ _ _ _
   rw [show dutF sd (seeF sd l) = dsF sd (seeF sd l).n.toNat (seeF sd l).p from rfl]
   obtain ⟨⟨n, p⟩, hq⟩ : ∃ q, seeF sd l = q := ⟨_, rfl⟩
   rw [hq] at hb1 hb2 hb3 h8 ⊢
   dsimp only at hb1 hb2 hb3 h8 ⊢
   have hU := True.intro
   repeat' (first | (guard_target =~ PWp _ _ _ _ _ _ _; first | (refine pwp_seq_k (fun K hK => ?_)) | (refine pwp_block ?_) | (refine pwp_rg_then ?_) | (refine pwp_exit ?_) | ((refine pwp_cond_d (fun hcd => ?_) (fun hcd => ?_)) <;> (try simp only [hcP] at hcd) <;> (try exact cdT))) | (guard_target =~ rg _ _ _ _ _ _ _; first | (guard_target =~ rg _ _ _ [] _ _ _; first | (refine rg_end ?_)) | (refine rg_a rfl (h := ?_)) | (refine rg_v rfl (h := ?_)) | (refine rg_s rfl ?_)) | (guard_target =~ SOp _ _ _ _ _ _; first | (guard_target =~ SOp _ _ ⟨_, .call ⟨.builtin .max, _, _⟩, _, _, _, none⟩ _ _ _; first | (refine n_max_m rfl sT sT ?_))) | (refine hK _ _ ?_; clear hK K) | (apply_assumption (exfalso := false) (symm := false)))
   refine pwp_row 8 30 6 (by decide) (by rfl) rfl rfl ?_
   refine pwp_loop_g [8, 32, 33, 34, 35, 36, 37, 38, 39] [0, 1, 2] (fun j : Nat => [(32, i64 j), (8, .row 2 j)]) (fun j => [.box [i64 sd, i64 n, .row 1 s], .row s 28 1 (p.map bsA), .row j 30 6 ((dsF sd j []).map frA)]) (fun j => j ≤ n.toNat) (fun j => n.toNat - j) 0 (fun _ => rfl) rfl rfl (Nat.zero_le _) ?_ rfl (by intro s q x h; simp only [List.mem_cons, Prod.mk.injEq, List.not_mem_nil, or_false] at h; rcases h with ⟨rfl, _⟩ | ⟨rfl, _⟩ <;> decide) ?_
   ·(refine ⟨⟨_, sT, ?_⟩, ⟨_, sT, ?_⟩, trivial⟩ <;> (try (first | exact aleT)))
   ·intro j hj
    simp only [mask, List.map_cons, List.map_nil, List.cons_append, List.nil_append]
    have hsl : (dsF sd j []).length = j := by rw [dsF_len]; rfl
    by_cases hjn : (j : Int) < n
    ·have hfj := fs_join sd j
     have hU := @hfj
     repeat' (first | (guard_target =~ PWp _ _ _ _ _ _ _; first | (refine pwp_seq_k (fun K hK => ?_)) | (refine pwp_block ?_) | (refine pwp_rg_then ?_) | (refine pwp_rg ?_) | (refine pwp_skip ?_) | ((refine pwp_cond_d (fun hcd => ?_) (fun hcd => ?_)) <;> (try simp only [hcP] at hcd) <;> (try exact cdT))) | (guard_target =~ rg _ _ _ _ _ _ _; first | (guard_target =~ rg _ _ _ [] _ _ _; first | (refine rg_end ?_)) | (refine rg_a rfl (h := ?_)) | (refine rg_v rfl (h := ?_)) | (refine rg_s rfl ?_)) | (guard_target =~ SOp _ _ _ _ _ _; first | (guard_target =~ SOp _ _ ⟨_, .build _ _, _, _, _, none⟩ _ _ _; first | (refine n_build rfl (by first | exact bd30 | exact bd36 | fail) (hK := ?_))) | (guard_target =~ SOp _ _ ⟨_, .call ⟨.builtin .append, _, _⟩, _, _, _, none⟩ _ _ _; first | (refine n_append_row rfl (he := by first | exact eo3 | exact eo4 | exact eo5 | exact eo22 | exact eo28 | exact eo30 | exact eo33 | exact eo34 | exact eo36 | fail) (hK := ?_))) | (guard_target =~ SOp _ _ ⟨_, .buildSlice _ _ _, _, _, _, none⟩ _ _ _; first | (refine n_lit rfl (he := by first | exact eo3 | exact eo4 | exact eo5 | exact eo22 | exact eo28 | exact eo30 | exact eo33 | exact eo34 | exact eo36 | fail) (hK := ?_)))) | (refine hK _ _ ?_; clear hK K))
     refine ⟨j + 1, by omega, by omega, ?_, (by repeat' (first | exact agr_refl | refine agr_cons (by rfl) ?_)), (by first | rfl | (simp (disch := omega) only [go_sem, seval, ↓reduceIte, hU]; done) | (simp (disch := omega) only [go_sem, seval, ↓reduceIte, hU]; rfl))⟩
     (refine ⟨⟨_, sT, ?_⟩, ⟨_, sT, ?_⟩, trivial⟩ <;> (try (first | exact aleT)))
    ·obtain rfl : j = n.toNat := by omega
     repeat' (first | (guard_target =~ PWp _ _ _ _ _ _ _; first | (refine pwp_seq_k (fun K hK => ?_)) | (refine pwp_block ?_) | (refine pwp_rg_then ?_) | (refine pwp_exit ?_) | ((refine pwp_cond_d (fun hcd => ?_) (fun hcd => ?_)) <;> (try simp only [hcP] at hcd) <;> (try exact cdT))) | (guard_target =~ rg _ _ _ _ _ _ _; first | (guard_target =~ rg _ _ _ [] _ _ _; first | (refine rg_end ?_)) | (refine rg_v rfl (h := ?_))) | (refine hK _ _ ?_; clear hK K) | (apply_assumption (exfalso := false) (symm := false)))
     refine pwp_loop_g [8, 10, 45, 46, 47, 48, 49, 50, 51, 52, 53, 54, 55] [0, 1, 2] (fun j : Nat => [(45, i64 j), (8, .row 2 (n.toNat + j))]) (fun j => [.box [i64 sd, i64 n, .row 1 s], .row s 28 1 (p.map bsA), .row (n.toNat + j) 30 6 ((dsF sd n.toNat (p.take j)).map frA)]) (fun j => j ≤ p.length) (fun j => p.length - j) 0 (fun _ => rfl) rfl rfl (Nat.zero_le _) ?_ rfl (by intro s q x h; simp only [List.mem_cons, Prod.mk.injEq, List.not_mem_nil, or_false] at h; rcases h with ⟨rfl, _⟩ | ⟨rfl, _⟩ <;> decide) ?_
     ·(refine ⟨⟨_, sT, ?_⟩, ⟨_, sT, ?_⟩, trivial⟩ <;> (try (first | exact aleT)))
     ·intro j hj
      simp only [mask, List.map_cons, List.map_nil, List.cons_append, List.nil_append]
      have hsl := dsF_len sd n.toNat (p.take j)
      have htl : (p.take j).length ≤ p.length := by rw [List.length_take]; omega
      by_cases hjn : j < p.length
      ·obtain ⟨b, hd⟩ := ex_at hjn
       have hm := bs_at hd
       have hfj := fp_join sd n.toNat hd
       have hU := And.intro @hm (@hfj)
       repeat' (first | (guard_target =~ PWp _ _ _ _ _ _ _; first | (refine pwp_seq_k (fun K hK => ?_)) | (refine pwp_block ?_) | (refine pwp_rg_then ?_) | (refine pwp_rg ?_) | (refine pwp_skip ?_) | ((refine pwp_cond_d (fun hcd => ?_) (fun hcd => ?_)) <;> (try simp only [hcP] at hcd) <;> (try exact cdT))) | (guard_target =~ rg _ _ _ _ _ _ _; first | (guard_target =~ rg _ _ _ [] _ _ _; first | (refine rg_end ?_)) | (refine rg_a rfl (h := ?_)) | (refine rg_v rfl (h := ?_)) | (refine rg_s rfl ?_)) | (guard_target =~ SOp _ _ _ _ _ _; first | (guard_target =~ SOp _ _ ⟨_, .build _ _, _, _, _, none⟩ _ _ _; first | (refine n_build rfl (by first | exact bd30 | exact bd36 | fail) (hK := ?_))) | (guard_target =~ SOp _ _ ⟨_, .call ⟨.builtin .append, _, _⟩, _, _, _, none⟩ _ _ _; first | (refine n_append_row rfl (he := by first | exact eo3 | exact eo4 | exact eo5 | exact eo22 | exact eo28 | exact eo30 | exact eo33 | exact eo34 | exact eo36 | fail) (hK := ?_))) | (guard_target =~ SOp _ _ ⟨_, .buildSlice _ _ _, _, _, _, none⟩ _ _ _; first | (refine n_lit rfl (he := by first | exact eo3 | exact eo4 | exact eo5 | exact eo22 | exact eo28 | exact eo30 | exact eo33 | exact eo34 | exact eo36 | fail) (hK := ?_))) | (guard_target =~ SOp _ _ ⟨_, .indexAddr _ _ _, _, _, _, none⟩ _ _ _; first | (refine n_index_row rfl (hK := ?_)))) | (refine hK _ _ ?_; clear hK K))
       refine ⟨j + 1, by omega, by omega, ?_, (by repeat' (first | exact agr_refl | refine agr_cons (by rfl) ?_)), (by first | rfl | (simp (disch := omega) only [go_sem, seval, ↓reduceIte, hU]; done) | (simp (disch := omega) only [go_sem, seval, ↓reduceIte, hU]; rfl))⟩
       (refine ⟨⟨_, sT, ?_⟩, ⟨_, sT, ?_⟩, trivial⟩ <;> (try (first | exact aleT)))
      ·obtain rfl : j = p.length := by omega
       have htk : p.take p.length = p := List.take_length
       have hU := @htk
       repeat' (first | (guard_target =~ PWp _ _ _ _ _ _ _; first | (refine pwp_seq_k (fun K hK => ?_)) | (refine pwp_rg_then ?_) | (refine pwp_ret ?_) | (refine pwp_exit ?_) | ((refine pwp_cond_d (fun hcd => ?_) (fun hcd => ?_)) <;> (try simp only [hcP] at hcd) <;> (try exact cdT))) | (guard_target =~ rg _ _ _ _ _ _ _; first | (guard_target =~ rg _ _ _ [] _ _ _; first | (refine rg_end ?_)) | (refine rg_a rfl (h := ?_)) | (refine rg_v rfl (h := ?_))) | (guard_target =~ (_ ∨ _) ∧ _; first | ((refine end_d [] (by rw [Try.results6, Lf.res1]) (ale_1 ?_) ?_) <;> (try (first | exact aleT | exact stq (by with_reducible rfl) | exact stq (by rfl) | exact stq (by simp (disch := omega) only [go_sem, seval, ↓reduceIte, hU]))))) | (refine hK _ _ ?_; clear hK K) | (apply_assumption (exfalso := false) (symm := false)))
       exact ale_eq (by rw [hq]; rfl)
end Go.Proofs.Ytdalcgfnlbofdaa

set_option linter.unusedVariables false
set_option linter.unusedSimpArgs false
namespace Go.Proofs.Ytdalcgfnlbofdaa
open Go Go.Lf Go.Proofs
attribute [local irreducible] Lf.rg Lf.ro Lf.PWp Lf.SOp Lf.ACall Lf.Scoped Lf.dg Lf.dw
set_option maxRecDepth 20000
set_option maxHeartbeats 4000000
theorem rq_at {a b : List Fr} (h : a.map rqF = b.map rqF) {i : Nat} {x y : Fr} (hx : a[i]? = some x) (hy : b[i]? = some y) : (⟨x.w, x.t, x.g, x.s, x.r, x.b⟩ : Rq) = ⟨y.w, y.t, y.g, y.s, y.r, y.b⟩ := by
 have := congrArg (fun l => l[i]?) h
 simp only [List.getElem?_map, hx, hy, Option.map_some] at this
 exact Option.some.inj this
theorem rfsame (w t g s w' t' g' s' : Int) (r r' f f' : Bool) (b b' : List UInt8) (hb : b.length ≤ 4000000000000000000) : AEq Try.prog 12 [.ag [i64 w, i64 t, i64 g, i64 s, bl r, .sl f false (b.map byteA)], .ag [i64 w', i64 t', i64 g', i64 s', bl r', .sl f' false (b'.map byteA)]] [] (bl (decide ((⟨w, t, g, s, r, b⟩ : Rq) = ⟨w', t', g', s', r', b'⟩))) [] := by
 refine acall_body Try.func12 rfl Try.ntmps12 (by simp) (fun hsc => ?_); simp only [Lf.enter, Nat.reduceAdd]; clear hsc
 have hU := True.intro
 repeat' (first | (guard_target =~ PWp _ _ _ _ _ _ _; first | (refine pwp_seq_k (fun K hK => ?_)) | (refine pwp_rg_then ?_) | (refine pwp_ret ?_)) | (guard_target =~ rg _ _ _ _ _ _ _; first | (guard_target =~ rg _ _ _ (⟨_, .load _ _, _, _, _, some _⟩ :: _) _ _ _; first | (refine rg_gf rfl (hn := rfl) (h := ?_)) | (refine rg_gq rfl (h := ?_)) | (refine rg_gt rfl (h := ?_)) | ((first | refine rg_case (by simp only [go_sem, seval, ↓reduceIte, hU] <;> rfl) (fun hcd => ?_) (fun hcd => ?_) | refine rg_case2 (by simp only [go_sem, seval, ↓reduceIte, hU] <;> rfl) (fun hcd => ?_) (fun hcd => ?_)) <;> (try simp only [hcd]) <;> (try (simp only [Bool.not_eq_true', Bool.not_eq_false'] at hcd; try simp only [hcd])) <;> (refine rg_w (Γ2 := _) (by repeat' (first | exact envw_nil | apply envw_cons | exact opens_t | exact opens_f | exact opens_r)) ?_) <;> (try simp only [hcP] at hcd) <;> (try exact cdT))) | (guard_target =~ rg _ _ _ (⟨_, .fieldAddr _ _ _, _, _, _, some _⟩ :: _) _ _ _; first | (refine rg_gf rfl (hn := rfl) (h := ?_)) | (refine rg_gq rfl (h := ?_)) | (refine rg_gt rfl (h := ?_)) | ((first | refine rg_case (by simp only [go_sem, seval, ↓reduceIte, hU] <;> rfl) (fun hcd => ?_) (fun hcd => ?_) | refine rg_case2 (by simp only [go_sem, seval, ↓reduceIte, hU] <;> rfl) (fun hcd => ?_) (fun hcd => ?_)) <;> (try simp only [hcd]) <;> (try (simp only [Bool.not_eq_true', Bool.not_eq_false'] at hcd; try simp only [hcd])) <;> (refine rg_w (Γ2 := _) (by repeat' (first | exact envw_nil | apply envw_cons | exact opens_t | exact opens_f | exact opens_r)) ?_) <;> (try simp only [hcP] at hcd) <;> (try exact cdT))) | (guard_target =~ rg _ _ _ (⟨_, .binOp _ _ _ _ _, _, _, _, some _⟩ :: _) _ _ _; first | (refine rg_gf rfl (hn := rfl) (h := ?_)) | (refine rg_gq rfl (h := ?_)) | (refine rg_gt rfl (h := ?_)) | ((first | refine rg_case (by simp only [go_sem, seval, ↓reduceIte, hU] <;> rfl) (fun hcd => ?_) (fun hcd => ?_) | refine rg_case2 (by simp only [go_sem, seval, ↓reduceIte, hU] <;> rfl) (fun hcd => ?_) (fun hcd => ?_)) <;> (try simp only [hcd]) <;> (try (simp only [Bool.not_eq_true', Bool.not_eq_false'] at hcd; try simp only [hcd])) <;> (refine rg_w (Γ2 := _) (by repeat' (first | exact envw_nil | apply envw_cons | exact opens_t | exact opens_f | exact opens_r)) ?_) <;> (try simp only [hcP] at hcd) <;> (try exact cdT))) | (guard_target =~ rg _ _ _ (⟨_, .call ⟨.value (.func 24), _, _⟩, _, _, _, some _⟩ :: _) _ _ _; first | (refine rg_gf rfl (hn := rfl) (h := ?_)) | (refine rg_gq rfl (h := ?_)) | (refine rg_gt rfl (h := ?_)) | ((first | refine rg_case (by simp only [go_sem, seval, ↓reduceIte, hU] <;> rfl) (fun hcd => ?_) (fun hcd => ?_) | refine rg_case2 (by simp only [go_sem, seval, ↓reduceIte, hU] <;> rfl) (fun hcd => ?_) (fun hcd => ?_)) <;> (try simp only [hcd]) <;> (try (simp only [Bool.not_eq_true', Bool.not_eq_false'] at hcd; try simp only [hcd])) <;> (refine rg_w (Γ2 := _) (by repeat' (first | exact envw_nil | apply envw_cons | exact opens_t | exact opens_f | exact opens_r)) ?_) <;> (try simp only [hcP] at hcd) <;> (try exact cdT))) | (guard_target =~ rg _ _ _ [] _ _ _; first | (refine rg_end ?_)) | (refine rg_a rfl (h := ?_)) | (refine rg_v rfl (h := ?_)) | (refine rg_s rfl ?_)) | (guard_target =~ SOp _ _ _ _ _ _; first | (guard_target =~ SOp _ _ ⟨_, .box _ _, _, _, _, none⟩ _ _ _; first | (refine n_box rfl (hK := ?_))) | (guard_target =~ SOp _ _ ⟨_, .call ⟨.value (.func 24), _, _⟩, _, _, _, some _⟩ _ _ _; first | (refine n_call (f := 24) rfl Try.call24 (h := AEq.pure' agT (same_is _ _ _ _ _ _ (by assumption)) (hq := ?_))))) | (guard_target =~ (_ ∨ _) ∧ _; first | ((refine end_d [] (by rw [Try.results12, Lf.res1]) (ale_1 ?_) ?_) <;> (try (first | exact aleT | exact stq (by with_reducible rfl) | exact stq (by rfl) | exact stq (by simp (disch := omega) only [go_sem, seval, ↓reduceIte, hU]))))) | (refine hK _ _ ?_; clear hK K))
 all_goals exact ale_bl (by grind)
theorem rfall (f q f' q' : Bool) (a b : List Fr) (ha : a.length ≤ 1000000000) (hx : ∀ x ∈ a, x.b.length ≤ 1000000000) (hab : a.map rqF = b.map rqF) : AEq Try.prog 7 [.sl f q (a.map frA), .sl f' q' (b.map frA)] [] (bl true) [] := by
 have hl : a.length = b.length := by have := congrArg List.length hab; simpa using this
 refine acall_body Try.func7 rfl Try.ntmps7 (by simp) (fun hsc => ?_); simp only [Lf.enter, Nat.reduceAdd]; clear hsc
 have hU := True.intro
 repeat' (first | (guard_target =~ PWp _ _ _ _ _ _ _; first | (refine pwp_seq_k (fun K hK => ?_)) | (refine pwp_block ?_) | (refine pwp_rg_then ?_) | (refine pwp_skip ?_) | ((refine pwp_cond_d (fun hcd => ?_) (fun hcd => ?_)) <;> (try simp only [hcP] at hcd) <;> (try exact cdT))) | (guard_target =~ rg _ _ _ _ _ _ _; first | (guard_target =~ rg _ _ _ [] _ _ _; first | (refine rg_end ?_)) | (refine rg_a rfl (h := ?_)) | (refine rg_v rfl (h := ?_))) | (refine hK _ _ ?_; clear hK K))
 refine pwp_loop_e [4, 5, 11, 12, 13, 14, 15, 16, 17, 18, 19, 20, 21, 22, 23, 24, 25, 26] (fun i : Nat => [(5, i64 i)]) (fun _ => []) (fun i => i ≤ a.length) (fun i => a.length - i) 0 (Nat.zero_le _) ?_ rfl ?_
 ·(refine ⟨⟨_, sT, ?_⟩, trivial⟩ <;> (try (first | exact aleT)))
 ·rintro i hi
  simp only [mask, List.map_cons, List.map_nil, List.cons_append, List.nil_append]
  by_cases hlt : i < a.length
  ·obtain ⟨x, hx1⟩ := cex_at hlt
   obtain ⟨y, hy⟩ := cex_at (l := b) (i := i) (by omega)
   have hxb := hx x (List.mem_of_getElem? hx1)
   have hd : decide ((⟨x.w, x.t, x.g, x.s, x.r, x.b⟩ : Rq) = ⟨y.w, y.t, y.g, y.s, y.r, y.b⟩) = true := decide_eq_true (rq_at hab hx1 hy)
   have hU := @hd
   repeat' (first | (guard_target =~ PWp _ _ _ _ _ _ _; first | (refine pwp_seq_k (fun K hK => ?_)) | (refine pwp_block ?_) | (refine pwp_rg_then ?_) | (refine pwp_draw mixed (by kernel_rfl) ?_) | (refine pwp_skip ?_) | ((refine pwp_cond_d (fun hcd => ?_) (fun hcd => ?_)) <;> (try simp only [hcP] at hcd) <;> (try exact cdT))) | (guard_target =~ rg _ _ _ _ _ _ _; first | (guard_target =~ rg _ _ _ [] _ _ _; first | (refine rg_end ?_)) | (refine rg_a rfl (h := ?_)) | (refine rg_v rfl (h := ?_))) | (guard_target =~ dg _ _ _ _ _ _ _; first | (guard_target =~ dg _ _ _ (⟨_, .move _, _, _, _, none⟩ :: _) _ _ _; first | (refine dg_v rfl (hk := ?_))) | (guard_target =~ dg _ _ _ (⟨_, .binOp _ _ _ _ _, _, _, _, none⟩ :: _) _ _ _; first | (refine dg_v rfl (hk := ?_))) | (guard_target =~ dg _ _ _ (⟨_, .call ⟨.builtin .len, _, _⟩, _, _, _, none⟩ :: _) _ _ _; first | (refine dg_v rfl (hk := ?_))) | (guard_target =~ dg _ _ _ (⟨_, .load _ _, _, _, _, none⟩ :: _) _ _ _; first | (refine dg_v rfl (hk := ?_))) | (guard_target =~ dg _ _ _ (⟨_, .indexAddr _ _ _, _, _, _, none⟩ :: _) _ _ _; first | (refine dg_c (x := _) (h := ro_s (h := n_index rfl (hK := ro_end ⟨rfl, rfl⟩))) (hk := ?_))) | (guard_target =~ dg _ _ _ (⟨_, .call ⟨.value (.func 12), _, _⟩, _, _, _, none⟩ :: _) _ _ _; first | (refine dg_c (x := _) (h := ro_s (h := n_call (f := 12) rfl Try.call12 (h := AEq.pure' agT (rfsame _ _ _ _ _ _ _ _ _ _ _ _ _ _ (by omega)) (hq := ro_end ⟨rfl, rfl⟩)))) (hk := ?_))) | (guard_target =~ dg _ _ _ (⟨_, .unOp _ _ _, _, _, _, none⟩ :: _) _ _ _; first | (refine dg_v rfl (hk := ?_))) | (guard_target =~ dg _ _ _ [] _ _ _; first | (refine dg_nil ?_))) | (refine hK _ _ ?_; clear hK K))
   refine ⟨i + 1, by omega, by omega, ?_, (by repeat' (first | exact agr_refl | refine agr_cons (by rfl) ?_)), (by first | rfl | (simp (disch := omega) only [go_sem, seval, ↓reduceIte, hU]; done) | (simp (disch := omega) only [go_sem, seval, ↓reduceIte, hU]; rfl))⟩
   (refine ⟨⟨_, sT, ?_⟩, trivial⟩ <;> (try (first | exact aleT)))
  ·repeat' (first | (guard_target =~ PWp _ _ _ _ _ _ _; first | (refine pwp_seq_k (fun K hK => ?_)) | (refine pwp_rg_then ?_) | (refine pwp_ret ?_) | (refine pwp_exit ?_) | ((refine pwp_cond_d (fun hcd => ?_) (fun hcd => ?_)) <;> (try simp only [hcP] at hcd) <;> (try exact cdT))) | (guard_target =~ rg _ _ _ _ _ _ _; first | (guard_target =~ rg _ _ _ [] _ _ _; first | (refine rg_end ?_)) | (refine rg_a rfl (h := ?_)) | (refine rg_v rfl (h := ?_))) | (guard_target =~ (_ ∨ _) ∧ _; first | ((refine end_d [] (by rw [Try.results7, Lf.res1]) (ale_1 ?_) ?_) <;> (try (first | exact aleT | exact stq (by with_reducible rfl) | exact stq (by rfl) | exact stq (by simp (disch := omega) only [go_sem, seval, ↓reduceIte, hU]))))) | (refine hK _ _ ?_; clear hK K) | (apply_assumption (exfalso := false) (symm := false)))
theorem large_d (f : Bool) (l : List Fr) (hl : l.length ≤ 9223372036854775807) (hx : ∀ x ∈ l, x.b.length ≤ 9223372036854775807) : AEq Try.prog 4 [.sl f false (l.map frA)] [] (bl (larF l)) [] := by
 by_cases h2 : 30 < l.length
 ·have hL : larF l = true := if_pos h2
  rw [hL]
  refine acall_body Try.func4 rfl Try.ntmps4 (by simp) (fun hsc => ?_); simp only [Lf.enter, Nat.reduceAdd]; clear hsc
  have hU := True.intro
  repeat' (first | (guard_target =~ PWp _ _ _ _ _ _ _; first | (refine pwp_seq_k (fun K hK => ?_)) | (refine pwp_rg_then ?_) | (refine pwp_ret ?_) | ((refine pwp_cond_d (fun hcd => ?_) (fun hcd => ?_)) <;> (try simp only [hcP] at hcd) <;> (try exact cdT))) | (guard_target =~ rg _ _ _ _ _ _ _; first | (guard_target =~ rg _ _ _ [] _ _ _; first | (refine rg_end ?_)) | (refine rg_a rfl (h := ?_)) | (refine rg_v rfl (h := ?_))) | (guard_target =~ (_ ∨ _) ∧ _; first | ((refine end_d [] (by rw [Try.results4, Lf.res1]) (ale_1 ?_) ?_) <;> (try (first | exact aleT | exact stq (by with_reducible rfl) | exact stq (by rfl) | exact stq (by simp (disch := omega) only [go_sem, seval, ↓reduceIte, hU]))))) | (refine hK _ _ ?_; clear hK K))
 ·have hL : larF l = lgF l 1000 := if_neg h2
  rw [hL]
  refine acall_body Try.func4 rfl Try.ntmps4 (by simp) (fun hsc => ?_); simp only [Lf.enter, Nat.reduceAdd]; clear hsc
  have hU := True.intro
  repeat' (first | (guard_target =~ PWp _ _ _ _ _ _ _; first | (refine pwp_seq_k (fun K hK => ?_)) | (refine pwp_block ?_) | (refine pwp_rg_then ?_) | (refine pwp_skip ?_) | ((refine pwp_cond_d (fun hcd => ?_) (fun hcd => ?_)) <;> (try simp only [hcP] at hcd) <;> (try exact cdT))) | (guard_target =~ rg _ _ _ _ _ _ _; first | (guard_target =~ rg _ _ _ [] _ _ _; first | (refine rg_end ?_)) | (refine rg_a rfl (h := ?_)) | (refine rg_v rfl (h := ?_))) | (refine hK _ _ ?_; clear hK K))
  refine pwp_loop_e [2, 3, 4, 8, 9, 10, 11, 12, 13, 14, 15, 16, 17, 18, 19, 20, 21, 22, 23, 24, 25, 26, 27, 28, 29] (fun q : Nat × Int => [(4, i64 q.1), (3, i64 q.2)]) (fun _ => []) (fun q => q.1 ≤ l.length ∧ 0 ≤ q.2 ∧ q.2 ≤ 1000 ∧ lgF l 1000 = lgF (l.drop q.1) q.2) (fun q => l.length - q.1) (0, 1000) ⟨Nat.zero_le _, by decide, Int.le_refl _, rfl⟩ ?_ rfl ?_
  ·(refine ⟨⟨_, sT, ?_⟩, ⟨_, sT, ?_⟩, trivial⟩ <;> (try (first | exact aleT)))
  ·rintro ⟨i, r⟩ ⟨hi, h0, h1, hk⟩
   dsimp only at hi h0 h1 hk ⊢
   simp only [mask, List.map_cons, List.map_nil, List.cons_append, List.nil_append]
   by_cases hlt : i < l.length
   ·obtain ⟨c, hc⟩ := cex_at hlt
    have hcb := hx c (List.mem_of_getElem? hc)
    have hs := lgF_at (m := r) hc
    by_cases hbig : r < c.b.length
    ·have hT : lgF l 1000 = true := by rw [hk, hs, if_pos hbig]
     repeat' (first | (guard_target =~ PWp _ _ _ _ _ _ _; first | (refine pwp_seq_k (fun K hK => ?_)) | (refine pwp_block ?_) | (refine pwp_rg_then ?_) | (refine pwp_ret ?_) | (refine pwp_skip ?_) | ((refine pwp_cond_d (fun hcd => ?_) (fun hcd => ?_)) <;> (try simp only [hcP] at hcd) <;> (try exact cdT))) | (guard_target =~ rg _ _ _ _ _ _ _; first | (guard_target =~ rg _ _ _ [] _ _ _; first | (refine rg_end ?_)) | (refine rg_a rfl (h := ?_)) | (refine rg_v rfl (h := ?_)) | (refine rg_s rfl ?_)) | (guard_target =~ SOp _ _ _ _ _ _; first | (guard_target =~ SOp _ _ ⟨_, .indexAddr _ _ _, _, _, _, none⟩ _ _ _; first | (refine n_index rfl (hK := ?_)))) | (guard_target =~ (_ ∨ _) ∧ _; first | ((refine end_d [] (by rw [Try.results4, Lf.res1]) (ale_1 ?_) ?_) <;> (try (first | exact aleT | exact stq (by with_reducible rfl) | exact stq (by rfl) | exact stq (by simp (disch := omega) only [go_sem, seval, ↓reduceIte, hU]))))) | (refine hK _ _ ?_; clear hK K))
     all_goals exact ale_bl hT.symm
    ·have hT : lgF l 1000 = lgF (l.drop (i + 1)) (r - c.b.length) := by rw [hk, hs, if_neg hbig]
     repeat' (first | (guard_target =~ PWp _ _ _ _ _ _ _; first | (refine pwp_seq_k (fun K hK => ?_)) | (refine pwp_block ?_) | (refine pwp_rg_then ?_) | (refine pwp_rg ?_) | (refine pwp_skip ?_) | ((refine pwp_cond_d (fun hcd => ?_) (fun hcd => ?_)) <;> (try simp only [hcP] at hcd) <;> (try exact cdT))) | (guard_target =~ rg _ _ _ _ _ _ _; first | (guard_target =~ rg _ _ _ [] _ _ _; first | (refine rg_end ?_)) | (refine rg_a rfl (h := ?_)) | (refine rg_v rfl (h := ?_)) | (refine rg_s rfl ?_)) | (guard_target =~ SOp _ _ _ _ _ _; first | (guard_target =~ SOp _ _ ⟨_, .indexAddr _ _ _, _, _, _, none⟩ _ _ _; first | (refine n_index rfl (hK := ?_)))) | (refine hK _ _ ?_; clear hK K))
     refine ⟨(i + 1, r - c.b.length), ⟨by dsimp only; omega, by dsimp only; omega, by dsimp only; omega, hT⟩, by dsimp only; omega, ?_, (by repeat' (first | exact agr_refl | refine agr_cons (by rfl) ?_)), (by first | rfl | (simp (disch := omega) only [go_sem, seval, ↓reduceIte, hU]; done) | (simp (disch := omega) only [go_sem, seval, ↓reduceIte, hU]; rfl))⟩
     (refine ⟨⟨_, sT, ?_⟩, ⟨_, sT, ?_⟩, trivial⟩ <;> (try (first | exact aleT)))
   ·have hT : lgF l 1000 = false := by rw [hk, List.drop_eq_nil_of_le (by omega)]; rfl
    repeat' (first | (guard_target =~ PWp _ _ _ _ _ _ _; first | (refine pwp_seq_k (fun K hK => ?_)) | (refine pwp_rg_then ?_) | (refine pwp_ret ?_) | (refine pwp_exit ?_) | ((refine pwp_cond_d (fun hcd => ?_) (fun hcd => ?_)) <;> (try simp only [hcP] at hcd) <;> (try exact cdT))) | (guard_target =~ rg _ _ _ _ _ _ _; first | (guard_target =~ rg _ _ _ [] _ _ _; first | (refine rg_end ?_)) | (refine rg_a rfl (h := ?_)) | (refine rg_v rfl (h := ?_))) | (guard_target =~ (_ ∨ _) ∧ _; first | ((refine end_d [] (by rw [Try.results4, Lf.res1]) (ale_1 ?_) ?_) <;> (try (first | exact aleT | exact stq (by with_reducible rfl) | exact stq (by rfl) | exact stq (by simp (disch := omega) only [go_sem, seval, ↓reduceIte, hU]))))) | (refine hK _ _ ?_; clear hK K) | (apply_assumption (exfalso := false) (symm := false)))
    all_goals exact ale_bl hT.symm
end Go.Proofs.Ytdalcgfnlbofdaa

