import Derived.Test.YtohbfcmmpaikhaaDoorZ05
import Derived.Test.YtohbfcmmpaikhaaDoorLc
import Derived.Lib.ConvBytes
set_option linter.unusedVariables false
set_option linter.unusedSimpArgs false
namespace Go.Proofs.YtohbfcmmpaikhaaDoor
open Go Go.Lf Go.Proofs
attribute [local irreducible] Lf.rg Lf.ro Lf.PWp Lf.SOp Lf.ACall Lf.Scoped Lf.dg Lf.dw
set_option maxRecDepth 20000
set_option maxHeartbeats 4000000
structure HS where
 (k : Fin 3) (a : Nat) (c : Int) (n : Nat) (o : List UInt8)
def HOk (b : List UInt8) (d : List UInt8) (e : Int) (q : HS) : Prop :=
 q.a ≤ 8 * b.length ∧ q.o.length ≤ q.a ∧ (q.k = 0 → huM ((bitsL b).drop q.a) 0 0 q.o = (d, e)) ∧ (q.k = 1 → Way q.c q.n ∧ huM ((bitsL b).drop q.a) q.c q.n q.o = (d, e)) ∧ (q.k = 2 → Way q.c q.n ∧ huM [] q.c q.n q.o = (d, e))
theorem hok0 {b d : List UInt8} {e : Int} {a n : Nat} {c : Int} {o : List UInt8} (h1 : a ≤ 8 * b.length) (h2 : o.length ≤ a) (h3 : huM ((bitsL b).drop a) 0 0 o = (d, e)) : HOk b d e ⟨0, a, c, n, o⟩ :=
 ⟨h1, h2, fun _ => h3, fun h => absurd (show (0 : Fin 3) = 1 from h) (by decide), fun h => absurd (show (0 : Fin 3) = 2 from h) (by decide)⟩
theorem hok1 {b d : List UInt8} {e : Int} {a n : Nat} {c : Int} {o : List UInt8} (h1 : a ≤ 8 * b.length) (h2 : o.length ≤ a) (hw : Way c n) (h3 : huM ((bitsL b).drop a) c n o = (d, e)) : HOk b d e ⟨1, a, c, n, o⟩ :=
 ⟨h1, h2, fun h => absurd (show (1 : Fin 3) = 0 from h) (by decide), fun _ => ⟨hw, h3⟩, fun h => absurd (show (1 : Fin 3) = 2 from h) (by decide)⟩
theorem hok2 {b d : List UInt8} {e : Int} {a n : Nat} {c : Int} {o : List UInt8} (h1 : a ≤ 8 * b.length) (h2 : o.length ≤ a) (hw : Way c n) (h3 : huM [] c n o = (d, e)) : HOk b d e ⟨2, a, c, n, o⟩ :=
 ⟨h1, h2, fun h => absurd (show (2 : Fin 3) = 0 from h) (by decide), fun h => absurd (show (2 : Fin 3) = 1 from h) (by decide), fun _ => ⟨hw, h3⟩⟩
@[go_sem] theorem fz_bk4 {σ : Sto} : fzl [0, 1, 2, 3] σ bkB = bkB := by
 rw [fzl_map]
 unfold bkB bkA b2
 have h : ∀ l : List Int, (l.map nA).map (fz [0, 1, 2, 3] σ) = l.map nA := by
  intro l; rw [List.map_map]; exact List.map_congr_left (fun _ _ => rfl)
 simp only [List.map_cons, List.map_append, h]
 rfl
theorem way_bd {c : Int} {n : Nat} (h : Way c n) : 0 ≤ c ∧ c ≤ 536870912 ∧ n ≤ 29 := by
 obtain ⟨h1, h2, h3, h4⟩ := h
 have h5 : 2 ^ n ≤ 2 ^ 29 := Nat.pow_le_pow_right (by decide) h3
 have e : (2 : Int) ^ n = ((2 ^ n : Nat) : Int) := by simp
 rw [e] at h2
 omega
theorem pow_29 {n : Nat} (h : n ≤ 29) : 1 ≤ (2 : Int) ^ n ∧ (2 : Int) ^ n ≤ 536870912 := by
 have h5 : 2 ^ n ≤ 2 ^ 29 := Nat.pow_le_pow_right (by decide) h
 have h6 : 0 < 2 ^ n := Nat.pow_pos (by decide)
 have e : (2 : Int) ^ n = ((2 ^ n : Nat) : Int) := by simp
 rw [e]; omega
theorem drop_cons {l : List Int} {a : Nat} {x : Int} (h : l[a]? = some x) : l.drop a = x :: l.drop (a + 1) := by
 obtain ⟨h1, h2⟩ := List.getElem?_eq_some_iff.1 h
 rw [List.drop_eq_getElem_cons h1, h2]
theorem findR_is {c n : Int} (h : findY c n = true) : findR c n = findS c n := by unfold findR; rw [if_pos h]
theorem findR_no {c n : Int} (h : ¬ findY c n = true) : findR c n = 0 := by unfold findR; rw [if_neg h]
attribute [local irreducible] bkB cntN ordB fstI bseI csI szI findY findS findR bitsL codeN huM
theorem hdecode0 (f q : Bool) (b : List UInt8) (hb : b.length ≤ 100000) (d : List UInt8) (e : Int) (htot : huM (bitsL b) 0 0 [] = (d, e)) : AEq Tryd.prog 74 [.sl f q (b.map byteA)] [] (.tu [.sl false false (d.map byteA), i64 e]) [] := by
 have hr0 := rnl_bk0
 have hbl := bitsL_len b
 refine acall_body Tryd.func74 rfl Tryd.ntmps74 (by simp) (fun hsc => ?_); simp only [Lf.enter, Nat.reduceAdd]; clear hsc
 have hU := @hr0
 repeat' (first | (guard_target =~ PWp _ _ _ _ _ _ _; first | (refine pwp_seq_k (fun K hK => ?_)) | (refine pwp_rg_then ?_)) | (guard_target =~ rg _ _ _ _ _ _ _; first | (guard_target =~ rg _ _ _ [] _ _ _; first | (refine rg_end ?_)) | (refine rg_a rfl (h := ?_))) | (refine hK _ _ ?_; clear hK K))
 refine pwp_scope_3 (S := HS) HS.k (fun q => [(4, .row 3 q.o.length), (5, i64 q.c), (6, i64 q.n), (11, .ptr 0 0), (12, .ptr 2 0)]) (fun q => [.box bkB, .row 257 3 1 (ordB.map natA), .box [.sl false false (b.map byteA), i64 q.a], .row q.o.length 5 1 (q.o.map byteA)]) (HOk b d e) (fun q => 3 * (8 * b.length - q.a) + (2 - q.k.val)) (by rfl) (by rfl) (by rfl) ?_ ?_ ?_ (fun hB => ?_)
 ·rintro ⟨k, a, c, n, o⟩ rfl ⟨ha, ho, h0, h1, h2⟩ hB
  dsimp only at ha ho h0 h1 h2 hB ⊢
  have h0 := h0 rfl
  clear h1 h2
  have hU := True.intro
  repeat' (first | (guard_target =~ PWp _ _ _ _ _ _ _; first | (refine pwp_seq_k (fun K hK => ?_)) | (refine pwp_rg_then ?_)) | (guard_target =~ rg _ _ _ _ _ _ _; first | (guard_target =~ rg _ _ _ [] _ _ _; first | (refine rg_end ?_)) | (refine rg_a rfl (h := ?_))) | (refine hK _ _ ?_; clear hK K))
  refine pwp_label ?_
  dsimp only [Lf.thenQ]
  refine hK _ _ ?_
  refine hB _ _ ⟨1, a, 0, 0, o⟩ [0, 1, 2, 3] rfl (hok1 ha ho way_0 h0) ?_ rfl ?_ ?_
  ·dsimp only; omega
  ·(refine ⟨⟨_, (by (try simp (disch := omega) only [go_sem, seval, ↓reduceIte, hU]) <;> rfl), ?_⟩, ⟨_, (by (try simp (disch := omega) only [go_sem, seval, ↓reduceIte, hU]) <;> rfl), ?_⟩, ⟨_, (by (try simp (disch := omega) only [go_sem, seval, ↓reduceIte, hU]) <;> rfl), ?_⟩, ⟨_, (by (try simp (disch := omega) only [go_sem, seval, ↓reduceIte, hU]) <;> rfl), ?_⟩, ⟨_, (by (try simp (disch := omega) only [go_sem, seval, ↓reduceIte, hU]) <;> rfl), ?_⟩, trivial⟩ <;> (try (first | exact ale_eq (by with_reducible rfl) | exact ale_full | exact ale_sl (fun _ => rfl) | exact ale_sl (by simp) | exact ale_junk | exact ale_eq rfl)))
  ·first | rfl | (simp (disch := omega) only [go_sem, seval, ↓reduceIte, fz_bk4]; done) | (simp (disch := omega) only [go_sem, seval, ↓reduceIte, fz_bk4]; rfl) | trace_state
 ·rintro ⟨k, a, c, n, o⟩ rfl ⟨ha, ho, h0, h1, h2⟩
  dsimp only at ha ho h0 h1 h2 ⊢
  obtain ⟨hw, h1⟩ := h1 rfl
  obtain ⟨hc0, hc1, hn⟩ := way_bd hw
  clear h0 h2
  by_cases hend : a = 8 * b.length
  ·rw [List.drop_eq_nil_of_le (by omega)] at h1
   have hU := True.intro
   repeat' (first | (guard_target =~ PWp _ _ _ _ _ _ _; first | (refine pwp_seq_k (fun K hK => ?_)) | (refine pwp_rg_then ?_) | ((refine pwp_cond_d (fun hcd => ?_) (fun hcd => ?_)) <;> (try simp only [hcP] at hcd) <;> (try (exfalso; first | omega | exact absurd hcd (by assumption) | exact absurd (by assumption) hcd))) | (refine pwp_goto ?_)) | (guard_target =~ rg _ _ _ _ _ _ _; first | (guard_target =~ rg _ _ _ [] _ _ _; first | (refine rg_end ?_)) | (refine rg_a rfl (h := ?_)) | (refine rg_x rfl (hy := rfl) (h := ?_)) | (refine rg_v rfl (h := ?_)) | (refine rg_s rfl ?_)) | (guard_target =~ SOp _ _ _ _ _ _; first | (guard_target =~ SOp _ _ ⟨_, .call ⟨.value (.func 97), _, _⟩, _, _, _, none⟩ _ _ _; first | (refine n_call (f := 97) rfl Tryd.call97 (h := AEq.sub' [_] (hc := br_bit_no _ _ _ (by omega) (by omega) (by omega)) (hq := ?_))))) | (refine hK _ _ ?_; clear hK K) | (dsimp only [Lf.thenQ, Lf.blockQ]))
   refine ⟨⟨2, a, c, n, o⟩, [0, 1, 2, 3], rfl, hok2 ha ho hw h1, ?_, rfl, ?_, ?_⟩
   ·dsimp only; omega
   ·(refine ⟨⟨_, (by (try simp (disch := omega) only [go_sem, seval, ↓reduceIte, hU]) <;> rfl), ?_⟩, ⟨_, (by (try simp (disch := omega) only [go_sem, seval, ↓reduceIte, hU]) <;> rfl), ?_⟩, ⟨_, (by (try simp (disch := omega) only [go_sem, seval, ↓reduceIte, hU]) <;> rfl), ?_⟩, ⟨_, (by (try simp (disch := omega) only [go_sem, seval, ↓reduceIte, hU]) <;> rfl), ?_⟩, ⟨_, (by (try simp (disch := omega) only [go_sem, seval, ↓reduceIte, hU]) <;> rfl), ?_⟩, trivial⟩ <;> (try (first | exact ale_eq (by with_reducible rfl) | exact ale_full | exact ale_sl (fun _ => rfl) | exact ale_sl (by simp) | exact ale_junk | exact ale_eq rfl)))
   ·first | rfl | (simp (disch := omega) only [go_sem, seval, ↓reduceIte, fz_bk4]; done) | (simp (disch := omega) only [go_sem, seval, ↓reduceIte, fz_bk4]; rfl) | trace_state
  ·have hlt : a < (bitsL b).length := by omega
   obtain ⟨x, hx⟩ := ex_at hlt
   have hx01 := bits01 b x (List.mem_of_getElem? hx)
   have hxg : (bitsL b).getD a 0 = x := by rw [List.getD_eq_getElem?_getD, hx]; rfl
   have hor := or_bit c x (by omega) (by omega) hx01
   rw [drop_cons hx] at h1
   by_cases hY : findY (2 * c + x) ((n : Int) + 1) = true
   ·have hR := findR_is hY
    by_cases h256 : findS (2 * c + x) ((n : Int) + 1) = 256
    ·rw [huM_end _ _ hY h256] at h1
     obtain ⟨rfl, rfl⟩ : d = [] ∧ e = 11 := by simp only [Prod.mk.injEq] at h1; exact ⟨h1.1.symm, h1.2.symm⟩
     have hU := And.intro @hxg ( And.intro @hor ( And.intro @hR ( And.intro @hY (@h256))))
     repeat' (first | (guard_target =~ PWp _ _ _ _ _ _ _; first | (refine pwp_seq_k (fun K hK => ?_)) | (refine pwp_rg_then ?_) | (refine pwp_ret ?_) | (refine pwp_skip ?_) | ((refine pwp_cond_d (fun hcd => ?_) (fun hcd => ?_)) <;> (try simp only [hcP] at hcd) <;> (try (exfalso; first | omega | exact absurd hcd (by assumption) | exact absurd (by assumption) hcd)))) | (guard_target =~ rg _ _ _ _ _ _ _; first | (guard_target =~ rg _ _ _ [] _ _ _; first | (refine rg_end ?_)) | (refine rg_a rfl (h := ?_)) | (refine rg_x rfl (hy := rfl) (h := ?_)) | (refine rg_v rfl (h := ?_)) | (refine rg_s rfl ?_)) | (guard_target =~ SOp _ _ _ _ _ _; first | (guard_target =~ SOp _ _ ⟨_, .call ⟨.value (.func 98), _, _⟩, _, _, _, none⟩ _ _ _; first | (refine n_call (f := 98) rfl Tryd.call98 (h := AEq.sub' [0, 1] (by refine ⟨?_, ?_, ?_, trivial⟩ <;> (first | exact arg_lit | exact arg_rn (by rfl) (by rfl))) (by exact sub_bk _) (bfind _ _ (by omega) (by omega)) (ho := by exact okP_bk) (hq := ?_)))) | (guard_target =~ SOp _ _ ⟨_, .call ⟨.value (.func 97), _, _⟩, _, _, _, none⟩ _ _ _; first | (refine n_call (f := 97) rfl Tryd.call97 (h := AEq.sub' [_] (hc := br_bit _ _ _ (by omega) (by omega) (by omega)) (hq := ?_))))) | (guard_target =~ (_ ∨ _) ∧ _; first | ((refine end_d [] (by rw [Tryd.results74, Lf.res2]) (ale_2 ?_ ?_) ?_) <;> (try (first | exact ale_eq (by with_reducible rfl) | exact ale_full | exact ale_sl (fun _ => rfl) | exact ale_sl (by simp) | exact ale_junk | exact ale_eq rfl | exact stq (by with_reducible rfl) | exact stq (by rfl) | exact stq (by simp (disch := omega) only [go_sem, seval, ↓reduceIte, hU]))))) | (refine hK _ _ ?_; clear hK K))
     all_goals trace_state
    ·rw [huM_yes _ _ hY h256] at h1
     obtain ⟨s, hs, hS, _⟩ := of_find hY
     rw [hS] at hR h256 h1
     rw [Int.toNat_natCast] at h1
     have hs6 : s < 256 := by omega
     have hol : (o ++ [UInt8.ofNat s]).length = o.length + 1 := by rw [List.length_append]; rfl
     have hsn : (UInt8.ofNat s).toNat = s := by simp; omega
     have hap : List.map byteA o ++ [[AV.lit (.int .u8 (s : Int))]] = List.map byteA (o ++ [UInt8.ofNat s]) := by rw [List.map_append]; show _ = List.map byteA o ++ [[AV.lit (.int .u8 ((UInt8.ofNat s).toNat : Int))]]; rw [hsn]
     have hU := And.intro @hxg ( And.intro @hor ( And.intro @hR ( And.intro @hY ( And.intro @h256 (@hap)))))
     repeat' (first | (guard_target =~ PWp _ _ _ _ _ _ _; first | (refine pwp_seq_k (fun K hK => ?_)) | (refine pwp_rg_then ?_) | (refine pwp_skip ?_) | ((refine pwp_cond_d (fun hcd => ?_) (fun hcd => ?_)) <;> (try simp only [hcP] at hcd) <;> (try (exfalso; first | omega | exact absurd hcd (by assumption) | exact absurd (by assumption) hcd))) | (refine pwp_goto ?_)) | (guard_target =~ rg _ _ _ _ _ _ _; first | (guard_target =~ rg _ _ _ [] _ _ _; first | (refine rg_end ?_)) | (refine rg_a rfl (h := ?_)) | (refine rg_x rfl (hy := rfl) (h := ?_)) | (refine rg_v rfl (h := ?_)) | (refine rg_s rfl ?_)) | (guard_target =~ SOp _ _ _ _ _ _; first | (guard_target =~ SOp _ _ ⟨_, .call ⟨.value (.func 98), _, _⟩, _, _, _, none⟩ _ _ _; first | (refine n_call (f := 98) rfl Tryd.call98 (h := AEq.sub' [0, 1] (by refine ⟨?_, ?_, ?_, trivial⟩ <;> (first | exact arg_lit | exact arg_rn (by rfl) (by rfl))) (by exact sub_bk _) (bfind _ _ (by omega) (by omega)) (ho := by exact okP_bk) (hq := ?_)))) | (guard_target =~ SOp _ _ ⟨_, .call ⟨.builtin .append, _, _⟩, _, _, _, none⟩ _ _ _; first | (refine n_append_row rfl (he := by first | exact eo3 | exact eo4 | exact eo5 | exact eo22 | exact eo28 | exact eo53 | exact eo129 | exact eo148 | exact eo150 | exact eo168 | exact eo169 | exact eo171 | exact eo173 | fail) (hK := ?_))) | (guard_target =~ SOp _ _ ⟨_, .buildSlice _ _ _, _, _, _, none⟩ _ _ _; first | (refine n_lit rfl (he := by first | exact eo3 | exact eo4 | exact eo5 | exact eo22 | exact eo28 | exact eo53 | exact eo129 | exact eo148 | exact eo150 | exact eo168 | exact eo169 | exact eo171 | exact eo173 | fail) (hK := ?_))) | (guard_target =~ SOp _ _ ⟨_, .call ⟨.value (.func 97), _, _⟩, _, _, _, none⟩ _ _ _; first | (refine n_call (f := 97) rfl Tryd.call97 (h := AEq.sub' [_] (hc := br_bit _ _ _ (by omega) (by omega) (by omega)) (hq := ?_))))) | (refine hK _ _ ?_; clear hK K) | (dsimp only [Lf.thenQ, Lf.blockQ]))
     refine ⟨⟨0, a + 1, 2 * c + x, n + 1, o ++ [UInt8.ofNat s]⟩, [0, 1, 2, 3], rfl, hok0 (by omega) (by rw [hol]; omega) h1, ?_, rfl, ?_, ?_⟩
     ·dsimp only; omega
     ·(refine ⟨⟨_, (by (try simp (disch := omega) only [go_sem, seval, ↓reduceIte, hU]) <;> rfl), ?_⟩, ⟨_, (by (try simp (disch := omega) only [go_sem, seval, ↓reduceIte, hU]) <;> rfl), ?_⟩, ⟨_, (by (try simp (disch := omega) only [go_sem, seval, ↓reduceIte, hU]) <;> rfl), ?_⟩, ⟨_, (by (try simp (disch := omega) only [go_sem, seval, ↓reduceIte, hU]) <;> rfl), ?_⟩, ⟨_, (by (try simp (disch := omega) only [go_sem, seval, ↓reduceIte, hU]) <;> rfl), ?_⟩, trivial⟩ <;> (try (first | exact ale_eq (by with_reducible rfl) | exact ale_full | exact ale_sl (fun _ => rfl) | exact ale_sl (by simp) | exact ale_junk | exact ale_eq rfl)))
      all_goals exact ale_eq (by dsimp only; rw [hol])
     ·dsimp only; rw [hol]; first | rfl | (simp (disch := omega) only [go_sem, seval, ↓reduceIte, hxg, hor, hR, hY, h256, hap, fz_bk4]; done) | (simp (disch := omega) only [go_sem, seval, ↓reduceIte, hxg, hor, hR, hY, h256, hap, fz_bk4]; rfl) | trace_state
   ·have hR := findR_no hY
    rw [huM_no _ _ hY] at h1
    have hw2 := way_s hw hx01 hY
    have hU := And.intro @hxg ( And.intro @hor ( And.intro @hR (@hY)))
    repeat' (first | (guard_target =~ PWp _ _ _ _ _ _ _; first | (refine pwp_seq_k (fun K hK => ?_)) | (refine pwp_rg_then ?_) | (refine pwp_skip ?_) | ((refine pwp_cond_d (fun hcd => ?_) (fun hcd => ?_)) <;> (try simp only [hcP] at hcd) <;> (try (exfalso; first | omega | exact absurd hcd (by assumption) | exact absurd (by assumption) hcd))) | (refine pwp_goto ?_)) | (guard_target =~ rg _ _ _ _ _ _ _; first | (guard_target =~ rg _ _ _ [] _ _ _; first | (refine rg_end ?_)) | (refine rg_a rfl (h := ?_)) | (refine rg_x rfl (hy := rfl) (h := ?_)) | (refine rg_v rfl (h := ?_)) | (refine rg_s rfl ?_)) | (guard_target =~ SOp _ _ _ _ _ _; first | (guard_target =~ SOp _ _ ⟨_, .call ⟨.value (.func 98), _, _⟩, _, _, _, none⟩ _ _ _; first | (refine n_call (f := 98) rfl Tryd.call98 (h := AEq.sub' [0, 1] (by refine ⟨?_, ?_, ?_, trivial⟩ <;> (first | exact arg_lit | exact arg_rn (by rfl) (by rfl))) (by exact sub_bk _) (bfind _ _ (by omega) (by omega)) (ho := by exact okP_bk) (hq := ?_)))) | (guard_target =~ SOp _ _ ⟨_, .call ⟨.value (.func 97), _, _⟩, _, _, _, none⟩ _ _ _; first | (refine n_call (f := 97) rfl Tryd.call97 (h := AEq.sub' [_] (hc := br_bit _ _ _ (by omega) (by omega) (by omega)) (hq := ?_))))) | (refine hK _ _ ?_; clear hK K) | (dsimp only [Lf.thenQ, Lf.blockQ]))
    refine ⟨⟨1, a + 1, 2 * c + x, n + 1, o⟩, [0, 1, 2, 3], rfl, hok1 (by omega) (by omega) hw2 h1, ?_, rfl, ?_, ?_⟩
    ·dsimp only; omega
    ·(refine ⟨⟨_, (by (try simp (disch := omega) only [go_sem, seval, ↓reduceIte, hU]) <;> rfl), ?_⟩, ⟨_, (by (try simp (disch := omega) only [go_sem, seval, ↓reduceIte, hU]) <;> rfl), ?_⟩, ⟨_, (by (try simp (disch := omega) only [go_sem, seval, ↓reduceIte, hU]) <;> rfl), ?_⟩, ⟨_, (by (try simp (disch := omega) only [go_sem, seval, ↓reduceIte, hU]) <;> rfl), ?_⟩, ⟨_, (by (try simp (disch := omega) only [go_sem, seval, ↓reduceIte, hU]) <;> rfl), ?_⟩, trivial⟩ <;> (try (first | exact ale_eq (by with_reducible rfl) | exact ale_full | exact ale_sl (fun _ => rfl) | exact ale_sl (by simp) | exact ale_junk | exact ale_eq rfl)))
    ·first | rfl | (simp (disch := omega) only [go_sem, seval, ↓reduceIte, hxg, hor, hR, hY, fz_bk4]; done) | (simp (disch := omega) only [go_sem, seval, ↓reduceIte, hxg, hor, hR, hY, fz_bk4]; rfl) | trace_state
 ·rintro ⟨k, a, c, n, o⟩ rfl ⟨ha, ho, h0, h1, h2⟩
  dsimp only at ha ho h0 h1 h2 ⊢
  obtain ⟨hw, h2⟩ := h2 rfl
  obtain ⟨hc0, hc1, hn⟩ := way_bd hw
  clear h0 h1
  have hp := pow_29 hn
  have hwr : IntKind.i64.wrap (IntKind.i64.wrap (2 ^ n) - 1) = 2 ^ n - 1 := by rw [w64 (n := 2 ^ n) (by omega), w64 (by omega)]
  by_cases hbad : 7 < n ∨ c ≠ 2 ^ n - 1
  ·rw [huM_nil, if_pos hbad] at h2
   obtain ⟨rfl, rfl⟩ : d = [] ∧ e = 10 := by simp only [Prod.mk.injEq] at h2; exact ⟨h2.1.symm, h2.2.symm⟩
   have hU := @hwr
   repeat' (first | (guard_target =~ PWp _ _ _ _ _ _ _; first | (refine pwp_seq_k (fun K hK => ?_)) | (refine pwp_rg_then ?_) | (refine pwp_ret ?_) | ((refine pwp_cond_d (fun hcd => ?_) (fun hcd => ?_)) <;> (try simp only [hcP] at hcd) <;> (try (exfalso; first | omega | exact absurd hcd (by assumption) | exact absurd (by assumption) hcd)))) | (guard_target =~ rg _ _ _ _ _ _ _; first | (guard_target =~ rg _ _ _ (⟨_, .binOp _ _ _ _ _, _, _, _, some _⟩ :: _) _ _ _; first | (refine rg_gq rfl (h := ?_))) | (guard_target =~ rg _ _ _ (⟨_, .move _, _, _, _, some _⟩ :: _) _ _ _; first | (refine rg_gq rfl (h := ?_))) | (guard_target =~ rg _ _ _ (⟨_, .convert _ _ _, _, _, _, some _⟩ :: _) _ _ _; first | (refine rg_gq rfl (h := ?_))) | (guard_target =~ rg _ _ _ [] _ _ _; first | (refine rg_end ?_)) | (refine rg_a rfl (h := ?_)) | (refine rg_v rfl (h := ?_))) | (guard_target =~ (_ ∨ _) ∧ _; first | ((refine end_d [] (by rw [Tryd.results74, Lf.res2]) (ale_2 ?_ ?_) ?_) <;> (try (first | exact ale_eq (by with_reducible rfl) | exact ale_full | exact ale_sl (fun _ => rfl) | exact ale_sl (by simp) | exact ale_junk | exact ale_eq rfl | exact stq (by with_reducible rfl) | exact stq (by rfl) | exact stq (by simp (disch := omega) only [go_sem, seval, ↓reduceIte, hU]))))) | (refine hK _ _ ?_; clear hK K))
   all_goals trace_state
  ·rw [huM_nil, if_neg hbad] at h2
   obtain ⟨rfl, rfl⟩ : d = o ∧ e = 0 := by simp only [Prod.mk.injEq] at h2; exact ⟨h2.1.symm, h2.2.symm⟩
   have hU := @hwr
   repeat' (first | (guard_target =~ PWp _ _ _ _ _ _ _; first | (refine pwp_seq_k (fun K hK => ?_)) | (refine pwp_rg_then ?_) | (refine pwp_ret ?_) | (refine pwp_skip ?_) | ((refine pwp_cond_d (fun hcd => ?_) (fun hcd => ?_)) <;> (try simp only [hcP] at hcd) <;> (try (exfalso; first | omega | exact absurd hcd (by assumption) | exact absurd (by assumption) hcd)))) | (guard_target =~ rg _ _ _ _ _ _ _; first | (guard_target =~ rg _ _ _ (⟨_, .binOp _ _ _ _ _, _, _, _, some _⟩ :: _) _ _ _; first | (refine rg_gq rfl (h := ?_))) | (guard_target =~ rg _ _ _ (⟨_, .move _, _, _, _, some _⟩ :: _) _ _ _; first | (refine rg_gq rfl (h := ?_))) | (guard_target =~ rg _ _ _ (⟨_, .convert _ _ _, _, _, _, some _⟩ :: _) _ _ _; first | (refine rg_gq rfl (h := ?_))) | (guard_target =~ rg _ _ _ [] _ _ _; first | (refine rg_end ?_)) | (refine rg_a rfl (h := ?_)) | (refine rg_v rfl (h := ?_))) | (guard_target =~ (_ ∨ _) ∧ _; first | ((refine end_d [] (by rw [Tryd.results74, Lf.res2]) (ale_2 ?_ ?_) ?_) <;> (try (first | exact ale_eq (by with_reducible rfl) | exact ale_full | exact ale_sl (fun _ => rfl) | exact ale_sl (by simp) | exact ale_junk | exact ale_eq rfl | exact stq (by with_reducible rfl) | exact stq (by rfl) | exact stq (by simp (disch := omega) only [go_sem, seval, ↓reduceIte, hU]))))) | (refine hK _ _ ?_; clear hK K))
   all_goals trace_state
 ·have hU := True.intro
  repeat' (first | (guard_target =~ PWp _ _ _ _ _ _ _; first | (refine pwp_seq_k (fun K hK => ?_)) | (refine pwp_rg_then ?_)) | (guard_target =~ rg _ _ _ _ _ _ _; first | (guard_target =~ rg _ _ _ [] _ _ _; first | (refine rg_end ?_)) | (refine rg_a rfl (h := ?_)) | (refine rg_v rfl (h := ?_)) | (refine rg_s rfl ?_)) | (guard_target =~ SOp _ _ _ _ _ _; first | (guard_target =~ SOp _ _ ⟨_, .call ⟨.value (.func 95), _, _⟩, _, _, _, none⟩ _ _ _; first | (refine n_call (f := 95) rfl Tryd.call95 (h := AEq.sub' [] (hc := cbook) (hq := ?_)))) | (guard_target =~ SOp _ _ ⟨_, .call ⟨.value (.func 96), _, _⟩, _, _, _, none⟩ _ _ _; first | (refine n_call (f := 96) rfl Tryd.call96 (h := AEq.sub' [] (hc := br_of _ _ _ (by omega)) (hq := ?_))))) | (refine hK _ _ ?_; clear hK K))
  refine pwp_label ?_
  dsimp only [Lf.thenQ]
  refine hK _ _ ?_
  refine pwp_row 4 5 1 (by decide) (by rfl) rfl rfl ?_
  refine hB _ _ ⟨0, 0, 0, 0, []⟩ [0, 1, 2, 3] rfl (hok0 (Nat.zero_le _) (Nat.le_refl _) htot) rfl ?_ ?_
  ·(refine ⟨⟨_, (by (try simp (disch := omega) only [go_sem, seval, ↓reduceIte, hU]) <;> rfl), ?_⟩, ⟨_, (by (try simp (disch := omega) only [go_sem, seval, ↓reduceIte, hU]) <;> rfl), ?_⟩, ⟨_, (by (try simp (disch := omega) only [go_sem, seval, ↓reduceIte, hU]) <;> rfl), ?_⟩, ⟨_, (by (try simp (disch := omega) only [go_sem, seval, ↓reduceIte, hU]) <;> rfl), ?_⟩, ⟨_, (by (try simp (disch := omega) only [go_sem, seval, ↓reduceIte, hU]) <;> rfl), ?_⟩, trivial⟩ <;> (try (first | exact ale_eq (by with_reducible rfl) | exact ale_full | exact ale_sl (fun _ => rfl) | exact ale_sl (by simp) | exact ale_junk | exact ale_eq rfl)))
  ·first | rfl | (simp (disch := omega) only [go_sem, seval, ↓reduceIte, fz_bk4]; done) | (simp (disch := omega) only [go_sem, seval, ↓reduceIte, fz_bk4]; rfl) | trace_state
theorem hdecode (f q : Bool) (b : List UInt8) (hb : b.length ≤ 100000) : AEq Tryd.prog 74 [.sl f q (b.map byteA)] [] (.tu [.sl false false ((huM (bitsL b) 0 0 []).1.map byteA), i64 (huM (bitsL b) 0 0 []).2]) [] := hdecode0 f q b hb _ _ rfl
end Go.Proofs.YtohbfcmmpaikhaaDoor

set_option linter.unusedVariables false
set_option linter.unusedSimpArgs false
namespace Go.Proofs.YtohbfcmmpaikhaaDoor
open Go Go.Lf Go.Proofs
attribute [local irreducible] Lf.rg Lf.ro Lf.PWp Lf.SOp Lf.ACall Lf.Scoped Lf.dg Lf.dw
set_option maxRecDepth 20000
set_option maxHeartbeats 4000000
theorem encL01 (b : List UInt8) : ∀ x ∈ encL b, x = 0 ∨ x = 1 := by
 have key : ∀ (b : List UInt8) (L : List Int), (∀ x ∈ L, x = 0 ∨ x = 1) → ∀ x ∈ b.foldl encS L, x = 0 ∨ x = 1 := by
  intro b
  induction b with
  | nil => intro L h; exact h
  | cons y b ih =>
   intro L h
   rw [List.foldl_cons]
   refine ih _ ?_
   unfold encS rpL
   split
   ·intro x hx
    rw [List.mem_append] at hx
    rcases hx with hx | hx
    ·exact h x hx
    ·exact msb01 _ _ x hx
   ·exact h
 exact key b [] (by simp)
attribute [local irreducible] codesT csI szI rpL rowB encL packL lensT
end Go.Proofs.YtohbfcmmpaikhaaDoor

set_option linter.unusedVariables false
set_option linter.unusedSimpArgs false
namespace Go.Proofs.YtohbfcmmpaikhaaDoor
open Go Go.Lf Go.Proofs
attribute [local irreducible] Lf.rg Lf.ro Lf.PWp Lf.SOp Lf.ACall Lf.Scoped Lf.dg Lf.dw
set_option maxRecDepth 20000
set_option maxHeartbeats 4000000
def begG (l : List Int) : Nat → Nat → Int × Int
 | 0, _ => (-1, 0)
 | m + 1, p => if findY (numBits (l.take (p + 1))) ((p : Int) + 1) = true then (findS (numBits (l.take (p + 1))) ((p : Int) + 1), (p : Int) + 1) else begG l m (p + 1)
def begL (l : List Int) : Int × Int := begG l (min 30 l.length) 0
attribute [local irreducible] codesT csI szI lensT findY findS numBits begL
attribute [local irreducible] huM bitsL
end Go.Proofs.YtohbfcmmpaikhaaDoor

set_option linter.unusedVariables false
set_option linter.unusedSimpArgs false
namespace Go.Proofs.YtohbfcmmpaikhaaDoor
open Go Go.Lf Go.Proofs
attribute [local irreducible] Lf.rg Lf.ro Lf.PWp Lf.SOp Lf.ACall Lf.Scoped Lf.dg
set_option maxRecDepth 20000
set_option maxHeartbeats 4000000
theorem tab_c : ∀ i : Fin 257, 0 ≤ codO.getD i.val 0 ∧ codO.getD i.val 0 < 2 ^ (lenO.getD i.val 0) := by decide +kernel
theorem cs_lt {s : Nat} (h : s < 257) : 0 ≤ csI s ∧ csI s < 2 ^ (szI (s : Int)).toNat := by
 obtain ⟨h1, h2⟩ := sym_idx ⟨s, h⟩
 dsimp only at h1 h2
 generalize symT.idxOf s = i at h1 h2
 obtain ⟨s2, e1, e2, e3, e4⟩ := sym_at h1
 rw [h2] at e3
 subst e3
 have hc := sym_cs h1
 rw [h2] at hc
 have := tab_c ⟨i, h1⟩
 dsimp only at this
 rw [hc, e4, Int.toNat_natCast]
 exact this
def cdL (x : UInt8) : List Int := msb (csI x.toNat) (szI (x.toNat : Int)).toNat
theorem encS_eq (L : List Int) (x : UInt8) : encS L x = L ++ cdL x := by
 have hx := x.toNat_lt
 have h1 := cs_lt (s := x.toNat) (by omega)
 have h2 := szI_b x
 unfold encS rpL cdL
 have e : rpE (csI x.toNat) (szI (x.toNat : Int)) = 0 := by
  unfold rpE
  rw [if_neg (by omega), if_neg (by omega)]
 rw [if_pos e]
theorem fold_enc (b : List UInt8) (L : List Int) : b.foldl encS L = L ++ b.flatMap cdL := by
 induction b generalizing L with
 | nil => simp
 | cons x b ih => rw [List.foldl_cons, ih, encS_eq, List.flatMap_cons, List.append_assoc]
theorem encL_eq (b : List UInt8) : encL b = b.flatMap cdL := by unfold encL; rw [fold_enc]; rfl
theorem not_front {p : Nat} {c : Int} (hp : p ≤ 30) (h : codeN (p + 1) ≤ c) : ¬ findY c (p : Int) = true := by
 intro hy
 have hy := of_decide_eq_true hy
 rw [Int.toNat_natCast] at hy
 have e1 : codeN (p + 1) = codeN p * 2 + cntN 257 p := rfl
 have e2 : fstI p = codeN p * 2 := rfl
 omega
theorem cntN_nn (n : Nat) : 0 ≤ cntN 257 n := (cntN_bd (Nat.le_refl _)).1
theorem front_ge {n : Nat} {c : Int} (h : codeN n * 2 ≤ c) : ∀ q p : Nat, p + q = n → 1 ≤ q → codeN (p + 1) ≤ c / 2 ^ q := by
 intro q
 induction q with
 | zero => intro p _ h; omega
 | succ q ih =>
  intro p hp _
  by_cases hq : q = 0
  ·subst hq
   obtain rfl : p + 1 = n := by omega
   rw [show (2 : Int) ^ (0 + 1) = 2 from rfl]; omega
  ·have h1 := ih (p + 1) (by omega) (by omega)
   have e : codeN (p + 1 + 1) = codeN (p + 1) * 2 + cntN 257 (p + 1) := rfl
   have h2 := cntN_nn (p + 1)
   rw [Int.pow_succ, ← Int.ediv_ediv_of_nonneg (Int.le_of_lt (Int.pow_pos (by decide)))]
   omega
theorem hu_code {s : Nat} (h : s < 256) (l : List Int) (o : List UInt8) : huM (msb (csI s) (szI (s : Int)).toNat ++ l) 0 0 o = huM l 0 0 (o ++ [UInt8.ofNat s]) := by
 obtain ⟨hy, hS⟩ := find_of (s := s) (by omega)
 obtain ⟨hc0, hc1⟩ := cs_lt (s := s) (by omega)
 have hy2 := of_decide_eq_true hy
 obtain ⟨n, hn⟩ : ∃ n : Nat, szI (s : Int) = n := ⟨(szI (s : Int)).toNat, by omega⟩
 rw [hn] at hy hS hc1 hy2 ⊢
 rw [Int.toNat_natCast] at hc1 hy2 ⊢
 generalize hc : csI s = c at *
 have hge : codeN n * 2 ≤ c := hy2.2.2.1
 have key : ∀ q p : Nat, p + q = n → 1 ≤ q → huM (msb c q ++ l) (c / 2 ^ q) p o = huM l 0 0 (o ++ [UInt8.ofNat s]) := by
  intro q
  induction q with
  | zero => intro p _ h; omega
  | succ q ih =>
   intro p hp _
   have e : 2 * (c / 2 ^ (q + 1)) + c / 2 ^ q % 2 = c / 2 ^ q := by
    rw [Int.pow_succ, ← Int.ediv_ediv_of_nonneg (Int.le_of_lt (Int.pow_pos (by decide)))]; omega
   show huM ((c / 2 ^ q % 2) :: (msb c q ++ l)) (c / 2 ^ (q + 1)) p o = _
   by_cases hq : q = 0
   ·subst hq
    have e0 : c / 2 ^ 0 = c := by rw [Int.pow_zero, Int.ediv_one]
    have ep : ((p : Int) + 1) = (n : Int) := by omega
    rw [huM_yes _ _ (by rw [e, e0, ep]; exact hy) (by rw [e, e0, ep, hS]; omega), e, e0, ep, hS, Int.toNat_natCast]
    rfl
   ·have h1 := front_ge hge q (p + 1) (by omega) (by omega)
    have h2 := not_front (p := p + 1) (by omega) h1
    rw [huM_no _ _ (by rw [e]; exact h2), e]
    exact ih (p + 1) (by omega) (by omega)
 have := key n 0 (by omega) (by omega)
 rw [Int.ediv_eq_zero_of_lt hc0 hc1] at this
 exact this
theorem hu_codes (b : List UInt8) (l : List Int) (o : List UInt8) : huM (b.flatMap cdL ++ l) 0 0 o = huM l 0 0 (o ++ b) := by
 induction b generalizing o with
 | nil => simp
 | cons x b ih =>
  rw [List.flatMap_cons, List.append_assoc]
  have := hu_code x.toNat_lt (b.flatMap cdL ++ l) o
  show huM (msb (csI x.toNat) (szI (x.toNat : Int)).toNat ++ (b.flatMap cdL ++ l)) 0 0 o = _
  rw [this, ih]
  simp
theorem ones_no : ∀ p : Fin 7, findY (2 * (2 ^ p.val - 1) + 1) ((p.val : Nat) + 1) = false := by decide +kernel
theorem hu_ones (k : Nat) (o : List UInt8) : ∀ p : Nat, p + k ≤ 7 → huM (List.replicate k 1) (2 ^ p - 1) p o = (o, 0) := by
 induction k with
 | zero => intro p h; rw [List.replicate_zero, huM_nil, if_neg (by omega)]
 | succ k ih =>
  intro p h
  have h1 := ones_no ⟨p, by omega⟩
  dsimp only at h1
  rw [List.replicate_succ, huM_no _ _ (by rw [h1]; decide), show (2 : Int) * (2 ^ p - 1) + 1 = 2 ^ (p + 1) - 1 from by rw [Int.pow_succ]; omega]
  exact ih (p + 1) (by omega)
theorem hu_back (b : List UInt8) : huM (bitsL (rowB (encL b))) 0 0 [] = (b, 0) := by
 have hl := rowB_len (encL b)
 rw [bits_row _ (encL01 b), encL_eq, hu_codes, List.nil_append]
 rw [encL_eq] at hl
 exact hu_ones _ b 0 (by omega)
end Go.Proofs.YtohbfcmmpaikhaaDoor

set_option linter.unusedVariables false
set_option linter.unusedSimpArgs false
namespace Go.Lf
open Go
theorem PVl_bytes {M : Nat → Prop} {w : World} : ∀ l : List UInt8, PVl M w (l.map byteA).flatten (l.map fun x => Value.int .u8 x.toNat)
 | [] => by simp [PVl]
 | x :: l => by simp only [List.map_cons, List.flatten_cons, byteA, List.cons_append, List.nil_append, PVl, PV]; exact ⟨trivial, PVl_bytes l⟩
theorem sop_bytes {P : Program} {N : Nat} {o : Oper} {Γ : Env} {σ : Sto} {K : AV → Sto → Prop} {t t2 e : Nat} {x : Operand} {l : List UInt8} (ho : o.op = .convert t2 t x) (hs : P.underlying t2 = some .string) (ht : P.underlying t = some (.slice e)) (he : P.underlying e = some (.int .u8))
    (hx : ev Γ x = .lit (.string ⟨l.toArray⟩)) (hl : l.length ≤ 9223372036854775807) (hK : K (.sl false false (l.map byteA)) σ) : SOp P N o Γ σ K := by
  intro ρ w a next Q hF hr hn'
  have hv := hF.ev x
  rw [hx] at hv
  simp only [VR] at hv
  have hrun0 := Go.Lib.run_convert_string_bytes (P := P) w t2 t e ⟨l.toArray⟩ hs ht he
  have hls : (⟨l.toArray⟩ : ByteArray).size = l.length := rfl
  have hrun : (execOp a.eval o).run P w = .ok (.value (.slice (some ⟨w.heap.size, 0, none⟩) l.length (grownCap w l.length 0 e))) (Go.Lib.bytesWorld w e ⟨l.toArray⟩) := by
    rw [hls] at hrun0
    simp [execOp, ho, hv, hrun0]
  obtain ⟨w', hw⟩ : ∃ w', Go.Lib.bytesWorld w e ⟨l.toArray⟩ = w' := ⟨_, rfl⟩
  have hsz : w'.heap.size = w.heap.size + 1 := by rw [← hw]; exact Go.Lib.bytesWorld_size w e _
  have hkk : ∀ b, b < w.heap.size → w'.heap[b]? = w.heap[b]? := fun b hb => by rw [← hw]; exact Go.Lib.bytesWorld_at_old w e _ b hb
  have hcell : ∀ j (hj : j < l.length), w'.cell? ⟨w.heap.size, j, none⟩ = some (.int .u8 (l[j].toNat : Int)) := by
    intro j hj
    rw [← hw]
    have := Go.Lib.bytesWorld_cell w e ⟨l.toArray⟩ j hj
    rw [this]
    simp [List.getD, hj]
  have hfl : w'.os = w.os ∧ w'.tape = w.tape ∧ w'.output = w.output := by rw [← hw]; unfold Go.Lib.bytesWorld World.freeze; rw [if_neg (by decide)]; exact ⟨rfl, rfl, rfl⟩
  have st : Step σ.length σ ρ w σ ρ w' := ⟨hfl.1, hfl.2.1, hfl.2.2, by omega, fun b hb _ => hkk b hb, fun b hb => .inl hb, Nat.le_refl _, Nat.le_refl _, fun o ho => .refl _ _ (by simp; omega), rfl⟩
  have hr' : Rel σ ρ w' := by
    refine ⟨fun o ob h => ?_, hr.inj, fun b hb => Nat.lt_of_lt_of_le (hr.fol b hb) (by omega), hr.dis⟩
    have hO := hr.obj _ _ h
    cases hl : ob.live with
    | false => cases ob <;> simp [Ob.live] at hl; trivial
    | true => exact hO.carry st (fun b hb' => hkk b (hr.blk_lt _ _ _ h hl hb'))
  unfold Oper.wp
  rw [hrun, Oper.upon_value, hw]
  refine hn' _ _ _ _ _ hK hr' ?_ st
  simp only [VR]
  refine ⟨some ⟨w.heap.size, 0, none⟩, grownCap w l.length 0 e, 1, by rw [List.length_map], by rw [List.length_map]; exact grownCap_ge w _ _ _, grownCap_le_maxLen w _ _ _ (by simp only [maxLen]; omega), by simp, by simp, by intro y hy; simp only [List.mem_map] at hy; obtain ⟨_, _, rfl⟩ := hy; rfl, fun _ => ⟨w.heap.size, 0, rfl, by omega, ?_, ?_⟩⟩
  · intro hB
    rcases (Bset.mset hB) with ⟨o2, ob2, q1, q2, q3⟩ | q
    · have := hr.blk_lt _ _ _ q1 q2 q3
      omega
    · have := hr.fol _ q
      omega
  · refine PVss_of _ _ _ ?_
    refine PVs_of _ (l.map fun x => Value.int .u8 x.toNat) _ _ ?_ ?_ (fun j u hj => ?_)
    · exact PVl_bytes l
    · intro v hv
      simp only [List.mem_map] at hv
      obtain ⟨y, _, rfl⟩ := hv
      rfl
    · rw [Nat.zero_add]
      rw [List.getElem?_map] at hj
      cases hg : l[j]? with
      | none => rw [hg] at hj; cases hj
      | some y =>
        obtain ⟨hjl, hy⟩ := List.getElem?_eq_some_iff.1 hg
        rw [hg] at hj
        simp only [Option.map_some, Option.some.injEq] at hj
        rw [hcell j hjl, hy, ← hj]
theorem n_bytes {P : Program} {N : Nat} {o : Oper} {Γ : Env} {σ : Sto} {K : AV → Sto → Prop} {t t2 e : Nat} {x : Operand} {l : List UInt8} (ho : o.op = .convert t2 t x) (hs : P.underlying t2 = some .string) (ht : P.underlying t = some (.slice e)) (he : P.underlying e = some (.int .u8))
    (hx : ev Γ x = .lit (.string ⟨l.toArray⟩)) (hl : l.length ≤ 9223372036854775807) (hK : K (.sl false false (l.map byteA)) σ) : SOp P N o Γ σ K := sop_bytes ho hs ht he hx hl hK
end Go.Lf

