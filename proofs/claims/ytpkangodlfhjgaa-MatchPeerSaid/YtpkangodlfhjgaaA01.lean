import Derived.Test.YtpkangodlfhjgaaTy
set_option linter.unusedVariables false
set_option linter.unusedSimpArgs false
namespace Go.Proofs.Ytpkangodlfhjgaa
open Go Go.Lf Go.Proofs
attribute [local irreducible] Lf.rg Lf.ro Lf.PWp Lf.SOp Lf.ACall Lf.Scoped Lf.dg
set_option maxRecDepth 20000
set_option maxHeartbeats 4000000
def topN (n : Int) : Int := if n = 1 then 255 else if n = 2 then 65535 else if n = 3 then 16777215 else if n = 4 then 4294967295 else 0
theorem top_no (n : Int) (h : ¬ (1 ≤ n ∧ n ≤ 4)) : AEq Try.prog 103 [i64 n] [] (.tu [i64 0, bl false]) [] := by
  refine acall_body Try.func103 rfl Try.ntmps103 (by simp) (fun hsc => ?_); simp only [Lf.enter, Nat.reduceAdd]; clear hsc
  have hU := True.intro
  repeat' (first | (guard_target =~ PWp _ _ _ _ _ _ _; first | (refine pwp_seq_k (fun K hK => ?_)) | (refine pwp_rg_then ?_) | (refine pwp_ret ?_) | ((refine pwp_cond_d (fun hcd => ?_) (fun hcd => ?_)) <;> (try simp only [hcP] at hcd) <;> (try (exfalso; first | omega | exact absurd hcd (by assumption) | exact absurd (by assumption) hcd)))) | (guard_target =~ rg _ _ _ _ _ _ _; first | (guard_target =~ rg _ _ _ (⟨_, .binOp _ _ _ _ _, _, _, _, some _⟩ :: _) _ _ _; first | (refine rg_gq rfl (h := ?_))) | (guard_target =~ rg _ _ _ (⟨_, .move _, _, _, _, some _⟩ :: _) _ _ _; first | (refine rg_gq rfl (h := ?_))) | (guard_target =~ rg _ _ _ [] _ _ _; first | (refine rg_end ?_)) | (refine rg_a rfl (h := ?_)) | (refine rg_v rfl (h := ?_))) | (guard_target =~ (_ ∨ _) ∧ _; first | ((refine end_d [] (by rw [Try.results103, Lf.res2]) (ale_2 ?_ ?_) ?_) <;> (try (first | exact ale_eq (by with_reducible rfl) | exact ale_full | exact ale_sl (fun _ => rfl) | exact ale_sl (by simp) | exact ale_junk | exact ale_eq rfl | exact stq (by with_reducible rfl) | exact stq (by rfl) | exact stq (by simp (disch := omega) only [go_sem, seval, ↓reduceIte, hU]))))) | (refine hK _ _ ?_; clear hK K))
theorem top_yes (n : Int) (h1 : 1 ≤ n) (h2 : n ≤ 4) : AEq Try.prog 103 [i64 n] [] (.tu [i64 (topN n), bl true]) [] := by
  have h : n = 1 ∨ n = 2 ∨ n = 3 ∨ n = 4 := by omega
  clear h1 h2
  rcases h with rfl | rfl | rfl | rfl
  all_goals
    refine acall_body Try.func103 rfl Try.ntmps103 (by simp) (fun hsc => ?_); simp only [Lf.enter, Nat.reduceAdd]; clear hsc
    have hU := True.intro
    repeat' (first | (guard_target =~ PWp _ _ _ _ _ _ _; first | (refine pwp_seq_k (fun K hK => ?_)) | (refine pwp_rg_then ?_) | (refine pwp_ret ?_) | (refine pwp_skip ?_) | ((refine pwp_cond_d (fun hcd => ?_) (fun hcd => ?_)) <;> (try simp only [hcP] at hcd) <;> (try (exfalso; first | omega | exact absurd hcd (by assumption) | exact absurd (by assumption) hcd)))) | (guard_target =~ rg _ _ _ _ _ _ _; first | (guard_target =~ rg _ _ _ (⟨_, .binOp _ _ _ _ _, _, _, _, some _⟩ :: _) _ _ _; first | (refine rg_gtv rfl (h := ?_))) | (guard_target =~ rg _ _ _ (⟨_, .move _, _, _, _, some _⟩ :: _) _ _ _; first | (refine rg_gtv rfl (h := ?_))) | (guard_target =~ rg _ _ _ [] _ _ _; first | (refine rg_end ?_)) | (refine rg_a rfl (h := ?_)) | (refine rg_v rfl (h := ?_))) | (guard_target =~ (_ ∨ _) ∧ _; first | ((refine end_d [] (by rw [Try.results103, Lf.res2]) (ale_2 ?_ ?_) ?_) <;> (try (first | exact ale_eq (by with_reducible rfl) | exact ale_full | exact ale_sl (fun _ => rfl) | exact ale_sl (by simp) | exact ale_junk | exact ale_eq rfl | exact stq (by with_reducible rfl) | exact stq (by rfl) | exact stq (by simp (disch := omega) only [go_sem, seval, ↓reduceIte, hU]))))) | (refine hK _ _ ?_; clear hK K))
def numB (l : List UInt8) : Int := l.foldl (fun n x => n * 256 + (x.toNat : Int)) 0
theorem numB_snoc (l : List UInt8) (x : UInt8) : numB (l ++ [x]) = numB l * 256 + (x.toNat : Int) := by simp [numB]
theorem numB_bd (l : List UInt8) : 0 ≤ numB l ∧ numB l < 256 ^ l.length := by
  have key : ∀ (l : List UInt8) (n : Int), 0 ≤ n → n * 256 ^ l.length ≤ l.foldl (fun n x => n * 256 + (x.toNat : Int)) n ∧ l.foldl (fun n x => n * 256 + (x.toNat : Int)) n < (n + 1) * 256 ^ l.length := by
    intro l
    induction l with
    | nil => intro n hn; simp; omega
    | cons x l ih =>
      intro n hn
      have hx : x.toNat < 256 := x.toNat_lt
      have := ih (n * 256 + (x.toNat : Int)) (by omega)
      simp only [List.foldl_cons, List.length_cons]
      have hp : (256 : Int) ^ (l.length + 1) = 256 * 256 ^ l.length := by rw [Int.pow_succ, Int.mul_comm]
      have hpos : (0 : Int) < 256 ^ l.length := Int.pow_pos (by decide)
      rw [hp]
      constructor
      · refine Int.le_trans ?_ this.1
        rw [← Int.mul_assoc]
        exact Int.mul_le_mul_of_nonneg_right (by omega) (by omega)
      · refine Int.lt_of_lt_of_le this.2 ?_
        rw [← Int.mul_assoc]
        exact Int.mul_le_mul_of_nonneg_right (by omega) (by omega)
  have := key l 0 (by omega)
  simpa [numB] using this
theorem numB_lt {l : List UInt8} (h : l.length ≤ 3) : 0 ≤ numB l ∧ numB l < 16777216 := by
  have := numB_bd l
  rcases (show l.length = 0 ∨ l.length = 1 ∨ l.length = 2 ∨ l.length = 3 by omega) with h | h | h | h <;> rw [h] at this <;> omega
theorem numB_lt4 {l : List UInt8} (h : l.length ≤ 4) : 0 ≤ numB l ∧ numB l < 4294967296 := by
  have := numB_bd l
  rcases (show l.length = 0 ∨ l.length = 1 ∨ l.length = 2 ∨ l.length = 3 ∨ l.length = 4 by omega) with h | h | h | h | h <;> rw [h] at this <;> omega
theorem take_snoc {α : Type} {l : List α} {i : Nat} {x : α} (h : l[i]? = some x) : l.take (i + 1) = l.take i ++ [x] := by
  rw [List.take_add_one, h]; rfl
theorem or_byte {a : Int} {x : UInt8} (h0 : 0 ≤ a ∧ a < 16777216) : ior .i64 (a * 256) (x.toNat : Int) = a * 256 + (x.toNat : Int) := by
  show IntKind.i64.wrap ((BitVec.ofInt 64 (a * 256) ||| BitVec.ofInt 64 (x.toNat : Int)).toNat : Int) = _
  obtain ⟨n, rfl⟩ := Int.eq_ofNat_of_zero_le h0.1
  have hx : x.toNat < 256 := x.toNat_lt
  have hn : n < 16777216 := by omega
  have e1 : BitVec.ofInt 64 ((n : Int) * 256) = BitVec.ofNat 64 (n * 256) := by
    rw [show ((n : Int) * 256) = ((n * 256 : Nat) : Int) from by simp]; rfl
  have e2 : BitVec.ofInt 64 (x.toNat : Int) = BitVec.ofNat 64 x.toNat := rfl
  rw [e1, e2, BitVec.toNat_or, BitVec.toNat_ofNat, BitVec.toNat_ofNat, Nat.mod_eq_of_lt (by omega), Nat.mod_eq_of_lt (by omega)]
  have e3 : n * 256 ||| x.toNat = n * 256 + x.toNat := by
    have := Nat.two_pow_add_eq_or_of_lt (i := 8) (b := x.toNat) (by omega) n
    rw [Nat.mul_comm n 256]
    exact this.symm
  rw [e3]
  have := w64 (n := ((n * 256 + x.toNat : Nat) : Int)) (by omega)
  rw [this]
  simp
theorem get_arg (b : AV) (n : Int) (h : ¬ (1 ≤ n ∧ n ≤ 4)) : AEq Try.prog 101 [b, i64 n] [] (.tu [i64 0, i64 1]) [] := by
  refine acall_body Try.func101 rfl Try.ntmps101 (by simp) (fun hsc => ?_); simp only [Lf.enter, Nat.reduceAdd]; clear hsc
  have hU := True.intro
  repeat' (first | (guard_target =~ PWp _ _ _ _ _ _ _; first | (refine pwp_seq_k (fun K hK => ?_)) | (refine pwp_rg_then ?_) | (refine pwp_ret ?_) | ((refine pwp_cond_d (fun hcd => ?_) (fun hcd => ?_)) <;> (try simp only [hcP] at hcd) <;> (try (exfalso; first | omega | exact absurd hcd (by assumption) | exact absurd (by assumption) hcd)))) | (guard_target =~ rg _ _ _ _ _ _ _; first | (guard_target =~ rg _ _ _ [] _ _ _; first | (refine rg_end ?_)) | (refine rg_a rfl (h := ?_)) | (refine rg_x rfl (hy := rfl) (h := ?_)) | (refine rg_v rfl (h := ?_)) | (refine rg_s rfl ?_)) | (guard_target =~ SOp _ _ _ _ _ _; first | (guard_target =~ SOp _ _ ⟨_, .call ⟨.value (.func 103), _, _⟩, _, _, _, none⟩ _ _ _; first | (refine n_call (f := 103) rfl Try.call103 (h := AEq.pure' (hc := top_no _ (by assumption)) (hq := ?_))))) | (guard_target =~ (_ ∨ _) ∧ _; first | ((refine end_d [] (by rw [Try.results101, Lf.res2]) (ale_2 ?_ ?_) ?_) <;> (try (first | exact ale_eq (by with_reducible rfl) | exact ale_full | exact ale_sl (fun _ => rfl) | exact ale_sl (by simp) | exact ale_junk | exact ale_eq rfl | exact stq (by with_reducible rfl) | exact stq (by rfl) | exact stq (by simp (disch := omega) only [go_sem, seval, ↓reduceIte, hU]))))) | (refine hK _ _ ?_; clear hK K))
theorem get_short (f q : Bool) (b : List UInt8) (n : Int) (h1 : 1 ≤ n) (h2 : n ≤ 4) (hn : b.length < n) : AEq Try.prog 101 [.sl f q (b.map byteA), i64 n] [] (.tu [i64 0, i64 3]) [] := by
  refine acall_body Try.func101 rfl Try.ntmps101 (by simp) (fun hsc => ?_); simp only [Lf.enter, Nat.reduceAdd]; clear hsc
  have hU := True.intro
  repeat' (first | (guard_target =~ PWp _ _ _ _ _ _ _; first | (refine pwp_seq_k (fun K hK => ?_)) | (refine pwp_rg_then ?_) | (refine pwp_ret ?_) | (refine pwp_skip ?_) | ((refine pwp_cond_d (fun hcd => ?_) (fun hcd => ?_)) <;> (try simp only [hcP] at hcd) <;> (try (exfalso; first | omega | exact absurd hcd (by assumption) | exact absurd (by assumption) hcd)))) | (guard_target =~ rg _ _ _ _ _ _ _; first | (guard_target =~ rg _ _ _ [] _ _ _; first | (refine rg_end ?_)) | (refine rg_a rfl (h := ?_)) | (refine rg_x rfl (hy := rfl) (h := ?_)) | (refine rg_v rfl (h := ?_)) | (refine rg_s rfl ?_)) | (guard_target =~ SOp _ _ _ _ _ _; first | (guard_target =~ SOp _ _ ⟨_, .call ⟨.value (.func 103), _, _⟩, _, _, _, none⟩ _ _ _; first | (refine n_call (f := 103) rfl Try.call103 (h := AEq.pure' (hc := top_yes _ (by assumption) (by assumption)) (hq := ?_))))) | (guard_target =~ (_ ∨ _) ∧ _; first | ((refine end_d [] (by rw [Try.results101, Lf.res2]) (ale_2 ?_ ?_) ?_) <;> (try (first | exact ale_eq (by with_reducible rfl) | exact ale_full | exact ale_sl (fun _ => rfl) | exact ale_sl (by simp) | exact ale_junk | exact ale_eq rfl | exact stq (by with_reducible rfl) | exact stq (by rfl) | exact stq (by simp (disch := omega) only [go_sem, seval, ↓reduceIte, hU]))))) | (refine hK _ _ ?_; clear hK K))
theorem get_yes (f q : Bool) (b : List UInt8) (n : Int) (h1 : 1 ≤ n) (h2 : n ≤ 4) (hn : n ≤ b.length) (hb : b.length ≤ 4000000000000000000) : AEq Try.prog 101 [.sl f q (b.map byteA), i64 n] [] (.tu [i64 (numB (b.take n.toNat)), i64 0]) [] := by
  refine acall_body Try.func101 rfl Try.ntmps101 (by simp) (fun hsc => ?_); simp only [Lf.enter, Nat.reduceAdd]; clear hsc
  have hU := @or_byte
  repeat' (first | (guard_target =~ PWp _ _ _ _ _ _ _; first | (refine pwp_seq_k (fun K hK => ?_)) | (refine pwp_block ?_) | (refine pwp_rg_then ?_) | (refine pwp_skip ?_) | ((refine pwp_cond_d (fun hcd => ?_) (fun hcd => ?_)) <;> (try simp only [hcP] at hcd) <;> (try (exfalso; first | omega | exact absurd hcd (by assumption) | exact absurd (by assumption) hcd)))) | (guard_target =~ rg _ _ _ _ _ _ _; first | (guard_target =~ rg _ _ _ [] _ _ _; first | (refine rg_end ?_)) | (refine rg_a rfl (h := ?_)) | (refine rg_x rfl (hy := rfl) (h := ?_)) | (refine rg_v rfl (h := ?_)) | (refine rg_s rfl ?_)) | (guard_target =~ SOp _ _ _ _ _ _; first | (guard_target =~ SOp _ _ ⟨_, .slice _ _ _ _ _, _, _, _, none⟩ _ _ _; first | (refine n_slice rfl (hg := (fun _ => (by simp only [go_sem, seval, ↓reduceIte, hU] <;> rfl))) (hK := ?_))) | (guard_target =~ SOp _ _ ⟨_, .call ⟨.value (.func 103), _, _⟩, _, _, _, none⟩ _ _ _; first | (refine n_call (f := 103) rfl Try.call103 (h := AEq.pure' (hc := top_yes _ (by assumption) (by assumption)) (hq := ?_))))) | (refine hK _ _ ?_; clear hK K))
  obtain ⟨c, hc⟩ : ∃ c, c = b.take n.toNat := ⟨_, rfl⟩
  have hcl : (c.length : Int) = n := by rw [hc, List.length_take]; omega
  rw [← hc]
  refine pwp_loop_e [8, 10, 26, 27, 28, 29, 30, 31, 32, 33, 34, 35] (fun i : Nat => [(8, i64 (numB (c.take i))), (26, i64 i)]) (fun _ => []) (fun i => i ≤ c.length) (fun i => c.length - i) 0 (Nat.zero_le _) ?_ rfl ?_
  · (refine ⟨⟨_, (by (try simp (disch := omega) only [go_sem, seval, ↓reduceIte, hU]) <;> rfl), ?_⟩, ⟨_, (by (try simp (disch := omega) only [go_sem, seval, ↓reduceIte, hU]) <;> rfl), ?_⟩, trivial⟩ <;> (try (first | exact ale_eq (by with_reducible rfl) | exact ale_full | exact ale_sl (fun _ => rfl) | exact ale_sl (by simp) | exact ale_junk | exact ale_eq rfl)))
  · intro i hi
    simp only [mask, List.map_cons, List.map_nil, List.cons_append, List.nil_append]
    have hb := numB_lt (l := c.take (min i 3)) (by simp; omega)
    by_cases hlt : i < c.length
    · obtain ⟨x, hx⟩ : ∃ x, c[i]? = some x := ⟨c[i], List.getElem?_eq_getElem hlt⟩
      have hm : min i 3 = i := by omega
      rw [hm] at hb
      have hxb : x.toNat < 256 := x.toNat_lt
      have hs := numB_snoc (c.take i) x
      rw [← take_snoc hx] at hs
      repeat' (first | (guard_target =~ PWp _ _ _ _ _ _ _; first | (refine pwp_seq_k (fun K hK => ?_)) | (refine pwp_block ?_) | (refine pwp_rg_then ?_) | (refine pwp_rg ?_) | (refine pwp_skip ?_) | ((refine pwp_cond_d (fun hcd => ?_) (fun hcd => ?_)) <;> (try simp only [hcP] at hcd) <;> (try (exfalso; first | omega | exact absurd hcd (by assumption) | exact absurd (by assumption) hcd)))) | (guard_target =~ rg _ _ _ _ _ _ _; first | (guard_target =~ rg _ _ _ [] _ _ _; first | (refine rg_end ?_)) | (refine rg_a rfl (h := ?_)) | (refine rg_v rfl (h := ?_)) | (refine rg_s rfl ?_)) | (guard_target =~ SOp _ _ _ _ _ _; first | (guard_target =~ SOp _ _ ⟨_, .indexAddr _ _ _, _, _, _, none⟩ _ _ _; first | (refine n_index rfl (hK := ?_)))) | (refine hK _ _ ?_; clear hK K))
      refine ⟨i + 1, by omega, by omega, ?_, (by repeat' (first | exact agr_refl | refine agr_cons (by rfl) ?_)), rfl⟩
      (refine ⟨⟨_, (by (try simp (disch := omega) only [go_sem, seval, ↓reduceIte, hU]) <;> rfl), ?_⟩, ⟨_, (by (try simp (disch := omega) only [go_sem, seval, ↓reduceIte, hU]) <;> rfl), ?_⟩, trivial⟩ <;> (try (first | exact ale_eq (by with_reducible rfl) | exact ale_full | exact ale_sl (fun _ => rfl) | exact ale_sl (by simp) | exact ale_junk | exact ale_eq rfl)))
      exact ale_eq (by rw [hs])
    · repeat' (first | (guard_target =~ PWp _ _ _ _ _ _ _; first | (refine pwp_seq_k (fun K hK => ?_)) | (refine pwp_rg_then ?_) | (refine pwp_ret ?_) | (refine pwp_exit ?_) | ((refine pwp_cond_d (fun hcd => ?_) (fun hcd => ?_)) <;> (try simp only [hcP] at hcd) <;> (try (exfalso; first | omega | exact absurd hcd (by assumption) | exact absurd (by assumption) hcd)))) | (guard_target =~ rg _ _ _ _ _ _ _; first | (guard_target =~ rg _ _ _ [] _ _ _; first | (refine rg_end ?_)) | (refine rg_a rfl (h := ?_)) | (refine rg_v rfl (h := ?_))) | (guard_target =~ (_ ∨ _) ∧ _; first | ((refine end_d [] (by rw [Try.results101, Lf.res2]) (ale_2 ?_ ?_) ?_) <;> (try (first | exact ale_eq (by with_reducible rfl) | exact ale_full | exact ale_sl (fun _ => rfl) | exact ale_sl (by simp) | exact ale_junk | exact ale_eq rfl | exact stq (by with_reducible rfl) | exact stq (by rfl) | exact stq (by simp (disch := omega) only [go_sem, seval, ↓reduceIte, hU]))))) | (refine hK _ _ ?_; clear hK K) | (apply_assumption (exfalso := false) (symm := false)))
      rw [List.take_of_length_le (by omega), hc]
      exact ale_eq rfl
def okS (n : Int) : Bool := decide (1 ≤ n) && decide (n ≤ 4)
def getN (b : List UInt8) (n : Int) : Int := if okS n = true ∧ n ≤ b.length then numB (b.take n.toNat) else 0
def getE (b : List UInt8) (n : Int) : Int := if okS n = false then 1 else if (b.length : Int) < n then 3 else 0
theorem okS_yes {n : Int} (h : 1 ≤ n ∧ n ≤ 4) : okS n = true := by simp [okS, h.1, h.2]
theorem okS_no {n : Int} (h : ¬ (1 ≤ n ∧ n ≤ 4)) : okS n = false := by
  simp only [okS, Bool.and_eq_false_iff, decide_eq_false_iff_not]; omega
theorem get_is (f q : Bool) (b : List UInt8) (n : Int) (hb : b.length ≤ 4000000000000000000) : AEq Try.prog 101 [.sl f q (b.map byteA), i64 n] [] (.tu [i64 (getN b n), i64 (getE b n)]) [] := by
  by_cases h : 1 ≤ n ∧ n ≤ 4
  · by_cases h2 : n ≤ b.length
    · have := get_yes f q b n h.1 h.2 h2 hb
      rw [show getN b n = numB (b.take n.toNat) from if_pos ⟨okS_yes h, h2⟩, show getE b n = 0 by simp only [getE, okS_yes h]; rw [if_neg (by simp), if_neg (by omega)]]
      exact this
    · have := get_short f q b n h.1 h.2 (by omega)
      rw [show getN b n = 0 from if_neg (fun x => h2 x.2), show getE b n = 3 by simp only [getE, okS_yes h]; rw [if_neg (by simp), if_pos (by omega)]]
      exact this
  · have := get_arg (.sl f q (b.map byteA)) n h
    rw [show getN b n = 0 from if_neg (fun x => by rw [okS_no h] at x; cases x.1), show getE b n = 1 by simp [getE, okS_no h]]
    exact this
end Go.Proofs.Ytpkangodlfhjgaa
