import Derived.Test.YtohbfcmmpaikhaaDoorK03
import Derived.Test.YtohbfcmmpaikhaaDoorLc
set_option linter.unusedVariables false
set_option linter.unusedSimpArgs false
namespace Go.Proofs.YtohbfcmmpaikhaaDoor
open Go Go.Lf Go.Proofs
attribute [local irreducible] Lf.rg Lf.ro Lf.PWp Lf.SOp Lf.ACall Lf.Scoped Lf.dg Lf.dw
set_option maxRecDepth 20000
set_option maxHeartbeats 4000000
theorem rw_bytes (b : List UInt8) (n : Int) (hb : b.length ≤ 1000000000) : AEq Tryd.prog 105 [.ptr 0 0] [.box [.row 1 b.length, i64 n], .row b.length 5 1 (b.map byteA)] (.sl false false (b.map byteA)) [.box [.row 1 b.length, i64 n], .row b.length 5 1 (b.map byteA)] := by
  refine acall_body Tryd.func105 rfl Tryd.ntmps105 (by simp) (fun hsc => ?_); simp only [Lf.enter, Nat.reduceAdd]; clear hsc
  have hU := True.intro
  repeat' (first | (guard_target =~ PWp _ _ _ _ _ _ _; first | (refine pwp_seq_k (fun K hK => ?_)) | (refine pwp_rg_then ?_) | (refine pwp_ret ?_) | (refine pwp_skip ?_) | ((refine pwp_cond_d (fun hcd => ?_) (fun hcd => ?_)) <;> (try simp only [hcP] at hcd) <;> (try (exfalso; first | omega | exact absurd hcd (by assumption) | exact absurd (by assumption) hcd)))) | (guard_target =~ rg _ _ _ _ _ _ _; first | (guard_target =~ rg _ _ _ [] _ _ _; first | (refine rg_end ?_)) | (refine rg_a rfl (h := ?_)) | (refine rg_v rfl (h := ?_)) | (refine rg_s rfl ?_)) | (guard_target =~ SOp _ _ _ _ _ _; first | (guard_target =~ SOp _ _ ⟨_, .call ⟨.value (.func 122), _, _⟩, _, _, _, none⟩ _ _ _; first | (refine n_call (f := 122) rfl Tryd.call122 (h := AEq.pure' (by first | ((repeat' (first | exact trivial | (first | exact arg_lit | exact arg_sl id id | exact arg_nil | exact arg_sl (by simp) id | exact arg_sl (by simp) (fun _ => rfl) | exact arg_row_m (by rfl) (by rfl) (fun _ => rfl) | exact arg_vw_m (by rfl) (by rfl) (fun _ => rfl) | exact arg_rn (by rfl) (by rfl) | exact arg_junk | exact arg_row_mm (by rfl) (by rfl) (fun _ => rfl)) | refine ⟨?_, ?_⟩)); done) | fail) (clone_b _ _ _ (by omega)) (hq := ?_))))) | (guard_target =~ (_ ∨ _) ∧ _; first | ((refine end_d [0, 1] (by rw [Tryd.results105, Lf.res1]) (ale_1 ?_) ?_) <;> (try (first | exact ale_eq (by with_reducible rfl) | exact ale_full | exact ale_sl (fun _ => rfl) | exact ale_sl (by simp) | exact ale_junk | exact ale_eq rfl | exact stq (by with_reducible rfl) | exact stq (by rfl) | exact stq (by simp (disch := omega) only [go_sem, seval, ↓reduceIte, hU]))))) | (refine hK _ _ ?_; clear hK K))
theorem or_bit (v x : Int) (h0 : 0 ≤ v) (h1 : v ≤ 4294967296) (hx : x = 0 ∨ x = 1) : ior .i64 (v * 2) x = 2 * v + x := by
  obtain ⟨k, rfl⟩ := Int.eq_ofNat_of_zero_le h0
  have key : ((k : Int) * (2 : Int)) = ((k <<< 1 : Nat) : Int) := by rw [Nat.shiftLeft_eq]; omega
  rw [show (k : Int) * (2 : Int) = ((k <<< 1 : Nat) : Int) from key]
  have hk : k <<< 1 < 2 ^ 64 := by rw [Nat.shiftLeft_eq]; omega
  show IntKind.i64.wrap ((BitVec.ofInt 64 ((k <<< 1 : Nat) : Int) ||| BitVec.ofInt 64 x).toNat : Int) = _
  have e : BitVec.ofInt 64 ((k <<< 1 : Nat) : Int) = BitVec.ofNat 64 (k <<< 1) := rfl
  rcases hx with rfl | rfl
  · rw [show BitVec.ofInt 64 0 = BitVec.ofNat 64 0 from rfl, e, BitVec.toNat_or, BitVec.toNat_ofNat, BitVec.toNat_ofNat, Nat.mod_eq_of_lt hk]
    simp only [Nat.zero_mod, Nat.or_zero]
    rw [w64 (by rw [Nat.shiftLeft_eq]; omega), Nat.shiftLeft_eq]; omega
  · rw [show BitVec.ofInt 64 1 = BitVec.ofNat 64 1 from rfl, e, BitVec.toNat_or, BitVec.toNat_ofNat, BitVec.toNat_ofNat, Nat.mod_eq_of_lt hk]
    have h2 : k <<< 1 ||| 1 % 2 ^ 64 = k <<< 1 + 1 := Nat.shiftLeft_add_eq_or_of_lt (b := 1) (i := 1) (by decide) k ▸ rfl
    rw [h2, w64 (by rw [Nat.shiftLeft_eq]; omega), Nat.shiftLeft_eq]; omega
theorem bitsL_app (a b : List UInt8) : bitsL (a ++ b) = bitsL a ++ bitsL b := by simp [bitsL]
theorem bits8_len (x : UInt8) : (bits8 x).length = 8 := rfl
theorem bitsL_set (b : List UInt8) (c j : Nat) (y z : UInt8) (hj : j < 8) (hz : bits8 z = (bits8 y).set j 0) (hy : b[c]? = some y) : bitsL (b.set c z) = (bitsL b).set (8 * c + j) 0 := by
  induction b generalizing c with
  | nil => simp at hy
  | cons x b ih =>
    cases c with
    | zero =>
      simp at hy; subst hy
      show bits8 z ++ bitsL b = (bits8 x ++ bitsL b).set (8 * 0 + j) 0
      rw [hz, List.set_append_left _ _ (by rw [bits8_len]; omega)]
      simp
    | succ c =>
      simp only [List.getElem?_cons_succ] at hy
      show bits8 x ++ bitsL (b.set c z) = (bits8 x ++ bitsL b).set (8 * (c + 1) + j) 0
      rw [ih c hy, List.set_append_right _ _ (by rw [bits8_len]; omega), bits8_len]
      congr 2; omega
theorem bits_row (L : List Int) (h : ∀ x ∈ L, x = 0 ∨ x = 1) : bitsL (rowB L) = L ++ List.replicate (8 * (rowB L).length - L.length) 1 := by
  have key : ∀ n (L : List Int), (∀ x ∈ L, x = 0 ∨ x = 1) → L.length = n → bitsL (rowB L) = L ++ List.replicate (8 * (rowB L).length - L.length) 1 := by
    intro n
    induction n with
    | zero => intro L _ h; rw [List.eq_nil_of_length_eq_zero h]; rfl
    | succ n ih =>
      intro L hb h
      obtain ⟨x, hx⟩ : ∃ x, L[n]? = some x := ⟨L[n], List.getElem?_eq_getElem (by omega)⟩
      have e : L = L.take n ++ [x] := by rw [← take_snoc hx, List.take_of_length_le (by omega)]
      have hl : (L.take n).length = n := by rw [List.length_take]; omega
      have hx01 := hb x (List.mem_of_getElem? hx)
      have ihn := ih (L.take n) (fun y hy => hb y (List.mem_of_mem_take hy)) hl
      generalize L.take n = M at *
      subst e
      have hlen := rowB_len M
      have hM : bitsL (if M.length % 8 = 0 then rowB M ++ [255] else rowB M) = M ++ 1 :: List.replicate (8 * (M.length / 8 + 1) - M.length - 1) 1 := by
        by_cases h8 : M.length % 8 = 0
        · rw [if_pos h8, bitsL_app, ihn, show 8 * (rowB M).length - M.length = 0 from by omega, show 8 * (M.length / 8 + 1) - M.length - 1 = 7 from by omega]
          simp; rfl
        · rw [if_neg h8, ihn, ← List.replicate_succ]
          congr 2; omega
      have hr : (if M.length % 8 = 0 then rowB M ++ [255] else rowB M).length = M.length / 8 + 1 := by
        split
        · rw [List.length_append]; simp; omega
        · omega
      have h8l : (rowB (M ++ [x])).length = M.length / 8 + 1 := by rw [rowB_len, List.length_append]; simp; omega
      rw [h8l, rowB_snoc, pushB]
      generalize hB : (if M.length % 8 = 0 then rowB M ++ [255] else rowB M) = B at *
      have hfin : 8 * (M.length / 8 + 1) - (M ++ [x]).length = 8 * (M.length / 8 + 1) - M.length - 1 := by rw [List.length_append]; simp; omega
      rw [hfin]
      rcases hx01 with rfl | rfl
      · rw [if_pos rfl]
        obtain ⟨y, hy⟩ : ∃ y, B[M.length / 8]? = some y := ⟨B[M.length / 8], List.getElem?_eq_getElem (by omega)⟩
        rw [bitsL_set B (M.length / 8) (M.length % 8) y _ (by omega) (by rw [List.getD_eq_getElem?_getD, hy]; exact bits8_clr y _ (by omega)) hy, hM, show 8 * (M.length / 8) + M.length % 8 = M.length from by omega, List.set_append_right _ _ (Nat.le_refl _)]
        simp
      · rw [if_neg (by decide), hM]; simp
  exact key _ L h rfl
theorem num_bits8' : ∀ y : Fin 256, numBits (bits8 (UInt8.ofNat y.val)) = y.val := by decide +kernel
theorem num_bits8 (y : UInt8) : numBits (bits8 y) = y.toNat := by
  have := num_bits8' ⟨y.toNat, y.toNat_lt⟩
  simpa using this
def chunk (L : List Int) (c : Nat) : List Int := (List.range 8).map fun j => L.getD (8 * c + j) 1
def packL (L : List Int) : List UInt8 := (List.range ((L.length + 7) / 8)).map fun c => UInt8.ofNat (numBits (chunk L c)).toNat
theorem bitsL_cut (b : List UInt8) (c : Nat) (y : UInt8) (h : b[c]? = some y) : ((bitsL b).drop (8 * c)).take 8 = bits8 y := by
  induction b generalizing c with
  | nil => simp at h
  | cons x b ih =>
    cases c with
    | zero =>
      simp at h; subst h
      show ((bits8 x ++ bitsL b).drop 0).take 8 = _
      rw [List.drop_zero, List.take_left' (bits8_len x)]
    | succ c =>
      simp only [List.getElem?_cons_succ] at h
      show ((bits8 x ++ bitsL b).drop (8 * (c + 1))).take 8 = _
      rw [List.drop_append, List.drop_eq_nil_of_le (by rw [bits8_len]; omega), List.nil_append, bits8_len, show 8 * (c + 1) - 8 = 8 * c from by omega, ih c h]
theorem pack_row (L : List Int) (h : ∀ x ∈ L, x = 0 ∨ x = 1) : packL L = rowB L := by
  have hb := bits_row L h
  have hl := rowB_len L
  apply List.ext_getElem?
  intro c
  by_cases hc : c < (L.length + 7) / 8
  · obtain ⟨y, hy⟩ : ∃ y, (rowB L)[c]? = some y := ⟨(rowB L)[c], List.getElem?_eq_getElem (by omega)⟩
    have h1 := bitsL_cut _ c y hy
    have h2 : chunk L c = bits8 y := by
      rw [← h1, hb]
      apply List.ext_getElem?
      intro j
      simp only [chunk, List.getElem?_map]
      by_cases hj : j < 8
      · rw [List.getElem?_range hj, List.getElem?_take, if_pos hj, List.getElem?_drop]; show some (L.getD (8 * c + j) 1) = _; rw [List.getD_eq_getElem?_getD]
        by_cases hL : 8 * c + j < L.length
        · rw [List.getElem?_append_left hL, List.getElem?_eq_getElem hL]; rfl
        · rw [List.getElem?_append_right (by omega), List.getElem?_eq_none (Nat.not_lt.1 hL), List.getElem?_replicate, if_pos (by omega)]; rfl
      · rw [List.getElem?_eq_none (by simp; omega), List.getElem?_take, if_neg hj]; rfl
    rw [hy, packL, List.getElem?_map, List.getElem?_range hc, Option.map_some, h2, num_bits8]
    simp
  · rw [List.getElem?_eq_none (by rw [packL, List.length_map, List.length_range]; omega), List.getElem?_eq_none (by omega)]
theorem msb01 (v : Int) (n : Nat) : ∀ x ∈ msb v n, x = 0 ∨ x = 1 := by
  induction n with
  | zero => intro x h; simp [msb] at h
  | succ n ih => intro x h; simp only [msb, List.mem_cons] at h; rcases h with rfl | h; · omega
                 exact ih x h
theorem rpow (n : Int) (h0 : 0 ≤ n) (h1 : n ≤ 32) : AEq Tryd.prog 128 [i64 n] [] (i64 (2 ^ n.toNat)) [] := by
  refine acall_body Tryd.func128 rfl Tryd.ntmps128 (by simp) (fun hsc => ?_); simp only [Lf.enter, Nat.reduceAdd]; clear hsc
  have hU := True.intro
  repeat' (first | (guard_target =~ PWp _ _ _ _ _ _ _; first | (refine pwp_seq_k (fun K hK => ?_)) | (refine pwp_block ?_) | (refine pwp_rg_then ?_)) | (guard_target =~ rg _ _ _ _ _ _ _; first | (guard_target =~ rg _ _ _ [] _ _ _; first | (refine rg_end ?_)) | (refine rg_a rfl (h := ?_))) | (refine hK _ _ ?_; clear hK K))
  refine pwp_loop_e [3, 4, 5, 6, 7, 8, 9, 10, 11] (fun i : Nat => [(3, i64 (2 ^ i)), (4, i64 i)]) (fun i => []) (fun i => i ≤ n.toNat) (fun i => n.toNat - i) 0 (Nat.zero_le _) ?_ rfl ?_
  · (refine ⟨⟨_, (by (try simp (disch := omega) only [go_sem, seval, ↓reduceIte, hU]) <;> rfl), ?_⟩, ⟨_, (by (try simp (disch := omega) only [go_sem, seval, ↓reduceIte, hU]) <;> rfl), ?_⟩, trivial⟩ <;> (try (first | exact ale_eq (by with_reducible rfl) | exact ale_full | exact ale_sl (fun _ => rfl) | exact ale_sl (by simp) | exact ale_junk | exact ale_eq rfl)))
  · rintro i hi
    simp only [mask, List.map_cons, List.map_nil, List.cons_append, List.nil_append]
    have hp : (2 : Int) ^ i ≤ 4294967296 ∧ 1 ≤ (2 : Int) ^ i := by
      have h1 : 2 ^ i ≤ 2 ^ 32 := Nat.pow_le_pow_right (by decide) (by omega)
      have h2 : 0 < 2 ^ i := Nat.pow_pos (by decide)
      have e : (2 : Int) ^ i = ((2 ^ i : Nat) : Int) := by simp
      rw [e]; omega
    by_cases hlt : i < n.toNat
    · repeat' (first | (guard_target =~ PWp _ _ _ _ _ _ _; first | (refine pwp_seq_k (fun K hK => ?_)) | (refine pwp_block ?_) | (refine pwp_rg_then ?_) | (refine pwp_rg ?_) | (refine pwp_skip ?_) | ((refine pwp_cond_d (fun hcd => ?_) (fun hcd => ?_)) <;> (try simp only [hcP] at hcd) <;> (try (exfalso; first | omega | exact absurd hcd (by assumption) | exact absurd (by assumption) hcd)))) | (guard_target =~ rg _ _ _ _ _ _ _; first | (guard_target =~ rg _ _ _ [] _ _ _; first | (refine rg_end ?_)) | (refine rg_a rfl (h := ?_)) | (refine rg_v rfl (h := ?_))) | (refine hK _ _ ?_; clear hK K))
      refine ⟨i + 1, by omega, by omega, ?_, (by repeat' (first | exact agr_refl | refine agr_cons (by rfl) ?_)), (by first | rfl | (simp (disch := omega) only [go_sem, seval, ↓reduceIte, hU]; done) | (simp (disch := omega) only [go_sem, seval, ↓reduceIte, hU]; rfl))⟩
      (refine ⟨⟨_, (by (try simp (disch := omega) only [go_sem, seval, ↓reduceIte, hU]) <;> rfl), ?_⟩, ⟨_, (by (try simp (disch := omega) only [go_sem, seval, ↓reduceIte, hU]) <;> rfl), ?_⟩, trivial⟩ <;> (try (first | exact ale_eq (by with_reducible rfl) | exact ale_full | exact ale_sl (fun _ => rfl) | exact ale_sl (by simp) | exact ale_junk | exact ale_eq rfl)))
      all_goals exact ale_i (by rw [Int.pow_succ]; omega)
    · repeat' (first | (guard_target =~ PWp _ _ _ _ _ _ _; first | (refine pwp_seq_k (fun K hK => ?_)) | (refine pwp_rg_then ?_) | (refine pwp_ret ?_) | (refine pwp_exit ?_) | ((refine pwp_cond_d (fun hcd => ?_) (fun hcd => ?_)) <;> (try simp only [hcP] at hcd) <;> (try (exfalso; first | omega | exact absurd hcd (by assumption) | exact absurd (by assumption) hcd)))) | (guard_target =~ rg _ _ _ _ _ _ _; first | (guard_target =~ rg _ _ _ [] _ _ _; first | (refine rg_end ?_)) | (refine rg_a rfl (h := ?_)) | (refine rg_v rfl (h := ?_))) | (guard_target =~ (_ ∨ _) ∧ _; first | ((refine end_d [] (by rw [Tryd.results128, Lf.res1]) (ale_1 ?_) ?_) <;> (try (first | exact ale_eq (by with_reducible rfl) | exact ale_full | exact ale_sl (fun _ => rfl) | exact ale_sl (by simp) | exact ale_junk | exact ale_eq rfl | exact stq (by with_reducible rfl) | exact stq (by rfl) | exact stq (by simp (disch := omega) only [go_sem, seval, ↓reduceIte, hU]))))) | (refine hK _ _ ?_; clear hK K) | (apply_assumption (exfalso := false) (symm := false)))
      · exact ale_i (by rw [show n.toNat = i from by omega])
end Go.Proofs.YtohbfcmmpaikhaaDoor
