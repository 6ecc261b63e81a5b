import Derived.Test.YtohbfcmmpaikhaaDoorZ01
import Derived.Test.YtohbfcmmpaikhaaDoorLc
set_option linter.unusedVariables false
set_option linter.unusedSimpArgs false
namespace Go.Proofs.YtohbfcmmpaikhaaDoor
open Go Go.Lf Go.Proofs
attribute [local irreducible] Lf.rg Lf.ro Lf.PWp Lf.SOp Lf.ACall Lf.Scoped Lf.dg Lf.dw
set_option maxRecDepth 20000
set_option maxHeartbeats 4000000
theorem iandn_bd (a b : Int) : 0 ≤ iandn .u8 a b ∧ iandn .u8 a b ≤ 255 := by
 unfold iandn
 have h := (BitVec.ofInt (IntKind.bits .u8) a &&& ~~~ BitVec.ofInt (IntKind.bits .u8) b).isLt
 have h2 : (BitVec.ofInt (IntKind.bits .u8) a &&& ~~~ BitVec.ofInt (IntKind.bits .u8) b).toNat < 256 := h
 rw [wu8 (by omega)]
 omega
def clrB (y : UInt8) (j : Nat) : UInt8 := UInt8.ofNat (iandn .u8 (y.toNat : Int) (128 / 2 ^ j)).toNat
theorem clrB_val (y : UInt8) (j : Nat) : ((clrB y j).toNat : Int) = iandn .u8 (y.toNat : Int) (128 / 2 ^ j) := by
 have := iandn_bd (y.toNat : Int) (128 / 2 ^ j)
 unfold clrB
 rw [UInt8.toNat_ofNat_of_lt' (by simp; omega)]
 omega
theorem bits8_clr' : ∀ (y : Fin 256) (j : Fin 8), bits8 (clrB (UInt8.ofNat y.val) j.val) = (bits8 (UInt8.ofNat y.val)).set j.val 0 := by decide +kernel
theorem bits8_clr (y : UInt8) (j : Nat) (hj : j < 8) : bits8 (clrB y j) = (bits8 y).set j 0 := by
 have := bits8_clr' ⟨y.toNat, y.toNat_lt⟩ ⟨j, hj⟩
 simpa using this
def pushB (bs : List UInt8) (k : Nat) (x : Int) : List UInt8 :=
 if x = 0 then (if k % 8 = 0 then bs ++ [255] else bs).set (k / 8) (clrB ((if k % 8 = 0 then bs ++ [255] else bs).getD (k / 8) 0) (k % 8)) else (if k % 8 = 0 then bs ++ [255] else bs)
def rowP (L : List Int) : List UInt8 × Nat := L.foldl (fun p x => (pushB p.1 p.2 x, p.2 + 1)) ([], 0)
def rowB (L : List Int) : List UInt8 := (rowP L).1
theorem rowP_n (L : List Int) : (rowP L).2 = L.length := by
 have key : ∀ (L : List Int) (p : List UInt8 × Nat), (L.foldl (fun p x => (pushB p.1 p.2 x, p.2 + 1)) p).2 = p.2 + L.length := by
  intro L
  induction L with
  | nil => intro p; rfl
  | cons x L ih => intro p; rw [List.foldl_cons, ih]; simp; omega
 have := key L ([], 0)
 simpa [rowP] using this
theorem rowB_snoc (L : List Int) (x : Int) : rowB (L ++ [x]) = pushB (rowB L) L.length x := by
 have := rowP_n L
 unfold rowB rowP at *
 rw [List.foldl_append, List.foldl_cons, List.foldl_nil, this]
theorem pushB_len (bs : List UInt8) (k : Nat) (x : Int) : (pushB bs k x).length = if k % 8 = 0 then bs.length + 1 else bs.length := by
 unfold pushB
 split <;> split <;> simp
theorem rowB_len (L : List Int) : (rowB L).length = (L.length + 7) / 8 := by
 have key : ∀ n (L : List Int), L.length = n → (rowB L).length = (L.length + 7) / 8 := by
  intro n
  induction n with
  | zero => intro L h; rw [List.eq_nil_of_length_eq_zero h]; rfl
  | succ n ih =>
   intro L h
   obtain ⟨x, hx⟩ : ∃ x, L[n]? = some x := ⟨L[n], List.getElem?_eq_getElem (by omega)⟩
   have e : L = L.take n ++ [x] := by rw [← take_snoc hx, List.take_of_length_le (by omega)]
   have hl : (L.take n).length = n := by rw [List.length_take]; omega
   rw [e, rowB_snoc, pushB_len, ih _ hl, List.length_append, List.length_singleton, hl]
   split <;> omega
 exact key _ L rfl
def msb (v : Int) : Nat → List Int
 | 0 => []
 | m + 1 => (v / 2 ^ m % 2) :: msb v m
theorem msb_len (v : Int) (n : Nat) : (msb v n).length = n := by induction n with | zero => rfl | succ n ih => simp [msb, ih]
def rpE (v n : Int) : Int := if n < 0 ∨ 32 < n then 1 else if v < 0 ∨ 2 ^ n.toNat ≤ v then 5 else 0
def rpL (L : List Int) (v n : Int) : List Int := if rpE v n = 0 then L ++ msb v n.toNat else L
theorem bit_of (v : Int) (m : Nat) (h0 : 0 ≤ v) (h1 : v ≤ 9223372036854775807) : iand .i64 (v.fdiv (2 ^ (((m + 1 : Nat) : Int) - 1).toNat)) 1 = v / 2 ^ m % 2 := by
 rw [show (((m + 1 : Nat) : Int) - 1).toNat = m from by omega]
 obtain ⟨k, rfl⟩ := Int.eq_ofNat_of_zero_le h0
 have e : ((k : Int)).fdiv (2 ^ m) = ((k / 2 ^ m : Nat) : Int) := by
  rw [Int.fdiv_eq_ediv_of_nonneg _ (Int.le_of_lt (Int.pow_pos (by decide)))]; simp
 have e2 : (k : Int) / 2 ^ m = ((k / 2 ^ m : Nat) : Int) := by simp
 have hq : k / 2 ^ m < 9223372036854775808 := Nat.lt_of_le_of_lt (Nat.div_le_self _ _) (by omega)
 rw [e, e2]
 generalize k / 2 ^ m = q at *
 show IntKind.i64.wrap ((BitVec.ofInt 64 (q : Int) &&& BitVec.ofInt 64 1).toNat : Int) = _
 have e : BitVec.ofInt 64 (q : Int) = BitVec.ofNat 64 q := rfl
 have e1 : BitVec.ofInt 64 1 = BitVec.ofNat 64 1 := rfl
 rw [e, e1, BitVec.toNat_and, BitVec.toNat_ofNat, BitVec.toNat_ofNat, Nat.mod_eq_of_lt (by omega), show 1 % 2 ^ 64 = 1 from rfl, Nat.and_one_is_mod]
 have := w64 (n := ((q % 2 : Nat) : Int)) (by omega)
 rw [this]; simp
theorem rw_put (L : List Int) (v n : Int) (hL : L.length ≤ 1000000000) : AEq Tryd.prog 103 [.ptr 0 0, i64 v, i64 n] [.box [.row 1 (rowB L).length, i64 L.length], .row (rowB L).length 5 1 ((rowB L).map byteA)] (i64 (rpE v n)) [.box [.row 1 (rowB (rpL L v n)).length, i64 (rpL L v n).length], .row (rowB (rpL L v n)).length 5 1 ((rowB (rpL L v n)).map byteA)] := by
  by_cases hn : n < 0 ∨ 32 < n
  · have h1 : rpE v n = 1 := if_pos hn
    have h2 : rpL L v n = L := by simp [rpL, h1]
    rw [h1, h2]
    refine acall_body Tryd.func103 rfl Tryd.ntmps103 (by simp) (fun hsc => ?_); simp only [Lf.enter, Nat.reduceAdd]; clear hsc
    have hU := True.intro
    repeat' (first | (guard_target =~ PWp _ _ _ _ _ _ _; first | (refine pwp_seq_k (fun K hK => ?_)) | (refine pwp_block ?_) | (refine pwp_rg_then ?_) | (refine pwp_ret ?_) | ((refine pwp_cond_d (fun hcd => ?_) (fun hcd => ?_)) <;> (try simp only [hcP] at hcd) <;> (try (exfalso; first | omega | exact absurd hcd (by assumption) | exact absurd (by assumption) hcd)))) | (guard_target =~ rg _ _ _ _ _ _ _; first | (guard_target =~ rg _ _ _ [] _ _ _; first | (refine rg_end ?_)) | (refine rg_a rfl (h := ?_)) | (refine rg_v rfl (h := ?_)) | (refine rg_s rfl ?_)) | (guard_target =~ SOp _ _ _ _ _ _; first | (guard_target =~ SOp _ _ ⟨_, .call ⟨.value (.func 127), _, _⟩, _, _, _, none⟩ _ _ _; first | (refine n_call (f := 127) rfl Tryd.call127 (h := AEq.pure' (by first | ((repeat' (first | exact trivial | (first | exact arg_lit | exact arg_sl id id | exact arg_nil | exact arg_sl (by simp) id | exact arg_sl (by simp) (fun _ => rfl) | exact arg_row_m (by rfl) (by rfl) (fun _ => rfl) | exact arg_vw_m (by rfl) (by rfl) (fun _ => rfl) | exact arg_rn (by rfl) (by rfl) | exact arg_junk | exact arg_row_mm (by rfl) (by rfl) (fun _ => rfl)) | refine ⟨?_, ?_⟩)); done) | fail) (br_many _) (hq := ?_))))) | (guard_target =~ (_ ∨ _) ∧ _; first | ((refine end_d [0, 1] (by rw [Tryd.results103, Lf.res1]) (ale_1 ?_) ?_) <;> (try (first | exact ale_eq (by with_reducible rfl) | exact ale_full | exact ale_sl (fun _ => rfl) | exact ale_sl (by simp) | exact ale_junk | exact ale_eq rfl | exact stq (by with_reducible rfl) | exact stq (by rfl) | exact stq (by simp (disch := omega) only [go_sem, seval, ↓reduceIte, hU]))))) | (refine hK _ _ ?_; clear hK K))
  have hp : (2 : Int) ^ n.toNat ≤ 4294967296 ∧ 1 ≤ (2 : Int) ^ n.toNat := by
    have h1 : 2 ^ n.toNat ≤ 2 ^ 32 := Nat.pow_le_pow_right (by decide) (by omega)
    have h2 : 0 < 2 ^ n.toNat := Nat.pow_pos (by decide)
    have e : (2 : Int) ^ n.toNat = ((2 ^ n.toNat : Nat) : Int) := by simp
    rw [e]; omega
  by_cases hv : v < 0 ∨ 2 ^ n.toNat ≤ v
  · have h1 : rpE v n = 5 := by simp only [rpE]; rw [if_neg hn, if_pos hv]
    have h2 : rpL L v n = L := by simp [rpL, h1]
    rw [h1, h2]
    refine acall_body Tryd.func103 rfl Tryd.ntmps103 (by simp) (fun hsc => ?_); simp only [Lf.enter, Nat.reduceAdd]; clear hsc
    have hU := True.intro
    repeat' (first | (guard_target =~ PWp _ _ _ _ _ _ _; first | (refine pwp_seq_k (fun K hK => ?_)) | (refine pwp_block ?_) | (refine pwp_rg_then ?_) | (refine pwp_ret ?_) | ((refine pwp_cond_d (fun hcd => ?_) (fun hcd => ?_)) <;> (try simp only [hcP] at hcd) <;> (try (exfalso; first | omega | exact absurd hcd (by assumption) | exact absurd (by assumption) hcd)))) | (guard_target =~ rg _ _ _ _ _ _ _; first | (guard_target =~ rg _ _ _ (⟨_, .move _, _, _, _, some _⟩ :: _) _ _ _; first | (refine rg_gq rfl (h := ?_))) | (guard_target =~ rg _ _ _ (⟨_, .binOp _ _ _ _ _, _, _, _, some _⟩ :: _) _ _ _; first | (refine rg_gq rfl (h := ?_))) | (guard_target =~ rg _ _ _ (⟨_, .convert _ _ _, _, _, _, some _⟩ :: _) _ _ _; first | (refine rg_gq rfl (h := ?_))) | (guard_target =~ rg _ _ _ [] _ _ _; first | (refine rg_end ?_)) | (refine rg_a rfl (h := ?_)) | (refine rg_v rfl (h := ?_)) | (refine rg_s rfl ?_)) | (guard_target =~ SOp _ _ _ _ _ _; first | (guard_target =~ SOp _ _ ⟨_, .call ⟨.value (.func 127), _, _⟩, _, _, _, none⟩ _ _ _; first | (refine n_call (f := 127) rfl Tryd.call127 (h := AEq.pure' (by first | ((repeat' (first | exact trivial | (first | exact arg_lit | exact arg_sl id id | exact arg_nil | exact arg_sl (by simp) id | exact arg_sl (by simp) (fun _ => rfl) | exact arg_row_m (by rfl) (by rfl) (fun _ => rfl) | exact arg_vw_m (by rfl) (by rfl) (fun _ => rfl) | exact arg_rn (by rfl) (by rfl) | exact arg_junk | exact arg_row_mm (by rfl) (by rfl) (fun _ => rfl)) | refine ⟨?_, ?_⟩)); done) | fail) (br_many _) (hq := ?_))))) | (guard_target =~ (_ ∨ _) ∧ _; first | ((refine end_d [0, 1] (by rw [Tryd.results103, Lf.res1]) (ale_1 ?_) ?_) <;> (try (first | exact ale_eq (by with_reducible rfl) | exact ale_full | exact ale_sl (fun _ => rfl) | exact ale_sl (by simp) | exact ale_junk | exact ale_eq rfl | exact stq (by with_reducible rfl) | exact stq (by rfl) | exact stq (by simp (disch := omega) only [go_sem, seval, ↓reduceIte, hU]))))) | (refine hK _ _ ?_; clear hK K))
  have h1 : rpE v n = 0 := by simp only [rpE]; rw [if_neg hn, if_neg hv]
  have h2 : rpL L v n = L ++ msb v n.toNat := by simp [rpL, h1]
  rw [h1, h2]
  generalize hM : L ++ msb v n.toNat = M
  refine acall_body Tryd.func103 rfl Tryd.ntmps103 (by simp) (fun hsc => ?_); simp only [Lf.enter, Nat.reduceAdd]; clear hsc
  have hU := True.intro
  repeat' (first | (guard_target =~ PWp _ _ _ _ _ _ _; first | (refine pwp_seq_k (fun K hK => ?_)) | (refine pwp_block ?_) | (refine pwp_rg_then ?_) | (refine pwp_skip ?_) | ((refine pwp_cond_d (fun hcd => ?_) (fun hcd => ?_)) <;> (try simp only [hcP] at hcd) <;> (try (exfalso; first | omega | exact absurd hcd (by assumption) | exact absurd (by assumption) hcd)))) | (guard_target =~ rg _ _ _ _ _ _ _; first | (guard_target =~ rg _ _ _ (⟨_, .move _, _, _, _, some _⟩ :: _) _ _ _; first | (refine rg_gq rfl (h := ?_))) | (guard_target =~ rg _ _ _ (⟨_, .binOp _ _ _ _ _, _, _, _, some _⟩ :: _) _ _ _; first | (refine rg_gq rfl (h := ?_))) | (guard_target =~ rg _ _ _ (⟨_, .convert _ _ _, _, _, _, some _⟩ :: _) _ _ _; first | (refine rg_gq rfl (h := ?_))) | (guard_target =~ rg _ _ _ [] _ _ _; first | (refine rg_end ?_)) | (refine rg_a rfl (h := ?_)) | (refine rg_v rfl (h := ?_)) | (refine rg_s rfl ?_)) | (guard_target =~ SOp _ _ _ _ _ _; first | (guard_target =~ SOp _ _ ⟨_, .call ⟨.value (.func 127), _, _⟩, _, _, _, none⟩ _ _ _; first | (refine n_call (f := 127) rfl Tryd.call127 (h := AEq.pure' (by first | ((repeat' (first | exact trivial | (first | exact arg_lit | exact arg_sl id id | exact arg_nil | exact arg_sl (by simp) id | exact arg_sl (by simp) (fun _ => rfl) | exact arg_row_m (by rfl) (by rfl) (fun _ => rfl) | exact arg_vw_m (by rfl) (by rfl) (fun _ => rfl) | exact arg_rn (by rfl) (by rfl) | exact arg_junk | exact arg_row_mm (by rfl) (by rfl) (fun _ => rfl)) | refine ⟨?_, ?_⟩)); done) | fail) (br_many _) (hq := ?_))))) | (refine hK _ _ ?_; clear hK K))
  refine pwp_loop_e [2, 24, 25, 26, 27, 28, 29, 30, 31, 32, 33, 34, 35, 36, 37, 38, 39, 40, 41, 42, 43, 44, 45, 46, 47, 48, 49, 50, 51, 52, 53, 54, 55, 56, 57, 58, 59, 60, 61, 62, 63, 64, 65, 66, 67, 68, 69, 70, 71, 72, 73, 74, 75] (fun s : List Int × Nat => [(2, i64 s.2)]) (fun s => [.box [.row 1 (rowB s.1).length, i64 s.1.length], .row (rowB s.1).length 5 1 ((rowB s.1).map byteA)]) (fun s => s.1 ++ msb v s.2 = M ∧ s.2 ≤ 32 ∧ s.1.length + s.2 ≤ 1000000032) (fun s => s.2) (L, n.toNat) ⟨hM, by dsimp only; omega, by dsimp only; omega⟩ ?_ rfl ?_
  · (refine ⟨⟨_, (by (try simp (disch := omega) only [go_sem, seval, ↓reduceIte, hU]) <;> rfl), ?_⟩, trivial⟩ <;> (try (first | exact ale_eq (by with_reducible rfl) | exact ale_full | exact ale_sl (fun _ => rfl) | exact ale_sl (by simp) | exact ale_junk | exact ale_eq rfl)))
    all_goals exact ale_i (by omega)
  · rintro ⟨C, m⟩ ⟨hk, hm, hC⟩
    dsimp only at hk hm hC
    simp only [mask, List.map_cons, List.map_nil, List.cons_append, List.nil_append]
    have hlen := rowB_len C
    cases m with
    | zero =>
      rw [msb, List.append_nil] at hk
      subst hk
      repeat' (first | (guard_target =~ PWp _ _ _ _ _ _ _; first | (refine pwp_seq_k (fun K hK => ?_)) | (refine pwp_rg_then ?_) | (refine pwp_ret ?_) | (refine pwp_exit ?_) | ((refine pwp_cond_d (fun hcd => ?_) (fun hcd => ?_)) <;> (try simp only [hcP] at hcd) <;> (try (exfalso; first | omega | exact absurd hcd (by assumption) | exact absurd (by assumption) hcd)))) | (guard_target =~ rg _ _ _ _ _ _ _; first | (guard_target =~ rg _ _ _ [] _ _ _; first | (refine rg_end ?_)) | (refine rg_a rfl (h := ?_)) | (refine rg_v rfl (h := ?_))) | (guard_target =~ (_ ∨ _) ∧ _; first | ((refine end_d [0, 1] (by rw [Tryd.results103, Lf.res1]) (ale_1 ?_) ?_) <;> (try (first | exact ale_eq (by with_reducible rfl) | exact ale_full | exact ale_sl (fun _ => rfl) | exact ale_sl (by simp) | exact ale_junk | exact ale_eq rfl | exact stq (by with_reducible rfl) | exact stq (by rfl) | exact stq (by simp (disch := omega) only [go_sem, seval, ↓reduceIte, hU]))))) | (refine hK _ _ ?_; clear hK K) | (apply_assumption (exfalso := false) (symm := false)))
    | succ m =>
      have hb := bit_of v m (by omega) (by omega)
      have hs := rowB_snoc C (v / 2 ^ m % 2)
      have hk2 : (C ++ [v / 2 ^ m % 2]) ++ msb v m = M := by rw [← hk]; simp [msb]
      have hl2 : (C ++ [v / 2 ^ m % 2]).length = C.length + 1 := by simp
      by_cases h8 : C.length % 8 = 0
      · have hr : (List.map byteA (rowB C) ++ [[AV.lit (.int .u8 255)]])[((C.length : Int) / 8).toNat]? = some [AV.lit (.int .u8 255)] := by
          rw [List.getElem?_append_right (by rw [List.length_map]; omega), List.length_map, show ((C.length : Int) / 8).toNat - (rowB C).length = 0 from by omega]; rfl
        have hRl : (rowB (C ++ [v / 2 ^ m % 2])).length = (rowB C).length + 1 := by rw [hs, pushB_len, if_pos h8]
        have hR0 : v / 2 ^ m % 2 = 0 → List.map byteA (rowB (C ++ [v / 2 ^ m % 2])) = (List.map byteA (rowB C) ++ [[AV.lit (.int .u8 255)]]).set ((C.length : Int) / 8).toNat [AV.lit (.int .u8 (iandn .u8 255 (Int.fdiv 128 (2 ^ ((C.length : Int) % 8).toNat))))] := by
          intro hx
          have hy : (rowB C ++ [255]).getD (C.length / 8) 0 = 255 := by
            rw [List.getD_eq_getElem?_getD, List.getElem?_append_right (by omega), show C.length / 8 - (rowB C).length = 0 from by omega]; rfl
          rw [hs, pushB, if_pos hx, if_pos h8, hy, List.map_set, List.map_append, show ((C.length : Int) / 8).toNat = C.length / 8 from by omega, show ((C.length : Int) % 8).toNat = C.length % 8 from by omega]
          have := clrB_val 255 (C.length % 8)
          congr 1
          show [AV.lit (.int .u8 (clrB 255 (C.length % 8)).toNat)] = _
          rw [this, Int.fdiv_eq_ediv_of_nonneg _ (Int.le_of_lt (Int.pow_pos (by decide)))]; rfl
        have hR1 : ¬ v / 2 ^ m % 2 = 0 → List.map byteA (rowB (C ++ [v / 2 ^ m % 2])) = List.map byteA (rowB C) ++ [[AV.lit (.int .u8 255)]] := by
          intro hx
          rw [hs, pushB, if_neg hx, if_pos h8, List.map_append]; rfl
        have hU := And.intro @hr (@hb)
        repeat' (first | (guard_target =~ PWp _ _ _ _ _ _ _; first | (refine pwp_draw_tail (id := 12) 20 mixed (by kernel_rfl) (by kernel_rfl) (by kernel_rfl) rfl rfl ?_) | (refine pwp_seq_k (fun K hK => ?_)) | (refine pwp_block ?_) | (refine pwp_rg_then ?_) | (refine pwp_rg ?_) | (refine pwp_skip ?_) | ((refine pwp_cond_d (fun hcd => ?_) (fun hcd => ?_)) <;> (try simp only [hcP] at hcd) <;> (try (exfalso; first | omega | exact absurd hcd (by assumption) | exact absurd (by assumption) hcd)))) | (guard_target =~ rg _ _ _ _ _ _ _; first | (guard_target =~ rg _ _ _ [] _ _ _; first | (refine rg_end ?_)) | (refine rg_a rfl (h := ?_)) | (refine rg_v rfl (h := ?_)) | (refine rg_s rfl ?_) | (refine rg_n rfl ?_)) | (guard_target =~ SOp _ _ _ _ _ _; first | (guard_target =~ SOp _ _ ⟨_, .store _ _ _, _, _, _, none⟩ _ _ _; first | (refine n_store rfl (hK := ?_)) | (refine n_store_ep rfl (hK := ?_))) | (guard_target =~ SOp _ _ ⟨_, .call ⟨.builtin .append, _, _⟩, _, _, _, none⟩ _ _ _; first | (refine n_append_row rfl (he := by first | exact eo3 | exact eo4 | exact eo5 | exact eo22 | exact eo28 | exact eo129 | exact eo158 | exact eo175 | fail) (hK := ?_))) | (guard_target =~ SOp _ _ ⟨_, .buildSlice _ _ _, _, _, _, none⟩ _ _ _; first | (refine n_lit rfl (he := by first | exact eo3 | exact eo4 | exact eo5 | exact eo22 | exact eo28 | exact eo129 | exact eo158 | exact eo175 | fail) (hK := ?_)))) | (guard_target =~ dg _ _ _ _ _ _ _; first | (guard_target =~ dg _ _ _ (⟨_, .move _, _, _, _, none⟩ :: _) _ _ _; first | (refine dg_v rfl (hk := ?_))) | (guard_target =~ dg _ _ _ (⟨_, .binOp _ _ _ _ _, _, _, _, none⟩ :: _) _ _ _; first | (refine dg_v rfl (hk := ?_))) | (guard_target =~ dg _ _ _ (⟨_, .nilCheck _, _, _, _, none⟩ :: _) _ _ _; first | (refine dg_v rfl (hk := ?_))) | (guard_target =~ dg _ _ _ (⟨_, .fieldAddr _ _ _, _, _, _, none⟩ :: _) _ _ _; first | (refine dg_v rfl (hk := ?_))) | (guard_target =~ dg _ _ _ (⟨_, .load _ _, _, _, _, none⟩ :: _) _ _ _; first | (refine dg_v rfl (hk := ?_))) | (guard_target =~ dg _ _ _ (⟨_, .indexAddr _ _ _, _, _, _, none⟩ :: _) _ _ _; first | (refine dg_c (x := _) (h := ro_s (h := n_index_row rfl (hK := ro_end ⟨rfl, rfl⟩))) (hk := ?_))) | (guard_target =~ dg _ _ _ (⟨_, .convert _ _ _, _, _, _, none⟩ :: _) _ _ _; first | (refine dg_v rfl (hk := ?_))) | (guard_target =~ dg _ _ _ (⟨_, .unOp _ _ _, _, _, _, none⟩ :: _) _ _ _; first | (refine dg_v rfl (hk := ?_))) | (guard_target =~ dg _ _ _ (⟨_, .pick _ _ _, _, _, _, none⟩ :: _) _ _ _; first | (refine dg_v rfl (hk := ?_))) | (guard_target =~ dg _ _ _ [] _ _ _; first | (refine dg_nil ?_))) | (refine hK _ _ ?_; clear hK K) | (dsimp only [Lf.thenQ, Lf.blockQ]))
        · refine ⟨(C ++ [v / 2 ^ m % 2], m), ⟨hk2, by dsimp only; omega, by dsimp only; omega⟩, by dsimp only; omega, ?_, (by repeat' (first | exact agr_refl | refine agr_cons (by rfl) ?_)), by first | (dsimp only; rw [hRl, hR0 hcd, hl2]; rfl) | fail⟩
          (refine ⟨⟨_, (by (try simp (disch := omega) only [go_sem, seval, ↓reduceIte, hU]) <;> rfl), ?_⟩, trivial⟩ <;> (try (first | exact ale_eq (by with_reducible rfl) | exact ale_full | exact ale_sl (fun _ => rfl) | exact ale_sl (by simp) | exact ale_junk | exact ale_eq rfl)))
          all_goals exact ale_i (by omega)
        · refine ⟨(C ++ [v / 2 ^ m % 2], m), ⟨hk2, by dsimp only; omega, by dsimp only; omega⟩, by dsimp only; omega, ?_, (by repeat' (first | exact agr_refl | refine agr_cons (by rfl) ?_)), by first | (dsimp only; rw [hRl, hR1 hcd, hl2]; rfl) | fail⟩
          (refine ⟨⟨_, (by (try simp (disch := omega) only [go_sem, seval, ↓reduceIte, hU]) <;> rfl), ?_⟩, trivial⟩ <;> (try (first | exact ale_eq (by with_reducible rfl) | exact ale_full | exact ale_sl (fun _ => rfl) | exact ale_sl (by simp) | exact ale_junk | exact ale_eq rfl)))
          all_goals exact ale_i (by omega)
      · obtain ⟨y, hy⟩ : ∃ y, (rowB C)[C.length / 8]? = some y := ⟨(rowB C)[C.length / 8], List.getElem?_eq_getElem (by omega)⟩
        have hr : (List.map byteA (rowB C))[((C.length : Int) / 8).toNat]? = some [AV.lit (.int .u8 y.toNat)] := by
          rw [show ((C.length : Int) / 8).toNat = C.length / 8 from by omega, List.getElem?_map, hy]; rfl
        have hRl : (rowB (C ++ [v / 2 ^ m % 2])).length = (rowB C).length := by rw [hs, pushB_len, if_neg h8]
        have hR0 : v / 2 ^ m % 2 = 0 → List.map byteA (rowB (C ++ [v / 2 ^ m % 2])) = (List.map byteA (rowB C)).set ((C.length : Int) / 8).toNat [AV.lit (.int .u8 (iandn .u8 y.toNat (Int.fdiv 128 (2 ^ ((C.length : Int) % 8).toNat))))] := by
          intro hx
          have hy : (rowB C).getD (C.length / 8) 0 = y := by rw [List.getD_eq_getElem?_getD, hy]; rfl
          rw [hs, pushB, if_pos hx, if_neg h8, hy, List.map_set, show ((C.length : Int) / 8).toNat = C.length / 8 from by omega, show ((C.length : Int) % 8).toNat = C.length % 8 from by omega]
          have := clrB_val y (C.length % 8)
          congr 1
          show [AV.lit (.int .u8 (clrB y (C.length % 8)).toNat)] = _
          rw [this, Int.fdiv_eq_ediv_of_nonneg _ (Int.le_of_lt (Int.pow_pos (by decide)))]
        have hR1 : ¬ v / 2 ^ m % 2 = 0 → List.map byteA (rowB (C ++ [v / 2 ^ m % 2])) = List.map byteA (rowB C) := by
          intro hx
          rw [hs, pushB, if_neg hx, if_neg h8]
        have hU := And.intro @hr (@hb)
        repeat' (first | (guard_target =~ PWp _ _ _ _ _ _ _; first | (refine pwp_draw_tail (id := 12) 20 mixed (by kernel_rfl) (by kernel_rfl) (by kernel_rfl) rfl rfl ?_) | (refine pwp_seq_k (fun K hK => ?_)) | (refine pwp_block ?_) | (refine pwp_rg_then ?_) | (refine pwp_rg ?_) | (refine pwp_skip ?_) | ((refine pwp_cond_d (fun hcd => ?_) (fun hcd => ?_)) <;> (try simp only [hcP] at hcd) <;> (try (exfalso; first | omega | exact absurd hcd (by assumption) | exact absurd (by assumption) hcd)))) | (guard_target =~ rg _ _ _ _ _ _ _; first | (guard_target =~ rg _ _ _ [] _ _ _; first | (refine rg_end ?_)) | (refine rg_a rfl (h := ?_)) | (refine rg_v rfl (h := ?_)) | (refine rg_n rfl ?_)) | (guard_target =~ SOp _ _ _ _ _ _; first | (guard_target =~ SOp _ _ ⟨_, .store _ _ _, _, _, _, none⟩ _ _ _; first | (refine n_store rfl (hK := ?_)) | (refine n_store_ep rfl (hK := ?_)))) | (guard_target =~ dg _ _ _ _ _ _ _; first | (guard_target =~ dg _ _ _ (⟨_, .move _, _, _, _, none⟩ :: _) _ _ _; first | (refine dg_v rfl (hk := ?_))) | (guard_target =~ dg _ _ _ (⟨_, .binOp _ _ _ _ _, _, _, _, none⟩ :: _) _ _ _; first | (refine dg_v rfl (hk := ?_))) | (guard_target =~ dg _ _ _ (⟨_, .nilCheck _, _, _, _, none⟩ :: _) _ _ _; first | (refine dg_v rfl (hk := ?_))) | (guard_target =~ dg _ _ _ (⟨_, .fieldAddr _ _ _, _, _, _, none⟩ :: _) _ _ _; first | (refine dg_v rfl (hk := ?_))) | (guard_target =~ dg _ _ _ (⟨_, .load _ _, _, _, _, none⟩ :: _) _ _ _; first | (refine dg_v rfl (hk := ?_))) | (guard_target =~ dg _ _ _ (⟨_, .indexAddr _ _ _, _, _, _, none⟩ :: _) _ _ _; first | (refine dg_c (x := _) (h := ro_s (h := n_index_row rfl (hK := ro_end ⟨rfl, rfl⟩))) (hk := ?_))) | (guard_target =~ dg _ _ _ (⟨_, .convert _ _ _, _, _, _, none⟩ :: _) _ _ _; first | (refine dg_v rfl (hk := ?_))) | (guard_target =~ dg _ _ _ (⟨_, .unOp _ _ _, _, _, _, none⟩ :: _) _ _ _; first | (refine dg_v rfl (hk := ?_))) | (guard_target =~ dg _ _ _ (⟨_, .pick _ _ _, _, _, _, none⟩ :: _) _ _ _; first | (refine dg_v rfl (hk := ?_))) | (guard_target =~ dg _ _ _ [] _ _ _; first | (refine dg_nil ?_))) | (refine hK _ _ ?_; clear hK K) | (dsimp only [Lf.thenQ, Lf.blockQ]))
        · refine ⟨(C ++ [v / 2 ^ m % 2], m), ⟨hk2, by dsimp only; omega, by dsimp only; omega⟩, by dsimp only; omega, ?_, (by repeat' (first | exact agr_refl | refine agr_cons (by rfl) ?_)), by first | (dsimp only; rw [hRl, hR0 hcd, hl2]; rfl) | fail⟩
          (refine ⟨⟨_, (by (try simp (disch := omega) only [go_sem, seval, ↓reduceIte, hU]) <;> rfl), ?_⟩, trivial⟩ <;> (try (first | exact ale_eq (by with_reducible rfl) | exact ale_full | exact ale_sl (fun _ => rfl) | exact ale_sl (by simp) | exact ale_junk | exact ale_eq rfl)))
          all_goals exact ale_i (by omega)
        · refine ⟨(C ++ [v / 2 ^ m % 2], m), ⟨hk2, by dsimp only; omega, by dsimp only; omega⟩, by dsimp only; omega, ?_, (by repeat' (first | exact agr_refl | refine agr_cons (by rfl) ?_)), by first | (dsimp only; rw [hRl, hR1 hcd, hl2]; rfl) | fail⟩
          (refine ⟨⟨_, (by (try simp (disch := omega) only [go_sem, seval, ↓reduceIte, hU]) <;> rfl), ?_⟩, trivial⟩ <;> (try (first | exact ale_eq (by with_reducible rfl) | exact ale_full | exact ale_sl (fun _ => rfl) | exact ale_sl (by simp) | exact ale_junk | exact ale_eq rfl)))
          all_goals exact ale_i (by omega)
end Go.Proofs.YtohbfcmmpaikhaaDoor

set_option linter.unusedVariables false
set_option linter.unusedSimpArgs false
namespace Go.Proofs.YtohbfcmmpaikhaaDoor
open Go Go.Lf Go.Proofs
attribute [local irreducible] Lf.rg Lf.ro Lf.PWp Lf.SOp Lf.ACall Lf.Scoped Lf.dg Lf.dw
set_option maxRecDepth 20000
set_option maxHeartbeats 4000000
theorem rw_bytes (b : List UInt8) (n : Int) (hb : b.length ≤ 1000000000) : AEq Tryd.prog 105 [.ptr 0 0] [.box [.row 1 b.length, i64 n], .row b.length 5 1 (b.map byteA)] (.sl false false (b.map byteA)) [.box [.row 1 b.length, i64 n], .row b.length 5 1 (b.map byteA)] := by
 refine acall_body Tryd.func105 rfl Tryd.ntmps105 (by simp) (fun hsc => ?_); simp only [Lf.enter, Nat.reduceAdd]; clear hsc
 have hU := True.intro
 repeat' (first | (guard_target =~ PWp _ _ _ _ _ _ _; first | (refine pwp_seq_k (fun K hK => ?_)) | (refine pwp_rg_then ?_) | (refine pwp_ret ?_) | (refine pwp_skip ?_) | ((refine pwp_cond_d (fun hcd => ?_) (fun hcd => ?_)) <;> (try simp only [hcP] at hcd) <;> (try (exfalso; first | omega | exact absurd hcd (by assumption) | exact absurd (by assumption) hcd)))) | (guard_target =~ rg _ _ _ _ _ _ _; first | (guard_target =~ rg _ _ _ [] _ _ _; first | (refine rg_end ?_)) | (refine rg_a rfl (h := ?_)) | (refine rg_v rfl (h := ?_)) | (refine rg_s rfl ?_)) | (guard_target =~ SOp _ _ _ _ _ _; first | (guard_target =~ SOp _ _ ⟨_, .call ⟨.value (.func 122), _, _⟩, _, _, _, none⟩ _ _ _; first | (refine n_call (f := 122) rfl Tryd.call122 (h := AEq.pure' (by first | ((repeat' (first | exact trivial | (first | exact arg_lit | exact arg_sl id id | exact arg_nil | exact arg_sl (by simp) id | exact arg_sl (by simp) (fun _ => rfl) | exact arg_row_m (by rfl) (by rfl) (fun _ => rfl) | exact arg_vw_m (by rfl) (by rfl) (fun _ => rfl) | exact arg_rn (by rfl) (by rfl) | exact arg_junk | exact arg_row_mm (by rfl) (by rfl) (fun _ => rfl)) | refine ⟨?_, ?_⟩)); done) | fail) (clone_b _ _ _ (by omega)) (hq := ?_))))) | (guard_target =~ (_ ∨ _) ∧ _; first | ((refine end_d [0, 1] (by rw [Tryd.results105, Lf.res1]) (ale_1 ?_) ?_) <;> (try (first | exact ale_eq (by with_reducible rfl) | exact ale_full | exact ale_sl (fun _ => rfl) | exact ale_sl (by simp) | exact ale_junk | exact ale_eq rfl | exact stq (by with_reducible rfl) | exact stq (by rfl) | exact stq (by simp (disch := omega) only [go_sem, seval, ↓reduceIte, hU]))))) | (refine hK _ _ ?_; clear hK K))
theorem or_bit (v x : Int) (h0 : 0 ≤ v) (h1 : v ≤ 4294967296) (hx : x = 0 ∨ x = 1) : ior .i64 (v * 2) x = 2 * v + x := by
 obtain ⟨k, rfl⟩ := Int.eq_ofNat_of_zero_le h0
 have key : ((k : Int) * (2 : Int)) = ((k <<< 1 : Nat) : Int) := by rw [Nat.shiftLeft_eq]; omega
 rw [show (k : Int) * (2 : Int) = ((k <<< 1 : Nat) : Int) from key]
 have hk : k <<< 1 < 2 ^ 64 := by rw [Nat.shiftLeft_eq]; omega
 show IntKind.i64.wrap ((BitVec.ofInt 64 ((k <<< 1 : Nat) : Int) ||| BitVec.ofInt 64 x).toNat : Int) = _
 have e : BitVec.ofInt 64 ((k <<< 1 : Nat) : Int) = BitVec.ofNat 64 (k <<< 1) := rfl
 rcases hx with rfl | rfl
 ·rw [show BitVec.ofInt 64 0 = BitVec.ofNat 64 0 from rfl, e, BitVec.toNat_or, BitVec.toNat_ofNat, BitVec.toNat_ofNat, Nat.mod_eq_of_lt hk]
  simp only [Nat.zero_mod, Nat.or_zero]
  rw [w64 (by rw [Nat.shiftLeft_eq]; omega), Nat.shiftLeft_eq]; omega
 ·rw [show BitVec.ofInt 64 1 = BitVec.ofNat 64 1 from rfl, e, BitVec.toNat_or, BitVec.toNat_ofNat, BitVec.toNat_ofNat, Nat.mod_eq_of_lt hk]
  have h2 : k <<< 1 ||| 1 % 2 ^ 64 = k <<< 1 + 1 := Nat.shiftLeft_add_eq_or_of_lt (b := 1) (i := 1) (by decide) k ▸ rfl
  rw [h2, w64 (by rw [Nat.shiftLeft_eq]; omega), Nat.shiftLeft_eq]; omega
theorem bitsL_app (a b : List UInt8) : bitsL (a ++ b) = bitsL a ++ bitsL b := by simp [bitsL]
theorem bits8_len (x : UInt8) : (bits8 x).length = 8 := rfl
theorem bitsL_set (b : List UInt8) (c j : Nat) (y z : UInt8) (hj : j < 8) (hz : bits8 z = (bits8 y).set j 0) (hy : b[c]? = some y) : bitsL (b.set c z) = (bitsL b).set (8 * c + j) 0 := by
 induction b generalizing c with
 | nil => simp at hy
 | cons x b ih =>
  cases c with
  | zero =>
   simp at hy; subst hy
   show bits8 z ++ bitsL b = (bits8 x ++ bitsL b).set (8 * 0 + j) 0
   rw [hz, List.set_append_left _ _ (by rw [bits8_len]; omega)]
   simp
  | succ c =>
   simp only [List.getElem?_cons_succ] at hy
   show bits8 x ++ bitsL (b.set c z) = (bits8 x ++ bitsL b).set (8 * (c + 1) + j) 0
   rw [ih c hy, List.set_append_right _ _ (by rw [bits8_len]; omega), bits8_len]
   congr 2; omega
theorem bits_row (L : List Int) (h : ∀ x ∈ L, x = 0 ∨ x = 1) : bitsL (rowB L) = L ++ List.replicate (8 * (rowB L).length - L.length) 1 := by
 have key : ∀ n (L : List Int), (∀ x ∈ L, x = 0 ∨ x = 1) → L.length = n → bitsL (rowB L) = L ++ List.replicate (8 * (rowB L).length - L.length) 1 := by
  intro n
  induction n with
  | zero => intro L _ h; rw [List.eq_nil_of_length_eq_zero h]; rfl
  | succ n ih =>
   intro L hb h
   obtain ⟨x, hx⟩ : ∃ x, L[n]? = some x := ⟨L[n], List.getElem?_eq_getElem (by omega)⟩
   have e : L = L.take n ++ [x] := by rw [← take_snoc hx, List.take_of_length_le (by omega)]
   have hl : (L.take n).length = n := by rw [List.length_take]; omega
   have hx01 := hb x (List.mem_of_getElem? hx)
   have ihn := ih (L.take n) (fun y hy => hb y (List.mem_of_mem_take hy)) hl
   generalize L.take n = M at *
   subst e
   have hlen := rowB_len M
   have hM : bitsL (if M.length % 8 = 0 then rowB M ++ [255] else rowB M) = M ++ 1 :: List.replicate (8 * (M.length / 8 + 1) - M.length - 1) 1 := by
    by_cases h8 : M.length % 8 = 0
    ·rw [if_pos h8, bitsL_app, ihn, show 8 * (rowB M).length - M.length = 0 from by omega, show 8 * (M.length / 8 + 1) - M.length - 1 = 7 from by omega]
     simp; rfl
    ·rw [if_neg h8, ihn, ← List.replicate_succ]
     congr 2; omega
   have hr : (if M.length % 8 = 0 then rowB M ++ [255] else rowB M).length = M.length / 8 + 1 := by
    split
    ·rw [List.length_append]; simp; omega
    ·omega
   have h8l : (rowB (M ++ [x])).length = M.length / 8 + 1 := by rw [rowB_len, List.length_append]; simp; omega
   rw [h8l, rowB_snoc, pushB]
   generalize hB : (if M.length % 8 = 0 then rowB M ++ [255] else rowB M) = B at *
   have hfin : 8 * (M.length / 8 + 1) - (M ++ [x]).length = 8 * (M.length / 8 + 1) - M.length - 1 := by rw [List.length_append]; simp; omega
   rw [hfin]
   rcases hx01 with rfl | rfl
   ·rw [if_pos rfl]
    obtain ⟨y, hy⟩ : ∃ y, B[M.length / 8]? = some y := ⟨B[M.length / 8], List.getElem?_eq_getElem (by omega)⟩
    rw [bitsL_set B (M.length / 8) (M.length % 8) y _ (by omega) (by rw [List.getD_eq_getElem?_getD, hy]; exact bits8_clr y _ (by omega)) hy, hM, show 8 * (M.length / 8) + M.length % 8 = M.length from by omega, List.set_append_right _ _ (Nat.le_refl _)]
    simp
   ·rw [if_neg (by decide), hM]; simp
 exact key _ L h rfl
def chunk (L : List Int) (c : Nat) : List Int := (List.range 8).map fun j => L.getD (8 * c + j) 1
def packL (L : List Int) : List UInt8 := (List.range ((L.length + 7) / 8)).map fun c => UInt8.ofNat (numBits (chunk L c)).toNat
theorem msb01 (v : Int) (n : Nat) : ∀ x ∈ msb v n, x = 0 ∨ x = 1 := by
  induction n with
  | zero => intro x h; simp [msb] at h
  | succ n ih => intro x h; simp only [msb, List.mem_cons] at h; rcases h with rfl | h; · omega
                 exact ih x h
end Go.Proofs.YtohbfcmmpaikhaaDoor

set_option linter.unusedVariables false
set_option linter.unusedSimpArgs false
namespace Go.Proofs.YtohbfcmmpaikhaaDoor
open Go Go.Lf Go.Proofs
attribute [local irreducible] Lf.rg Lf.ro Lf.PWp Lf.SOp Lf.ACall Lf.Scoped Lf.dg Lf.dw
set_option maxRecDepth 20000
set_option maxHeartbeats 4000000
end Go.Proofs.YtohbfcmmpaikhaaDoor

set_option linter.unusedVariables false
set_option linter.unusedSimpArgs false
namespace Go.Lf
open Go
end Go.Lf
namespace Go.Proofs.YtohbfcmmpaikhaaDoor
open Go Go.Lf Go.Proofs
attribute [local irreducible] Lf.rg Lf.ro Lf.PWp Lf.SOp Lf.ACall Lf.Scoped Lf.dg Lf.dw
set_option maxRecDepth 20000
set_option maxHeartbeats 4000000
def lenT : List UInt8 := [73, 83, 88, 88, 88, 88, 88, 88, 88, 84, 90, 88, 88, 90, 88, 88, 88, 88, 88, 88, 88, 88, 90, 88, 88, 88, 88, 88, 88, 88, 88, 88, 66, 70, 70, 72, 73, 66, 68, 71, 70, 70, 68, 71, 68, 66, 66, 66, 65, 65, 65, 66, 66, 66, 66, 66, 66, 66, 67, 68, 75, 66, 72, 70, 73, 66, 67, 67, 67, 67, 67, 67, 67, 67, 67, 67, 67, 67, 67, 67, 67, 67, 67, 67, 67, 67, 67, 67, 68, 67, 68, 73, 79, 73, 74, 66, 75, 65, 66, 65, 66, 65, 66, 66, 66, 65, 67, 67, 66, 66, 66, 65, 66, 67, 66, 65, 65, 66, 67, 67, 67, 67, 67, 75, 71, 74, 73, 88, 80, 82, 80, 80, 82, 82, 82, 83, 82, 83, 83, 83, 83, 83, 84, 83, 84, 84, 82, 83, 84, 83, 83, 83, 83, 81, 82, 83, 82, 83, 83, 84, 82, 81, 80, 82, 82, 83, 83, 81, 83, 82, 82, 84, 81, 82, 83, 83, 81, 81, 82, 81, 83, 82, 83, 83, 80, 82, 82, 82, 83, 82, 82, 83, 86, 86, 80, 79, 82, 83, 82, 85, 86, 86, 86, 87, 87, 86, 84, 85, 79, 81, 86, 87, 87, 86, 87, 84, 81, 81, 86, 86, 88, 87, 87, 87, 80, 84, 80, 81, 82, 81, 81, 83, 82, 82, 85, 85, 84, 84, 86, 83, 86, 87, 86, 86, 87, 87, 87, 87, 87, 88, 87, 87, 87, 87, 87, 86, 90]
theorem lenT_len : lenT.length = 257 := by decide +kernel
theorem lenT_bd : ∀ i : Fin 257, 65 ≤ (lenT.getD i.val 0).toNat ∧ (lenT.getD i.val 0).toNat ≤ 90 := by decide +kernel
def szI (s : Int) : Int := ((lenT.getD s.toNat 0).toNat : Int) - 60
theorem szI_bd {s : Int} (h0 : 0 ≤ s) (h1 : s ≤ 256) : 5 ≤ szI s ∧ szI s ≤ 30 := by
 have := lenT_bd ⟨s.toNat, by omega⟩
 unfold szI
 dsimp only at this
 omega
theorem lenT_ix {s : Int} (h0 : 0 ≤ s) (h1 : s ≤ 256) : aindex Tryd.prog 9 (.lit (.string ({ data := (((73 :: 83 :: 88 :: 88 :: 88 :: 88 :: 88 :: 88 :: 88 :: 84 :: 90 :: 88 :: 88 :: 90 :: 88 :: 88 :: 88 :: 88 :: 88 :: 88 :: 88 :: 88 :: 90 :: 88 :: 88 :: 88 :: 88 :: 88 :: 88 :: 88 :: 88 :: 88 :: 66 :: 70 :: 70 :: 72 :: 73 :: 66 :: 68 :: 71 :: 70 :: 70 :: 68 :: 71 :: 68 :: 66 :: 66 :: 66 :: 65 :: 65 :: 65 :: 66 :: 66 :: 66 :: 66 :: 66 :: 66 :: 66 :: 67 :: 68 :: 75 :: 66 :: 72 :: 70 :: []).append (73 :: 66 :: 67 :: 67 :: 67 :: 67 :: 67 :: 67 :: 67 :: 67 :: 67 :: 67 :: 67 :: 67 :: 67 :: 67 :: 67 :: 67 :: 67 :: 67 :: 67 :: 67 :: 67 :: 67 :: 68 :: 67 :: 68 :: 73 :: 79 :: 73 :: 74 :: 66 :: 75 :: 65 :: 66 :: 65 :: 66 :: 65 :: 66 :: 66 :: 66 :: 65 :: 67 :: 67 :: 66 :: 66 :: 66 :: 65 :: 66 :: 67 :: 66 :: 65 :: 65 :: 66 :: 67 :: 67 :: 67 :: 67 :: 67 :: 75 :: 71 :: 74 :: 73 :: 88 :: [])).append ((80 :: 82 :: 80 :: 80 :: 82 :: 82 :: 82 :: 83 :: 82 :: 83 :: 83 :: 83 :: 83 :: 83 :: 84 :: 83 :: 84 :: 84 :: 82 :: 83 :: 84 :: 83 :: 83 :: 83 :: 83 :: 81 :: 82 :: 83 :: 82 :: 83 :: 83 :: 84 :: 82 :: 81 :: 80 :: 82 :: 82 :: 83 :: 83 :: 81 :: 83 :: 82 :: 82 :: 84 :: 81 :: 82 :: 83 :: 83 :: 81 :: 81 :: 82 :: 81 :: 83 :: 82 :: 83 :: 83 :: 80 :: 82 :: 82 :: 82 :: 83 :: 82 :: 82 :: 83 :: []).append ((86 :: 86 :: 80 :: 79 :: 82 :: 83 :: 82 :: 85 :: 86 :: 86 :: 86 :: 87 :: 87 :: 86 :: 84 :: 85 :: 79 :: 81 :: 86 :: 87 :: 87 :: 86 :: 87 :: 84 :: 81 :: 81 :: 86 :: 86 :: 88 :: 87 :: 87 :: 87 :: []).append (80 :: 84 :: 80 :: 81 :: 82 :: 81 :: 81 :: 83 :: 82 :: 82 :: 85 :: 85 :: 84 :: 84 :: 86 :: 83 :: 86 :: 87 :: 86 :: 86 :: 87 :: 87 :: 87 :: 87 :: 87 :: 88 :: 87 :: 87 :: 87 :: 87 :: 87 :: 86 :: 90 :: [])))).toArray }))) (.lit (.int .i64 s)) = some (.lit (.int .u8 ((lenT.getD s.toNat 0).toNat : Nat))) := by
 have hd : ({ data := (((73 :: 83 :: 88 :: 88 :: 88 :: 88 :: 88 :: 88 :: 88 :: 84 :: 90 :: 88 :: 88 :: 90 :: 88 :: 88 :: 88 :: 88 :: 88 :: 88 :: 88 :: 88 :: 90 :: 88 :: 88 :: 88 :: 88 :: 88 :: 88 :: 88 :: 88 :: 88 :: 66 :: 70 :: 70 :: 72 :: 73 :: 66 :: 68 :: 71 :: 70 :: 70 :: 68 :: 71 :: 68 :: 66 :: 66 :: 66 :: 65 :: 65 :: 65 :: 66 :: 66 :: 66 :: 66 :: 66 :: 66 :: 66 :: 67 :: 68 :: 75 :: 66 :: 72 :: 70 :: []).append (73 :: 66 :: 67 :: 67 :: 67 :: 67 :: 67 :: 67 :: 67 :: 67 :: 67 :: 67 :: 67 :: 67 :: 67 :: 67 :: 67 :: 67 :: 67 :: 67 :: 67 :: 67 :: 67 :: 67 :: 68 :: 67 :: 68 :: 73 :: 79 :: 73 :: 74 :: 66 :: 75 :: 65 :: 66 :: 65 :: 66 :: 65 :: 66 :: 66 :: 66 :: 65 :: 67 :: 67 :: 66 :: 66 :: 66 :: 65 :: 66 :: 67 :: 66 :: 65 :: 65 :: 66 :: 67 :: 67 :: 67 :: 67 :: 67 :: 75 :: 71 :: 74 :: 73 :: 88 :: [])).append ((80 :: 82 :: 80 :: 80 :: 82 :: 82 :: 82 :: 83 :: 82 :: 83 :: 83 :: 83 :: 83 :: 83 :: 84 :: 83 :: 84 :: 84 :: 82 :: 83 :: 84 :: 83 :: 83 :: 83 :: 83 :: 81 :: 82 :: 83 :: 82 :: 83 :: 83 :: 84 :: 82 :: 81 :: 80 :: 82 :: 82 :: 83 :: 83 :: 81 :: 83 :: 82 :: 82 :: 84 :: 81 :: 82 :: 83 :: 83 :: 81 :: 81 :: 82 :: 81 :: 83 :: 82 :: 83 :: 83 :: 80 :: 82 :: 82 :: 82 :: 83 :: 82 :: 82 :: 83 :: []).append ((86 :: 86 :: 80 :: 79 :: 82 :: 83 :: 82 :: 85 :: 86 :: 86 :: 86 :: 87 :: 87 :: 86 :: 84 :: 85 :: 79 :: 81 :: 86 :: 87 :: 87 :: 86 :: 87 :: 84 :: 81 :: 81 :: 86 :: 86 :: 88 :: 87 :: 87 :: 87 :: []).append (80 :: 84 :: 80 :: 81 :: 82 :: 81 :: 81 :: 83 :: 82 :: 82 :: 85 :: 85 :: 84 :: 84 :: 86 :: 83 :: 86 :: 87 :: 86 :: 86 :: 87 :: 87 :: 87 :: 87 :: 87 :: 88 :: 87 :: 87 :: 87 :: 87 :: 87 :: 86 :: 90 :: [])))).toArray } : ByteArray).data = lenT.toArray := by kernel_rfl
 generalize ({ data := (((73 :: 83 :: 88 :: 88 :: 88 :: 88 :: 88 :: 88 :: 88 :: 84 :: 90 :: 88 :: 88 :: 90 :: 88 :: 88 :: 88 :: 88 :: 88 :: 88 :: 88 :: 88 :: 90 :: 88 :: 88 :: 88 :: 88 :: 88 :: 88 :: 88 :: 88 :: 88 :: 66 :: 70 :: 70 :: 72 :: 73 :: 66 :: 68 :: 71 :: 70 :: 70 :: 68 :: 71 :: 68 :: 66 :: 66 :: 66 :: 65 :: 65 :: 65 :: 66 :: 66 :: 66 :: 66 :: 66 :: 66 :: 66 :: 67 :: 68 :: 75 :: 66 :: 72 :: 70 :: []).append (73 :: 66 :: 67 :: 67 :: 67 :: 67 :: 67 :: 67 :: 67 :: 67 :: 67 :: 67 :: 67 :: 67 :: 67 :: 67 :: 67 :: 67 :: 67 :: 67 :: 67 :: 67 :: 67 :: 67 :: 68 :: 67 :: 68 :: 73 :: 79 :: 73 :: 74 :: 66 :: 75 :: 65 :: 66 :: 65 :: 66 :: 65 :: 66 :: 66 :: 66 :: 65 :: 67 :: 67 :: 66 :: 66 :: 66 :: 65 :: 66 :: 67 :: 66 :: 65 :: 65 :: 66 :: 67 :: 67 :: 67 :: 67 :: 67 :: 75 :: 71 :: 74 :: 73 :: 88 :: [])).append ((80 :: 82 :: 80 :: 80 :: 82 :: 82 :: 82 :: 83 :: 82 :: 83 :: 83 :: 83 :: 83 :: 83 :: 84 :: 83 :: 84 :: 84 :: 82 :: 83 :: 84 :: 83 :: 83 :: 83 :: 83 :: 81 :: 82 :: 83 :: 82 :: 83 :: 83 :: 84 :: 82 :: 81 :: 80 :: 82 :: 82 :: 83 :: 83 :: 81 :: 83 :: 82 :: 82 :: 84 :: 81 :: 82 :: 83 :: 83 :: 81 :: 81 :: 82 :: 81 :: 83 :: 82 :: 83 :: 83 :: 80 :: 82 :: 82 :: 82 :: 83 :: 82 :: 82 :: 83 :: []).append ((86 :: 86 :: 80 :: 79 :: 82 :: 83 :: 82 :: 85 :: 86 :: 86 :: 86 :: 87 :: 87 :: 86 :: 84 :: 85 :: 79 :: 81 :: 86 :: 87 :: 87 :: 86 :: 87 :: 84 :: 81 :: 81 :: 86 :: 86 :: 88 :: 87 :: 87 :: 87 :: []).append (80 :: 84 :: 80 :: 81 :: 82 :: 81 :: 81 :: 83 :: 82 :: 82 :: 85 :: 85 :: 84 :: 84 :: 86 :: 83 :: 86 :: 87 :: 86 :: 86 :: 87 :: 87 :: 87 :: 87 :: 87 :: 88 :: 87 :: 87 :: 87 :: 87 :: 87 :: 86 :: 90 :: [])))).toArray } : ByteArray) = str at hd ⊢
 unfold aindex
 rw [show Tryd.prog.underlying 9 = some .string from by rfl]
 dsimp only
 have hs : str.size = lenT.length := by rw [show str.size = str.data.size from rfl, hd]; simp
 have hj : s.toNat < lenT.length := by rw [lenT_len]; omega
 rw [if_pos ⟨h0, by rw [hs, lenT_len]; omega⟩, hd]
 congr 4
 simp [Array.getD, List.getD, hj]
theorem csize (s : Int) (h0 : 0 ≤ s) (h1 : s ≤ 256) : AEq Tryd.prog 121 [i64 s] [] (i64 (szI s)) [] := by
 have hb := lenT_bd ⟨s.toNat, by omega⟩
 dsimp only at hb
 have hsz : szI s = ((lenT.getD s.toNat 0).toNat : Int) - 60 := rfl
 rw [hsz]
 have hix := lenT_ix h0 h1
 obtain ⟨x, hx⟩ : ∃ x, lenT.getD s.toNat 0 = x := ⟨_, rfl⟩
 rw [hx] at hb hix ⊢
 simp only [go_sem, seval, ↓reduceIte] at hix
 refine acall_body Tryd.func121 rfl Tryd.ntmps121 (by simp) (fun hsc => ?_); simp only [Lf.enter, Nat.reduceAdd]; clear hsc
 have hU := @hix
 repeat' (first | (guard_target =~ PWp _ _ _ _ _ _ _; first | (refine pwp_seq_k (fun K hK => ?_)) | (refine pwp_rg_then ?_) | (refine pwp_ret ?_)) | (guard_target =~ rg _ _ _ _ _ _ _; first | (guard_target =~ rg _ _ _ [] _ _ _; first | (refine rg_end ?_)) | (refine rg_a rfl (h := ?_)) | (refine rg_v rfl (h := ?_))) | (guard_target =~ (_ ∨ _) ∧ _; first | ((refine end_d [] (by rw [Tryd.results121, Lf.res1]) (ale_1 ?_) ?_) <;> (try (first | exact ale_eq (by with_reducible rfl) | exact ale_full | exact ale_sl (fun _ => rfl) | exact ale_sl (by simp) | exact ale_junk | exact ale_eq rfl | exact stq (by with_reducible rfl) | exact stq (by rfl) | exact stq (by simp (disch := omega) only [go_sem, seval, ↓reduceIte, hU]))))) | (refine hK _ _ ?_; clear hK K))
 all_goals exact ale_i (by omega)
end Go.Proofs.YtohbfcmmpaikhaaDoor

