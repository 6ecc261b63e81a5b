import Derived.Test.YtohbfcmmpaikhaaDoorTy
import Derived.Test.YtohbfcmmpaikhaaDoorLc
import Derived.ScopeJumps
import Derived.Lib.ConvBytes
import Derived.Laws.Strings
set_option linter.unusedVariables false
set_option linter.unusedSimpArgs false
namespace Go.Proofs.YtohbfcmmpaikhaaDoor
open Go Go.Lf Go.Proofs
attribute [local irreducible] Lf.rg Lf.ro Lf.PWp Lf.SOp Lf.ACall Lf.Scoped Lf.dg Lf.dw
set_option maxRecDepth 20000
set_option maxHeartbeats 4000000
theorem clone_b (f q : Bool) (l : List UInt8) (h : l.length ≤ 100000000000000) : AEq Tryd.prog 122 [.sl f q (l.map byteA)] [] (.sl false false (l.map byteA)) [] := by
  refine acall_body Tryd.func122 rfl Tryd.ntmps122 (by simp) (fun hsc => ?_); simp only [Lf.enter, Nat.reduceAdd]; clear hsc
  have hU := True.intro
  repeat' (first | (guard_target =~ PWp _ _ _ _ _ _ _; first | (refine pwp_seq_k (fun K hK => ?_)) | (refine pwp_rg_then ?_) | (refine pwp_ret ?_) | (refine pwp_skip ?_) | ((refine pwp_cond_d (fun hcd => ?_) (fun hcd => ?_)) <;> (try simp only [hcP] at hcd) <;> (try (exfalso; first | omega | exact absurd hcd (by assumption) | exact absurd (by assumption) hcd)))) | (guard_target =~ rg _ _ _ _ _ _ _; first | (guard_target =~ rg _ _ _ [] _ _ _; first | (refine rg_end ?_)) | (refine rg_a rfl (h := ?_)) | (refine rg_v rfl (h := ?_)) | (refine rg_s rfl ?_)) | (guard_target =~ SOp _ _ _ _ _ _; first | (guard_target =~ SOp _ _ ⟨_, .call ⟨.builtin .append, _, _⟩, _, _, _, none⟩ _ _ _; first | (refine n_append_new rfl (he := by first | exact eo4 | exact eo5 | exact eo22 | fail) (hK := ?_))) | (guard_target =~ SOp _ _ ⟨_, .binOp _ _ _ _ _, _, _, _, none⟩ _ _ _; first | (refine n_eqnil (ne := false) rfl (hx := ⟨_, (by (try simp (disch := omega) only [go_sem, seval, ↓reduceIte, hU]) <;> rfl), rfl⟩) (hK := (fun b hb => ?_)))) | (guard_target =~ SOp _ _ ⟨_, .buildSlice _ _ _, _, _, _, none⟩ _ _ _; first | (refine n_lit rfl (he := by first | exact eo4 | exact eo5 | exact eo22 | fail) (hK := ?_)))) | (guard_target =~ (_ ∨ _) ∧ _; first | ((refine end_d [] (by rw [Tryd.results122, Lf.res1]) (ale_1 ?_) ?_) <;> (try (first | exact ale_eq (by with_reducible rfl) | exact ale_full | exact ale_sl (fun _ => rfl) | exact ale_sl (by simp) | exact ale_junk | exact ale_eq rfl | exact stq (by with_reducible rfl) | exact stq (by rfl) | exact stq (by simp (disch := omega) only [go_sem, seval, ↓reduceIte, hU]))))) | (refine hK _ _ ?_; clear hK K))
  · have : l = [] := by
      cases l with
      | nil => rfl
      | cons x l => simp_all
    subst this
    exact ale_sl (by simp)
end Go.Proofs.YtohbfcmmpaikhaaDoor

set_option linter.unusedVariables false
set_option linter.unusedSimpArgs false
namespace Go.Proofs.YtohbfcmmpaikhaaDoor
open Go Go.Lf Go.Proofs
attribute [local irreducible] Lf.rg Lf.ro Lf.PWp Lf.SOp Lf.ACall Lf.Scoped Lf.dg Lf.dw
set_option maxRecDepth 20000
set_option maxHeartbeats 4000000
def bits8 (x : UInt8) : List Int := [(x.toNat : Int) / 128 % 2, (x.toNat : Int) / 64 % 2, (x.toNat : Int) / 32 % 2, (x.toNat : Int) / 16 % 2, (x.toNat : Int) / 8 % 2, (x.toNat : Int) / 4 % 2, (x.toNat : Int) / 2 % 2, (x.toNat : Int) / 1 % 2]
def bitsL (b : List UInt8) : List Int := b.flatMap bits8
theorem bitsL_len (b : List UInt8) : (bitsL b).length = 8 * b.length := by
  induction b with
  | nil => rfl
  | cons x b ih => simp only [bitsL, List.flatMap_cons, List.length_append] at ih ⊢; rw [ih]; simp [bits8]; omega
theorem bitsL_get (b : List UInt8) (a : Nat) (x : UInt8) (h : b[a / 8]? = some x) : (bitsL b)[a]? = (bits8 x)[a % 8]? := by
  induction b generalizing a with
  | nil => simp at h
  | cons y b ih =>
    have e : bitsL (y :: b) = bits8 y ++ bitsL b := rfl
    rw [e]
    by_cases ha : a < 8
    · rw [List.getElem?_append_left (by simpa [bits8] using ha), Nat.mod_eq_of_lt ha]
      rw [Nat.div_eq_of_lt ha] at h
      simp at h
      rw [h]
    · rw [List.getElem?_append_right (by simp [bits8]; omega)]
      have h8 : (bits8 y).length = 8 := rfl
      rw [h8]
      have hd : a / 8 = (a - 8) / 8 + 1 := by omega
      rw [hd] at h
      simp only [List.getElem?_cons_succ] at h
      rw [ih (a - 8) h]
      congr 1; omega
theorem bits01 (b : List UInt8) : ∀ x ∈ bitsL b, x = 0 ∨ x = 1 := by
  intro x hx
  rw [bitsL, List.mem_flatMap] at hx
  obtain ⟨y, _, hx⟩ := hx
  simp only [bits8, List.mem_cons, List.not_mem_nil, or_false] at hx
  omega
def numBits (l : List Int) : Int := l.foldl (fun v x => 2 * v + x) 0
theorem and1 (n : Nat) (h : n < 256) : iand .u8 (n : Int) 1 = (n : Int) % 2 := by
  show IntKind.u8.wrap ((BitVec.ofInt 8 (n : Int) &&& BitVec.ofInt 8 1).toNat : Int) = _
  have e : BitVec.ofInt 8 (n : Int) = BitVec.ofNat 8 n := rfl
  have e1 : BitVec.ofInt 8 1 = BitVec.ofNat 8 1 := rfl
  rw [e, e1, BitVec.toNat_and, BitVec.toNat_ofNat, BitVec.toNat_ofNat, Nat.mod_eq_of_lt h, show 1 % 2 ^ 8 = 1 from rfl, Nat.and_one_is_mod]
  have := wu8 (n := ((n % 2 : Nat) : Int)) (by omega)
  rw [this]; simp
theorem bit_val (b : List UInt8) (a : Int) (x : UInt8) (h0 : 0 ≤ a) (hx : b[(a / 8).toNat]? = some x) : IntKind.i64.wrap (iand IntKind.u8 (((x.toNat : Int)).fdiv (2 ^ (7 - a % 8).toNat)) 1) = (bitsL b).getD a.toNat 0 := by
  have hl := x.toNat_lt
  have e : (a / 8).toNat = a.toNat / 8 := by omega
  rw [e] at hx
  rw [List.getD_eq_getElem?_getD, bitsL_get b a.toNat x hx]
  have key : ∀ k : Nat, k < 8 → IntKind.i64.wrap (iand IntKind.u8 (((x.toNat : Int)).fdiv (2 ^ (7 - k))) 1) = ((bits8 x)[k]?).getD 0 := by
    intro k hk
    have hp : ((x.toNat : Int)).fdiv (2 ^ (7 - k)) = ((x.toNat / 2 ^ (7 - k) : Nat) : Int) := by
      rw [Int.fdiv_eq_ediv_of_nonneg _ (Int.le_of_lt (Int.pow_pos (by decide)))]
      simp
    have hq : x.toNat / 2 ^ (7 - k) < 256 := Nat.lt_of_le_of_lt (Nat.div_le_self _ _) hl
    rw [hp, and1 _ hq, w64 (by omega)]
    rcases (show k = 0 ∨ k = 1 ∨ k = 2 ∨ k = 3 ∨ k = 4 ∨ k = 5 ∨ k = 6 ∨ k = 7 by omega) with rfl | rfl | rfl | rfl | rfl | rfl | rfl | rfl <;> simp [bits8]
  have := key (a.toNat % 8) (by omega)
  rw [show (7 - a % 8).toNat = 7 - a.toNat % 8 from by omega]
  exact this
theorem br_of (f q : Bool) (l : List UInt8) (h : l.length ≤ 100000000000000) : AEq Tryd.prog 96 [.sl f q (l.map byteA)] [] (.ptr 0 0) [.box [.sl false false (l.map byteA), i64 0]] := by
  refine acall_body Tryd.func96 rfl Tryd.ntmps96 (by simp) (fun hsc => ?_); simp only [Lf.enter, Nat.reduceAdd]; clear hsc
  have hU := True.intro
  repeat' (first | (guard_target =~ PWp _ _ _ _ _ _ _; first | (refine pwp_seq_k (fun K hK => ?_)) | (refine pwp_rg_then ?_) | (refine pwp_ret ?_)) | (guard_target =~ rg _ _ _ _ _ _ _; first | (guard_target =~ rg _ _ _ [] _ _ _; first | (refine rg_end ?_)) | (refine rg_a rfl (h := ?_)) | (refine rg_v rfl (h := ?_)) | (refine rg_s rfl ?_)) | (guard_target =~ SOp _ _ _ _ _ _; first | (guard_target =~ SOp _ _ ⟨_, .box _ _, _, _, _, none⟩ _ _ _; first | (refine n_box rfl (hK := ?_))) | (guard_target =~ SOp _ _ ⟨_, .call ⟨.value (.func 122), _, _⟩, _, _, _, none⟩ _ _ _; first | (refine n_call (f := 122) rfl Tryd.call122 (h := AEq.pure' (by first | ((repeat' (first | exact trivial | (first | exact arg_lit | exact arg_sl id id | exact arg_nil | exact arg_sl (by simp) id | exact arg_sl (by simp) (fun _ => rfl) | exact arg_row_m (by rfl) (by rfl) (fun _ => rfl) | exact arg_vw_m (by rfl) (by rfl) (fun _ => rfl) | exact arg_rn (by rfl) (by rfl) | exact arg_junk | exact arg_row_mm (by rfl) (by rfl) (fun _ => rfl)) | refine ⟨?_, ?_⟩)); done) | fail) (clone_b _ _ _ (by assumption)) (hq := ?_)))) | (guard_target =~ SOp _ _ ⟨_, .build _ _, _, _, _, none⟩ _ _ _; first | (refine n_build rfl (by first | exact bd173 | fail) (hK := ?_)))) | (guard_target =~ (_ ∨ _) ∧ _; first | ((refine end_d [0] (by rw [Tryd.results96, Lf.res1]) (ale_1 ?_) ?_) <;> (try (first | exact ale_eq (by with_reducible rfl) | exact ale_full | exact ale_sl (fun _ => rfl) | exact ale_sl (by simp) | exact ale_junk | exact ale_eq rfl | exact stq (by with_reducible rfl) | exact stq (by rfl) | exact stq (by simp (disch := omega) only [go_sem, seval, ↓reduceIte, hU]))))) | (refine hK _ _ ?_; clear hK K))
theorem br_left (f : Bool) (b : List UInt8) (a : Int) (h0 : 0 ≤ a) (h1 : a ≤ 8 * b.length) (hb : b.length ≤ 100000000000000) : AEq Tryd.prog 123 [.ptr 0 0] [.box [.sl f false (b.map byteA), i64 a]] (i64 (8 * b.length - a)) [.box [.sl f false (b.map byteA), i64 a]] := by
  refine acall_body Tryd.func123 rfl Tryd.ntmps123 (by simp) (fun hsc => ?_); simp only [Lf.enter, Nat.reduceAdd]; clear hsc
  have hU := True.intro
  repeat' (first | (guard_target =~ PWp _ _ _ _ _ _ _; first | (refine pwp_seq_k (fun K hK => ?_)) | (refine pwp_rg_then ?_) | (refine pwp_draw mixed (by kernel_rfl) ?_) | (refine pwp_ret ?_) | (refine pwp_skip ?_) | ((refine pwp_cond_d (fun hcd => ?_) (fun hcd => ?_)) <;> (try simp only [hcP] at hcd) <;> (try (exfalso; first | omega | exact absurd hcd (by assumption) | exact absurd (by assumption) hcd)))) | (guard_target =~ rg _ _ _ _ _ _ _; first | (guard_target =~ rg _ _ _ [] _ _ _; first | (refine rg_end ?_)) | (refine rg_a rfl (h := ?_)) | (refine rg_v rfl (h := ?_))) | (guard_target =~ dg _ _ _ _ _ _ _; first | (guard_target =~ dg _ _ _ (⟨_, .assign _, _, _, _, none⟩ :: _) _ _ _; first | (refine dg_a rfl (hk := ?_))) | (guard_target =~ dg _ _ _ (⟨_, .binOp _ _ _ _ _, _, _, _, none⟩ :: _) _ _ _; first | (refine dg_v rfl (hk := ?_))) | (guard_target =~ dg _ _ _ (⟨_, .move _, _, _, _, none⟩ :: _) _ _ _; first | (refine dg_v rfl (hk := ?_))) | (guard_target =~ dg _ _ _ (⟨_, .nilCheck _, _, _, _, none⟩ :: _) _ _ _; first | (refine dg_v rfl (hk := ?_))) | (guard_target =~ dg _ _ _ (⟨_, .fieldAddr _ _ _, _, _, _, none⟩ :: _) _ _ _; first | (refine dg_v rfl (hk := ?_))) | (guard_target =~ dg _ _ _ (⟨_, .load _ _, _, _, _, none⟩ :: _) _ _ _; first | (refine dg_v rfl (hk := ?_))) | (guard_target =~ dg _ _ _ (⟨_, .call ⟨.builtin .len, _, _⟩, _, _, _, none⟩ :: _) _ _ _; first | (refine dg_v rfl (hk := ?_))) | (guard_target =~ dg _ _ _ [] _ _ _; first | (refine dg_nil ?_))) | (guard_target =~ (_ ∨ _) ∧ _; first | ((refine end_d [0] (by rw [Tryd.results123, Lf.res1]) (ale_1 ?_) ?_) <;> (try (first | exact ale_eq (by with_reducible rfl) | exact ale_full | exact ale_sl (fun _ => rfl) | exact ale_sl (by simp) | exact ale_junk | exact ale_eq rfl | exact stq (by with_reducible rfl) | exact stq (by rfl) | exact stq (by simp (disch := omega) only [go_sem, seval, ↓reduceIte, hU]))))) | (refine hK _ _ ?_; clear hK K))
theorem br_bit_no (f : Bool) (b : List UInt8) (a : Int) (h0 : 0 ≤ a) (h1 : a = 8 * b.length) (hb : b.length ≤ 100000000000000) : AEq Tryd.prog 97 [.ptr 0 0] [.box [.sl f false (b.map byteA), i64 a]] (.tu [i64 0, bl false]) [.box [.sl f false (b.map byteA), i64 a]] := by
  refine acall_body Tryd.func97 rfl Tryd.ntmps97 (by simp) (fun hsc => ?_); simp only [Lf.enter, Nat.reduceAdd]; clear hsc
  have hU := True.intro
  repeat' (first | (guard_target =~ PWp _ _ _ _ _ _ _; first | (refine pwp_seq_k (fun K hK => ?_)) | (refine pwp_rg_then ?_) | (refine pwp_ret ?_) | ((refine pwp_cond_d (fun hcd => ?_) (fun hcd => ?_)) <;> (try simp only [hcP] at hcd) <;> (try (exfalso; first | omega | exact absurd hcd (by assumption) | exact absurd (by assumption) hcd)))) | (guard_target =~ rg _ _ _ _ _ _ _; first | (guard_target =~ rg _ _ _ [] _ _ _; first | (refine rg_end ?_)) | (refine rg_a rfl (h := ?_)) | (refine rg_v rfl (h := ?_)) | (refine rg_s rfl ?_)) | (guard_target =~ SOp _ _ _ _ _ _; first | (guard_target =~ SOp _ _ ⟨_, .call ⟨.value (.func 123), _, _⟩, _, _, _, none⟩ _ _ _; first | (refine n_call (f := 123) rfl Tryd.call123 (h := AEq.sub' [_] (hc := br_left _ _ _ (by first | assumption | omega) (by first | assumption | omega) (by first | assumption | omega)) (hq := ?_))))) | (guard_target =~ (_ ∨ _) ∧ _; first | ((refine end_d [0] (by rw [Tryd.results97, Lf.res2]) (ale_2 ?_ ?_) ?_) <;> (try (first | exact ale_eq (by with_reducible rfl) | exact ale_full | exact ale_sl (fun _ => rfl) | exact ale_sl (by simp) | exact ale_junk | exact ale_eq rfl | exact stq (by with_reducible rfl) | exact stq (by rfl) | exact stq (by simp (disch := omega) only [go_sem, seval, ↓reduceIte, hU]))))) | (refine hK _ _ ?_; clear hK K))
theorem br_bit (f : Bool) (b : List UInt8) (a : Int) (h0 : 0 ≤ a) (h1 : a < 8 * b.length) (hb : b.length ≤ 100000000000000) : AEq Tryd.prog 97 [.ptr 0 0] [.box [.sl f false (b.map byteA), i64 a]] (.tu [i64 ((bitsL b).getD a.toNat 0), bl true]) [.box [.sl f false (b.map byteA), i64 (a + 1)]] := by
  obtain ⟨x, hx⟩ : ∃ x, b[(a / 8).toNat]? = some x := ⟨b[(a / 8).toNat], List.getElem?_eq_getElem (by omega)⟩
  have hv := bit_val b a x h0 hx
  refine acall_body Tryd.func97 rfl Tryd.ntmps97 (by simp) (fun hsc => ?_); simp only [Lf.enter, Nat.reduceAdd]; clear hsc
  have hU := True.intro
  repeat' (first | (guard_target =~ PWp _ _ _ _ _ _ _; first | (refine pwp_seq_k (fun K hK => ?_)) | (refine pwp_rg_then ?_) | (refine pwp_draw mixed (by kernel_rfl) ?_) | (refine pwp_ret ?_) | (refine pwp_skip ?_) | ((refine pwp_cond_d (fun hcd => ?_) (fun hcd => ?_)) <;> (try simp only [hcP] at hcd) <;> (try (exfalso; first | omega | exact absurd hcd (by assumption) | exact absurd (by assumption) hcd)))) | (guard_target =~ rg _ _ _ _ _ _ _; first | (guard_target =~ rg _ _ _ [] _ _ _; first | (refine rg_end ?_)) | (refine rg_a rfl (h := ?_)) | (refine rg_v rfl (h := ?_)) | (refine rg_s rfl ?_) | (refine rg_n rfl ?_)) | (guard_target =~ SOp _ _ _ _ _ _; first | (guard_target =~ SOp _ _ ⟨_, .call ⟨.value (.func 123), _, _⟩, _, _, _, none⟩ _ _ _; first | (refine n_call (f := 123) rfl Tryd.call123 (h := AEq.sub' [_] (hc := br_left _ _ _ (by first | assumption | omega) (by first | assumption | omega) (by first | assumption | omega)) (hq := ?_)))) | (guard_target =~ SOp _ _ ⟨_, .store _ _ _, _, _, _, none⟩ _ _ _; first | (refine n_store rfl (hK := ?_)))) | (guard_target =~ dg _ _ _ _ _ _ _; first | (guard_target =~ dg _ _ _ (⟨_, .assign _, _, _, _, none⟩ :: _) _ _ _; first | (refine dg_a rfl (hk := ?_))) | (guard_target =~ dg _ _ _ (⟨_, .binOp _ _ _ _ _, _, _, _, none⟩ :: _) _ _ _; first | (refine dg_v rfl (hk := ?_))) | (guard_target =~ dg _ _ _ (⟨_, .move _, _, _, _, none⟩ :: _) _ _ _; first | (refine dg_v rfl (hk := ?_))) | (guard_target =~ dg _ _ _ (⟨_, .nilCheck _, _, _, _, none⟩ :: _) _ _ _; first | (refine dg_v rfl (hk := ?_))) | (guard_target =~ dg _ _ _ (⟨_, .fieldAddr _ _ _, _, _, _, none⟩ :: _) _ _ _; first | (refine dg_v rfl (hk := ?_))) | (guard_target =~ dg _ _ _ (⟨_, .load _ _, _, _, _, none⟩ :: _) _ _ _; first | (refine dg_v rfl (hk := ?_))) | (guard_target =~ dg _ _ _ (⟨_, .convert _ _ _, _, _, _, none⟩ :: _) _ _ _; first | (refine dg_v rfl (hk := ?_))) | (guard_target =~ dg _ _ _ (⟨_, .indexAddr _ _ _, _, _, _, none⟩ :: _) _ _ _; first | (refine dg_c (x := _) (h := ro_s (h := n_index rfl (hK := ro_end ⟨rfl, rfl⟩))) (hk := ?_))) | (guard_target =~ dg _ _ _ [] _ _ _; first | (refine dg_nil ?_))) | (guard_target =~ (_ ∨ _) ∧ _; first | ((refine end_d [0] (by rw [Tryd.results97, Lf.res2]) (ale_2 ?_ ?_) ?_) <;> (try (first | exact ale_eq (by with_reducible rfl) | exact ale_full | exact ale_sl (fun _ => rfl) | exact ale_sl (by simp) | exact ale_junk | exact ale_eq rfl | exact stq (by with_reducible rfl) | exact stq (by rfl) | exact stq (by simp (disch := omega) only [go_sem, seval, ↓reduceIte, hU]))))) | (refine hK _ _ ?_; clear hK K))
  exact ale_i hv
end Go.Proofs.YtohbfcmmpaikhaaDoor

set_option linter.unusedVariables false
set_option linter.unusedSimpArgs false
namespace Go.Proofs.YtohbfcmmpaikhaaDoor
open Go Go.Lf Go.Proofs
attribute [local irreducible] Lf.rg Lf.ro Lf.PWp Lf.SOp Lf.ACall Lf.Scoped Lf.dg Lf.dw
set_option maxRecDepth 20000
set_option maxHeartbeats 4000000
def clrB (y : UInt8) (j : Nat) : UInt8 := UInt8.ofNat (iandn .u8 (y.toNat : Int) (128 / 2 ^ j)).toNat
def pushB (bs : List UInt8) (k : Nat) (x : Int) : List UInt8 :=
  if x = 0 then (if k % 8 = 0 then bs ++ [255] else bs).set (k / 8) (clrB ((if k % 8 = 0 then bs ++ [255] else bs).getD (k / 8) 0) (k % 8)) else (if k % 8 = 0 then bs ++ [255] else bs)
def rowP (L : List Int) : List UInt8 × Nat := L.foldl (fun p x => (pushB p.1 p.2 x, p.2 + 1)) ([], 0)
def rowB (L : List Int) : List UInt8 := (rowP L).1
def msb (v : Int) : Nat → List Int
  | 0 => []
  | m + 1 => (v / 2 ^ m % 2) :: msb v m
def rpE (v n : Int) : Int := if n < 0 ∨ 32 < n then 1 else if v < 0 ∨ 2 ^ n.toNat ≤ v then 5 else 0
def rpL (L : List Int) (v n : Int) : List Int := if rpE v n = 0 then L ++ msb v n.toNat else L
end Go.Proofs.YtohbfcmmpaikhaaDoor

set_option linter.unusedVariables false
set_option linter.unusedSimpArgs false
namespace Go.Proofs.YtohbfcmmpaikhaaDoor
open Go Go.Lf Go.Proofs
attribute [local irreducible] Lf.rg Lf.ro Lf.PWp Lf.SOp Lf.ACall Lf.Scoped Lf.dg Lf.dw
set_option maxRecDepth 20000
set_option maxHeartbeats 4000000
theorem or_bit (v x : Int) (h0 : 0 ≤ v) (h1 : v ≤ 4294967296) (hx : x = 0 ∨ x = 1) : ior .i64 (v * 2) x = 2 * v + x := by
  obtain ⟨k, rfl⟩ := Int.eq_ofNat_of_zero_le h0
  have key : ((k : Int) * (2 : Int)) = ((k <<< 1 : Nat) : Int) := by rw [Nat.shiftLeft_eq]; omega
  rw [show (k : Int) * (2 : Int) = ((k <<< 1 : Nat) : Int) from key]
  have hk : k <<< 1 < 2 ^ 64 := by rw [Nat.shiftLeft_eq]; omega
  show IntKind.i64.wrap ((BitVec.ofInt 64 ((k <<< 1 : Nat) : Int) ||| BitVec.ofInt 64 x).toNat : Int) = _
  have e : BitVec.ofInt 64 ((k <<< 1 : Nat) : Int) = BitVec.ofNat 64 (k <<< 1) := rfl
  rcases hx with rfl | rfl
  · rw [show BitVec.ofInt 64 0 = BitVec.ofNat 64 0 from rfl, e, BitVec.toNat_or, BitVec.toNat_ofNat, BitVec.toNat_ofNat, Nat.mod_eq_of_lt hk]
    simp only [Nat.zero_mod, Nat.or_zero]
    rw [w64 (by rw [Nat.shiftLeft_eq]; omega), Nat.shiftLeft_eq]; omega
  · rw [show BitVec.ofInt 64 1 = BitVec.ofNat 64 1 from rfl, e, BitVec.toNat_or, BitVec.toNat_ofNat, BitVec.toNat_ofNat, Nat.mod_eq_of_lt hk]
    have h2 : k <<< 1 ||| 1 % 2 ^ 64 = k <<< 1 + 1 := Nat.shiftLeft_add_eq_or_of_lt (b := 1) (i := 1) (by decide) k ▸ rfl
    rw [h2, w64 (by rw [Nat.shiftLeft_eq]; omega), Nat.shiftLeft_eq]; omega
def chunk (L : List Int) (c : Nat) : List Int := (List.range 8).map fun j => L.getD (8 * c + j) 1
def packL (L : List Int) : List UInt8 := (List.range ((L.length + 7) / 8)).map fun c => UInt8.ofNat (numBits (chunk L c)).toNat
end Go.Proofs.YtohbfcmmpaikhaaDoor

set_option linter.unusedVariables false
set_option linter.unusedSimpArgs false
namespace Go.Proofs.YtohbfcmmpaikhaaDoor
open Go Go.Lf Go.Proofs
attribute [local irreducible] Lf.rg Lf.ro Lf.PWp Lf.SOp Lf.ACall Lf.Scoped Lf.dg Lf.dw
set_option maxRecDepth 20000
set_option maxHeartbeats 4000000
end Go.Proofs.YtohbfcmmpaikhaaDoor

set_option linter.unusedVariables false
set_option linter.unusedSimpArgs false
namespace Go.Lf
open Go
end Go.Lf
namespace Go.Proofs.YtohbfcmmpaikhaaDoor
open Go Go.Lf Go.Proofs
attribute [local irreducible] Lf.rg Lf.ro Lf.PWp Lf.SOp Lf.ACall Lf.Scoped Lf.dg Lf.dw
set_option maxRecDepth 20000
set_option maxHeartbeats 4000000
def lenT : List UInt8 := [73, 83, 88, 88, 88, 88, 88, 88, 88, 84, 90, 88, 88, 90, 88, 88, 88, 88, 88, 88, 88, 88, 90, 88, 88, 88, 88, 88, 88, 88, 88, 88, 66, 70, 70, 72, 73, 66, 68, 71, 70, 70, 68, 71, 68, 66, 66, 66, 65, 65, 65, 66, 66, 66, 66, 66, 66, 66, 67, 68, 75, 66, 72, 70, 73, 66, 67, 67, 67, 67, 67, 67, 67, 67, 67, 67, 67, 67, 67, 67, 67, 67, 67, 67, 67, 67, 67, 67, 68, 67, 68, 73, 79, 73, 74, 66, 75, 65, 66, 65, 66, 65, 66, 66, 66, 65, 67, 67, 66, 66, 66, 65, 66, 67, 66, 65, 65, 66, 67, 67, 67, 67, 67, 75, 71, 74, 73, 88, 80, 82, 80, 80, 82, 82, 82, 83, 82, 83, 83, 83, 83, 83, 84, 83, 84, 84, 82, 83, 84, 83, 83, 83, 83, 81, 82, 83, 82, 83, 83, 84, 82, 81, 80, 82, 82, 83, 83, 81, 83, 82, 82, 84, 81, 82, 83, 83, 81, 81, 82, 81, 83, 82, 83, 83, 80, 82, 82, 82, 83, 82, 82, 83, 86, 86, 80, 79, 82, 83, 82, 85, 86, 86, 86, 87, 87, 86, 84, 85, 79, 81, 86, 87, 87, 86, 87, 84, 81, 81, 86, 86, 88, 87, 87, 87, 80, 84, 80, 81, 82, 81, 81, 83, 82, 82, 85, 85, 84, 84, 86, 83, 86, 87, 86, 86, 87, 87, 87, 87, 87, 88, 87, 87, 87, 87, 87, 86, 90]
theorem lenT_len : lenT.length = 257 := by decide +kernel
theorem lenT_bd : ∀ i : Fin 257, 65 ≤ (lenT.getD i.val 0).toNat ∧ (lenT.getD i.val 0).toNat ≤ 90 := by decide +kernel
def szI (s : Int) : Int := ((lenT.getD s.toNat 0).toNat : Int) - 60
theorem szI_bd {s : Int} (h0 : 0 ≤ s) (h1 : s ≤ 256) : 5 ≤ szI s ∧ szI s ≤ 30 := by
  have := lenT_bd ⟨s.toNat, by omega⟩
  unfold szI
  dsimp only at this
  omega
theorem lenT_ix {s : Int} (h0 : 0 ≤ s) (h1 : s ≤ 256) : aindex Tryd.prog 9 (.lit (.string ({ data := (((73 :: 83 :: 88 :: 88 :: 88 :: 88 :: 88 :: 88 :: 88 :: 84 :: 90 :: 88 :: 88 :: 90 :: 88 :: 88 :: 88 :: 88 :: 88 :: 88 :: 88 :: 88 :: 90 :: 88 :: 88 :: 88 :: 88 :: 88 :: 88 :: 88 :: 88 :: 88 :: 66 :: 70 :: 70 :: 72 :: 73 :: 66 :: 68 :: 71 :: 70 :: 70 :: 68 :: 71 :: 68 :: 66 :: 66 :: 66 :: 65 :: 65 :: 65 :: 66 :: 66 :: 66 :: 66 :: 66 :: 66 :: 66 :: 67 :: 68 :: 75 :: 66 :: 72 :: 70 :: []).append (73 :: 66 :: 67 :: 67 :: 67 :: 67 :: 67 :: 67 :: 67 :: 67 :: 67 :: 67 :: 67 :: 67 :: 67 :: 67 :: 67 :: 67 :: 67 :: 67 :: 67 :: 67 :: 67 :: 67 :: 68 :: 67 :: 68 :: 73 :: 79 :: 73 :: 74 :: 66 :: 75 :: 65 :: 66 :: 65 :: 66 :: 65 :: 66 :: 66 :: 66 :: 65 :: 67 :: 67 :: 66 :: 66 :: 66 :: 65 :: 66 :: 67 :: 66 :: 65 :: 65 :: 66 :: 67 :: 67 :: 67 :: 67 :: 67 :: 75 :: 71 :: 74 :: 73 :: 88 :: [])).append ((80 :: 82 :: 80 :: 80 :: 82 :: 82 :: 82 :: 83 :: 82 :: 83 :: 83 :: 83 :: 83 :: 83 :: 84 :: 83 :: 84 :: 84 :: 82 :: 83 :: 84 :: 83 :: 83 :: 83 :: 83 :: 81 :: 82 :: 83 :: 82 :: 83 :: 83 :: 84 :: 82 :: 81 :: 80 :: 82 :: 82 :: 83 :: 83 :: 81 :: 83 :: 82 :: 82 :: 84 :: 81 :: 82 :: 83 :: 83 :: 81 :: 81 :: 82 :: 81 :: 83 :: 82 :: 83 :: 83 :: 80 :: 82 :: 82 :: 82 :: 83 :: 82 :: 82 :: 83 :: []).append ((86 :: 86 :: 80 :: 79 :: 82 :: 83 :: 82 :: 85 :: 86 :: 86 :: 86 :: 87 :: 87 :: 86 :: 84 :: 85 :: 79 :: 81 :: 86 :: 87 :: 87 :: 86 :: 87 :: 84 :: 81 :: 81 :: 86 :: 86 :: 88 :: 87 :: 87 :: 87 :: []).append (80 :: 84 :: 80 :: 81 :: 82 :: 81 :: 81 :: 83 :: 82 :: 82 :: 85 :: 85 :: 84 :: 84 :: 86 :: 83 :: 86 :: 87 :: 86 :: 86 :: 87 :: 87 :: 87 :: 87 :: 87 :: 88 :: 87 :: 87 :: 87 :: 87 :: 87 :: 86 :: 90 :: [])))).toArray }))) (.lit (.int .i64 s)) = some (.lit (.int .u8 ((lenT.getD s.toNat 0).toNat : Nat))) := by
  have hd : ({ data := (((73 :: 83 :: 88 :: 88 :: 88 :: 88 :: 88 :: 88 :: 88 :: 84 :: 90 :: 88 :: 88 :: 90 :: 88 :: 88 :: 88 :: 88 :: 88 :: 88 :: 88 :: 88 :: 90 :: 88 :: 88 :: 88 :: 88 :: 88 :: 88 :: 88 :: 88 :: 88 :: 66 :: 70 :: 70 :: 72 :: 73 :: 66 :: 68 :: 71 :: 70 :: 70 :: 68 :: 71 :: 68 :: 66 :: 66 :: 66 :: 65 :: 65 :: 65 :: 66 :: 66 :: 66 :: 66 :: 66 :: 66 :: 66 :: 67 :: 68 :: 75 :: 66 :: 72 :: 70 :: []).append (73 :: 66 :: 67 :: 67 :: 67 :: 67 :: 67 :: 67 :: 67 :: 67 :: 67 :: 67 :: 67 :: 67 :: 67 :: 67 :: 67 :: 67 :: 67 :: 67 :: 67 :: 67 :: 67 :: 67 :: 68 :: 67 :: 68 :: 73 :: 79 :: 73 :: 74 :: 66 :: 75 :: 65 :: 66 :: 65 :: 66 :: 65 :: 66 :: 66 :: 66 :: 65 :: 67 :: 67 :: 66 :: 66 :: 66 :: 65 :: 66 :: 67 :: 66 :: 65 :: 65 :: 66 :: 67 :: 67 :: 67 :: 67 :: 67 :: 75 :: 71 :: 74 :: 73 :: 88 :: [])).append ((80 :: 82 :: 80 :: 80 :: 82 :: 82 :: 82 :: 83 :: 82 :: 83 :: 83 :: 83 :: 83 :: 83 :: 84 :: 83 :: 84 :: 84 :: 82 :: 83 :: 84 :: 83 :: 83 :: 83 :: 83 :: 81 :: 82 :: 83 :: 82 :: 83 :: 83 :: 84 :: 82 :: 81 :: 80 :: 82 :: 82 :: 83 :: 83 :: 81 :: 83 :: 82 :: 82 :: 84 :: 81 :: 82 :: 83 :: 83 :: 81 :: 81 :: 82 :: 81 :: 83 :: 82 :: 83 :: 83 :: 80 :: 82 :: 82 :: 82 :: 83 :: 82 :: 82 :: 83 :: []).append ((86 :: 86 :: 80 :: 79 :: 82 :: 83 :: 82 :: 85 :: 86 :: 86 :: 86 :: 87 :: 87 :: 86 :: 84 :: 85 :: 79 :: 81 :: 86 :: 87 :: 87 :: 86 :: 87 :: 84 :: 81 :: 81 :: 86 :: 86 :: 88 :: 87 :: 87 :: 87 :: []).append (80 :: 84 :: 80 :: 81 :: 82 :: 81 :: 81 :: 83 :: 82 :: 82 :: 85 :: 85 :: 84 :: 84 :: 86 :: 83 :: 86 :: 87 :: 86 :: 86 :: 87 :: 87 :: 87 :: 87 :: 87 :: 88 :: 87 :: 87 :: 87 :: 87 :: 87 :: 86 :: 90 :: [])))).toArray } : ByteArray).data = lenT.toArray := by kernel_rfl
  generalize ({ data := (((73 :: 83 :: 88 :: 88 :: 88 :: 88 :: 88 :: 88 :: 88 :: 84 :: 90 :: 88 :: 88 :: 90 :: 88 :: 88 :: 88 :: 88 :: 88 :: 88 :: 88 :: 88 :: 90 :: 88 :: 88 :: 88 :: 88 :: 88 :: 88 :: 88 :: 88 :: 88 :: 66 :: 70 :: 70 :: 72 :: 73 :: 66 :: 68 :: 71 :: 70 :: 70 :: 68 :: 71 :: 68 :: 66 :: 66 :: 66 :: 65 :: 65 :: 65 :: 66 :: 66 :: 66 :: 66 :: 66 :: 66 :: 66 :: 67 :: 68 :: 75 :: 66 :: 72 :: 70 :: []).append (73 :: 66 :: 67 :: 67 :: 67 :: 67 :: 67 :: 67 :: 67 :: 67 :: 67 :: 67 :: 67 :: 67 :: 67 :: 67 :: 67 :: 67 :: 67 :: 67 :: 67 :: 67 :: 67 :: 67 :: 68 :: 67 :: 68 :: 73 :: 79 :: 73 :: 74 :: 66 :: 75 :: 65 :: 66 :: 65 :: 66 :: 65 :: 66 :: 66 :: 66 :: 65 :: 67 :: 67 :: 66 :: 66 :: 66 :: 65 :: 66 :: 67 :: 66 :: 65 :: 65 :: 66 :: 67 :: 67 :: 67 :: 67 :: 67 :: 75 :: 71 :: 74 :: 73 :: 88 :: [])).append ((80 :: 82 :: 80 :: 80 :: 82 :: 82 :: 82 :: 83 :: 82 :: 83 :: 83 :: 83 :: 83 :: 83 :: 84 :: 83 :: 84 :: 84 :: 82 :: 83 :: 84 :: 83 :: 83 :: 83 :: 83 :: 81 :: 82 :: 83 :: 82 :: 83 :: 83 :: 84 :: 82 :: 81 :: 80 :: 82 :: 82 :: 83 :: 83 :: 81 :: 83 :: 82 :: 82 :: 84 :: 81 :: 82 :: 83 :: 83 :: 81 :: 81 :: 82 :: 81 :: 83 :: 82 :: 83 :: 83 :: 80 :: 82 :: 82 :: 82 :: 83 :: 82 :: 82 :: 83 :: []).append ((86 :: 86 :: 80 :: 79 :: 82 :: 83 :: 82 :: 85 :: 86 :: 86 :: 86 :: 87 :: 87 :: 86 :: 84 :: 85 :: 79 :: 81 :: 86 :: 87 :: 87 :: 86 :: 87 :: 84 :: 81 :: 81 :: 86 :: 86 :: 88 :: 87 :: 87 :: 87 :: []).append (80 :: 84 :: 80 :: 81 :: 82 :: 81 :: 81 :: 83 :: 82 :: 82 :: 85 :: 85 :: 84 :: 84 :: 86 :: 83 :: 86 :: 87 :: 86 :: 86 :: 87 :: 87 :: 87 :: 87 :: 87 :: 88 :: 87 :: 87 :: 87 :: 87 :: 87 :: 86 :: 90 :: [])))).toArray } : ByteArray) = str at hd ⊢
  unfold aindex
  rw [show Tryd.prog.underlying 9 = some .string from by rfl]
  dsimp only
  have hs : str.size = lenT.length := by rw [show str.size = str.data.size from rfl, hd]; simp
  have hj : s.toNat < lenT.length := by rw [lenT_len]; omega
  rw [if_pos ⟨h0, by rw [hs, lenT_len]; omega⟩, hd]
  congr 4
  simp [Array.getD, List.getD, hj]
theorem csize (s : Int) (h0 : 0 ≤ s) (h1 : s ≤ 256) : AEq Tryd.prog 121 [i64 s] [] (i64 (szI s)) [] := by
  have hb := lenT_bd ⟨s.toNat, by omega⟩
  dsimp only at hb
  have hsz : szI s = ((lenT.getD s.toNat 0).toNat : Int) - 60 := rfl
  rw [hsz]
  have hix := lenT_ix h0 h1
  obtain ⟨x, hx⟩ : ∃ x, lenT.getD s.toNat 0 = x := ⟨_, rfl⟩
  rw [hx] at hb hix ⊢
  simp only [go_sem, seval, ↓reduceIte] at hix
  refine acall_body Tryd.func121 rfl Tryd.ntmps121 (by simp) (fun hsc => ?_); simp only [Lf.enter, Nat.reduceAdd]; clear hsc
  have hU := @hix
  repeat' (first | (guard_target =~ PWp _ _ _ _ _ _ _; first | (refine pwp_seq_k (fun K hK => ?_)) | (refine pwp_rg_then ?_) | (refine pwp_ret ?_)) | (guard_target =~ rg _ _ _ _ _ _ _; first | (guard_target =~ rg _ _ _ [] _ _ _; first | (refine rg_end ?_)) | (refine rg_a rfl (h := ?_)) | (refine rg_v rfl (h := ?_))) | (guard_target =~ (_ ∨ _) ∧ _; first | ((refine end_d [] (by rw [Tryd.results121, Lf.res1]) (ale_1 ?_) ?_) <;> (try (first | exact ale_eq (by with_reducible rfl) | exact ale_full | exact ale_sl (fun _ => rfl) | exact ale_sl (by simp) | exact ale_junk | exact ale_eq rfl | exact stq (by with_reducible rfl) | exact stq (by rfl) | exact stq (by simp (disch := omega) only [go_sem, seval, ↓reduceIte, hU]))))) | (refine hK _ _ ?_; clear hK K))
  all_goals exact ale_i (by omega)
end Go.Proofs.YtohbfcmmpaikhaaDoor

set_option linter.unusedVariables false
set_option linter.unusedSimpArgs false
namespace Go.Proofs.YtohbfcmmpaikhaaDoor
open Go Go.Lf Go.Proofs
attribute [local irreducible] Lf.rg Lf.ro Lf.PWp Lf.SOp Lf.ACall Lf.Scoped Lf.dg Lf.dw
set_option maxRecDepth 20000
set_option maxHeartbeats 4000000
structure Bk where
  (codes : List Int) (o : AV) (first count base : List Int)
def nA (n : Int) : AV := i64 n
def bkA (b : Bk) : List AV := bl true :: (b.codes.map nA ++ b.o :: (b.first.map nA ++ (b.count.map nA ++ b.base.map nA)))
structure WfB (b : Bk) : Prop where
  c : b.codes.length = 257
  f : b.first.length = 31
  n : b.count.length = 31
  b : b.base.length = 31
theorem bkA_len {b : Bk} (h : WfB b) : (bkA b).length = 352 := by
  obtain ⟨h1, h2, h3, h4⟩ := h
  unfold bkA; simp [h1, h2, h3, h4]
theorem put_app {α : Type} (a c : List AV) (k : Nat) (v : AV) : putCells (a ++ c) (a.length + k) [v] = a ++ putCells c k [v] := by
  unfold putCells
  rw [List.take_append, List.drop_append, List.take_of_length_le (by omega), show a.length + k - a.length = k from by omega, List.drop_of_length_le (by simp; omega), List.nil_append]
  simp only [List.append_assoc, List.length_cons, List.length_nil]
  congr 4; omega
theorem put_map (l : List Int) (k : Nat) (r : List AV) (v : Int) (h : k < l.length) : putCells (l.map nA ++ r) k [nA v] = (l.set k v).map nA ++ r := by
  unfold putCells
  rw [List.take_append_of_le_length (by simp; omega), List.drop_append_of_le_length (by simp; omega), List.map_set, List.set_eq_take_append_cons_drop, if_pos (by simpa using h)]
  simp
theorem bk_count {b : Bk} (h : WfB b) {n : Nat} (hn : n < 31) (v : Int) : putCells (bkA b) (290 + n) [nA v] = bkA { b with count := b.count.set n v } := by
  obtain ⟨h1, h2, h3, h4⟩ := h
  have e : bkA b = (bl true :: (b.codes.map nA ++ b.o :: b.first.map nA)) ++ (b.count.map nA ++ b.base.map nA) := by unfold bkA; simp
  have hl : (bl true :: (b.codes.map nA ++ b.o :: b.first.map nA)).length = 290 := by simp [h1, h2]
  rw [e, ← hl, put_app (α := Nat), put_map _ _ _ _ (by omega)]
  unfold bkA; simp
theorem bk_count_at {b : Bk} (h : WfB b) {n : Nat} {v : Int} (hv : b.count[n]? = some v) : (bkA b)[290 + n]? = some (nA v) := by
  obtain ⟨h1, h2, h3, h4⟩ := h
  have e : bkA b = (bl true :: (b.codes.map nA ++ b.o :: b.first.map nA)) ++ (b.count.map nA ++ b.base.map nA) := by unfold bkA; simp
  have hl : (bl true :: (b.codes.map nA ++ b.o :: b.first.map nA)).length = 290 := by simp [h1, h2]
  have hn : n < b.count.length := (List.getElem?_eq_some_iff.1 hv).1
  rw [e, ← hl, List.getElem?_append_right (by omega), show ∀ m : Nat, m + n - m = n from fun m => by omega, List.getElem?_append_left (by simpa using hn), List.getElem?_map, hv]; rfl
def cntN (k : Nat) (n : Nat) : Int := (((List.range k).filter (fun s : Nat => decide (szI (s : Int) = (n : Int)))).length : Int)
theorem cntN_bd {k n : Nat} (h : k ≤ 257) : 0 ≤ cntN k n ∧ cntN k n ≤ 257 := by
  unfold cntN
  have := List.length_filter_le (fun s : Nat => decide (szI (s : Int) = (n : Int))) (List.range k)
  rw [List.length_range] at this
  omega
def cntL (k : Nat) : List Int := (List.range 31).map (cntN k)
theorem cntN_succ (k n : Nat) : cntN (k + 1) n = cntN k n + if szI (k : Int) = n then 1 else 0 := by
  unfold cntN
  rw [List.range_succ, List.filter_append, List.length_append]
  by_cases h : szI (k : Int) = n
  · simp [h]
  · simp [h]
theorem cntL_set (k n : Nat) (hn : n < 31) (h : szI (k : Int) = n) : (cntL k).set n (cntN k n + 1) = cntL (k + 1) := by
  apply List.ext_getElem?
  intro i
  unfold cntL
  by_cases hi : i < 31
  · by_cases e : i = n
    · subst e
      rw [List.getElem?_set_self (by simpa using hi), List.getElem?_map, List.getElem?_range hi, Option.map_some, cntN_succ, if_pos h]
    · rw [List.getElem?_set_ne (fun c => e c.symm), List.getElem?_map, List.getElem?_map, List.getElem?_range hi, Option.map_some, Option.map_some, cntN_succ, if_neg (by rw [h]; omega), Int.add_zero]
  · rw [List.getElem?_eq_none (by simp; omega), List.getElem?_eq_none (by simp; omega)]
def z257 : List Int := List.replicate 257 0
def z31 : List Int := List.replicate 31 0
def b1 (k : Nat) : Bk := ⟨z257, .sl true false [], z31, cntL k, z31⟩
theorem b1_wf (k : Nat) : WfB (b1 k) := ⟨by simp [b1, z257], by simp [b1, z31], by simp [b1, cntL], by simp [b1, z31]⟩
theorem bk_codes {b : Bk} (h : WfB b) {n : Nat} (hn : n < 257) (v : Int) : putCells (bkA b) (1 + n) [nA v] = bkA { b with codes := b.codes.set n v } := by
  obtain ⟨h1, h2, h3, h4⟩ := h
  have e : bkA b = [bl true] ++ (b.codes.map nA ++ (b.o :: (b.first.map nA ++ (b.count.map nA ++ b.base.map nA)))) := by unfold bkA; simp
  have hl : ([bl true] : List AV).length = 1 := rfl
  rw [e, ← hl, put_app (α := Nat), put_map _ _ _ _ (by omega)]
  unfold bkA; simp
theorem bk_o {b : Bk} (h : WfB b) (x : AV) : putCells (bkA b) 258 [x] = bkA { b with o := x } := by
  obtain ⟨h1, h2, h3, h4⟩ := h
  have e : bkA b = (bl true :: b.codes.map nA) ++ (b.o :: (b.first.map nA ++ (b.count.map nA ++ b.base.map nA))) := by unfold bkA; simp
  have hl : (bl true :: b.codes.map nA).length = 258 := by simp [h1]
  rw [e, show (258 : Nat) = (bl true :: b.codes.map nA).length + 0 from by rw [hl], put_app (α := Nat)]
  unfold bkA putCells; simp
theorem bk_o_at {b : Bk} (h : WfB b) : (bkA b)[258]? = some b.o := by
  obtain ⟨h1, h2, h3, h4⟩ := h
  have e : bkA b = (bl true :: b.codes.map nA) ++ (b.o :: (b.first.map nA ++ (b.count.map nA ++ b.base.map nA))) := by unfold bkA; simp
  have hl : (bl true :: b.codes.map nA).length = 258 := by simp [h1]
  rw [e, List.getElem?_append_right (by omega), hl]; rfl
theorem bk_set_o {b : Bk} (h : WfB b) {x : AV} : (bkA b).set 258 x = bkA { b with o := x } := by
  have h1 := h.c
  have hl : (b.codes.map nA).length = 257 := by simp [h1]
  unfold bkA
  rw [List.set_cons_succ, List.set_append_right _ _ (by omega), hl]; rfl
theorem bk_first {b : Bk} (h : WfB b) {n : Nat} (hn : n < 31) (v : Int) : putCells (bkA b) (259 + n) [nA v] = bkA { b with first := b.first.set n v } := by
  obtain ⟨h1, h2, h3, h4⟩ := h
  have e : bkA b = (bl true :: (b.codes.map nA ++ [b.o])) ++ (b.first.map nA ++ (b.count.map nA ++ b.base.map nA)) := by unfold bkA; simp
  have hl : (bl true :: (b.codes.map nA ++ [b.o])).length = 259 := by simp [h1]
  rw [e, ← hl, put_app (α := Nat), put_map _ _ _ _ (by omega)]
  unfold bkA; simp
theorem bk_base {b : Bk} (h : WfB b) {n : Nat} (hn : n < 31) (v : Int) : putCells (bkA b) (321 + n) [nA v] = bkA { b with base := b.base.set n v } := by
  obtain ⟨h1, h2, h3, h4⟩ := h
  have e : bkA b = (bl true :: (b.codes.map nA ++ b.o :: (b.first.map nA ++ b.count.map nA))) ++ (b.base.map nA ++ []) := by unfold bkA; simp
  have hl : (bl true :: (b.codes.map nA ++ b.o :: (b.first.map nA ++ b.count.map nA))).length = 321 := by simp [h1, h2, h3]
  rw [e, ← hl, put_app (α := Nat), put_map _ _ _ _ (by omega)]
  unfold bkA; simp
theorem rset {N : Nat} {f g : Nat → Int} {n : Nat} {v : Int} (hn : n < N) (hv : g n = v) (hg : ∀ i : Nat, ¬ i = n → f i = g i) : ((List.range N).map f).set n v = (List.range N).map g := by
  apply List.ext_getElem?
  intro i
  by_cases hi : i < N
  · by_cases e : i = n
    · subst e
      rw [List.getElem?_set_self (by simpa using hi), List.getElem?_map, List.getElem?_range hi, Option.map_some, hv]
    · rw [List.getElem?_set_ne (fun c => e c.symm), List.getElem?_map, List.getElem?_map, List.getElem?_range hi, Option.map_some, Option.map_some, hg i e]
  · rw [List.getElem?_eq_none (by simp; omega), List.getElem?_eq_none (by simp; omega)]
def codeN : Nat → Int
  | 0 => 0
  | n + 1 => codeN n * 2 + cntN 257 n
theorem codeN_bd : ∀ n : Fin 32, 0 ≤ codeN n.val ∧ codeN n.val ≤ 4294967296 := by decide +kernel
def symK (n k : Nat) : List Nat := (List.range k).filter (fun s : Nat => decide (szI (s : Int) = (n : Int)))
def ordN : Nat → List Nat
  | 0 => []
  | n + 1 => ordN n ++ symK n 257
theorem ordN_len : ∀ n : Fin 32, (ordN n.val).length ≤ 257 := by decide +kernel
theorem symK_succ (n k : Nat) : symK n (k + 1) = symK n k ++ if szI (k : Int) = n then [k] else [] := by
  unfold symK
  rw [List.range_succ, List.filter_append]
  by_cases h : szI (k : Int) = n
  · simp [h]
  · simp [h]
theorem symK_le (n k : Nat) : (symK n k).length ≤ k := by
  unfold symK
  have := List.length_filter_le (fun s : Nat => decide (szI (s : Int) = (n : Int))) (List.range k)
  rwa [List.length_range] at this
def csI (s : Nat) : Int := codeN (szI (s : Int)).toNat * 2 + cntN s (szI (s : Int)).toNat
def codesL (n k : Nat) : List Int := (List.range 257).map fun s : Nat => if szI (s : Int) < n ∨ (szI (s : Int) = n ∧ s < k) then csI s else 0
def firstL (n : Nat) : List Int := (List.range 31).map fun i : Nat => if 1 ≤ i ∧ i < n then codeN i * 2 else 0
def baseL (n : Nat) : List Int := (List.range 31).map fun i : Nat => if 1 ≤ i ∧ i < n then ((ordN i).length : Int) else 0
@[go_sem] def natA (s : Nat) : List AV := [i64 (s : Int)]
theorem symK_0 (n : Nat) : symK n 0 = [] := rfl
theorem cntN_0 (n : Nat) : cntN 0 n = 0 := rfl
theorem cntN_le {k n : Nat} (h : k ≤ 257) : 0 ≤ cntN k n ∧ cntN k n ≤ 257 := cntN_bd h
@[go_sem] theorem purl_nat (l : List Nat) : purl (l.map natA).flatten = true := purl_map (fun a => by simp [natA, purl, pur]) l
@[go_sem] theorem fz_mapnat {κ : List Nat} {σ : Sto} (l : List Nat) : List.map (fzl κ σ) (l.map natA) = l.map natA := fz_mapg (fun _ => rfl) l
def b2 (n k st m m2 : Nat) : Bk := ⟨codesL n k, .row 1 st, firstL m, cntL 257, baseL m2⟩
theorem b2_wf (n k st m m2 : Nat) : WfB (b2 n k st m m2) := ⟨by simp [b2, codesL], by simp [b2, firstL], by simp [b2, cntL], by simp [b2, baseL]⟩
@[go_sem] theorem fz_b2 {σ : Sto} (n k st m m2 : Nat) : fzl [0, 1] σ (bkA (b2 n k st m m2)) = bkA (b2 n k st m m2) := by
  rw [fzl_map]
  unfold bkA b2
  have h : ∀ l : List Int, (l.map nA).map (fz [0, 1] σ) = l.map nA := by
    intro l; rw [List.map_map]; exact List.map_congr_left (fun _ _ => rfl)
  simp only [List.map_cons, List.map_append, h]
  rfl
theorem firstL_set {n : Nat} (h1 : 1 ≤ n) (h : n < 31) : (firstL n).set n (codeN n * 2) = firstL (n + 1) := by
  unfold firstL
  refine rset h (if_pos ⟨h1, by omega⟩) (fun i hi => ?_)
  by_cases c : 1 ≤ i ∧ i < n
  · rw [if_pos c, if_pos ⟨c.1, by omega⟩]
  · rw [if_neg c, if_neg (by omega)]
theorem baseL_set {n : Nat} (h1 : 1 ≤ n) (h : n < 31) : (baseL n).set n ((ordN n).length : Int) = baseL (n + 1) := by
  unfold baseL
  refine rset h (if_pos ⟨h1, by omega⟩) (fun i hi => ?_)
  by_cases c : 1 ≤ i ∧ i < n
  · rw [if_pos c, if_pos ⟨c.1, by omega⟩]
  · rw [if_neg c, if_neg (by omega)]
theorem codesL_set {n k : Nat} (hk : k < 257) (h : szI (k : Int) = n) : (codesL n k).set k (codeN n * 2 + cntN k n) = codesL n (k + 1) := by
  unfold codesL
  refine rset hk ?_ (fun i hi => ?_)
  · rw [if_pos (.inr ⟨h, by omega⟩)]
    unfold csI
    rw [h]; rfl
  · by_cases c : szI (i : Int) < n ∨ (szI (i : Int) = n ∧ i < k)
    · rw [if_pos c, if_pos (by omega)]
    · rw [if_neg c, if_neg (by omega)]
theorem codesL_not {n k : Nat} (h : ¬ szI (k : Int) = n) : codesL n (k + 1) = codesL n k := by
  unfold codesL
  apply List.map_congr_left
  intro i _
  by_cases e : i = k
  · subst e
    by_cases c : szI (i : Int) < n
    · rw [if_pos (.inl c), if_pos (.inl c)]
    · rw [if_neg (by omega), if_neg (by omega)]
  · by_cases c : szI (i : Int) < n ∨ (szI (i : Int) = n ∧ i < k)
    · rw [if_pos c, if_pos (by omega)]
    · rw [if_neg c, if_neg (by omega)]
theorem codesL_next (n : Nat) : codesL n 257 = codesL (n + 1) 0 := by
  unfold codesL
  apply List.map_congr_left
  intro i hi
  have hi : i < 257 := by simpa using hi
  by_cases c : szI (i : Int) < n ∨ (szI (i : Int) = n ∧ i < 257)
  · rw [if_pos c, if_pos (by omega)]
  · rw [if_neg c, if_neg (by omega)]
theorem codesL_one : codesL 1 0 = z257 := by decide +kernel
theorem firstL_one : firstL 1 = z31 := by decide +kernel
theorem baseL_one : baseL 1 = z31 := by decide +kernel
theorem ordN_one : ordN 1 = [] := by decide +kernel
theorem codeN_succ (n : Nat) : codeN (n + 1) = codeN n * 2 + cntN 257 n := rfl
theorem ordN_succ (n : Nat) : ordN (n + 1) = ordN n ++ symK n 257 := rfl
theorem ordN_31 : (ordN 31).length = 257 := by decide +kernel
theorem codeN_one : codeN 1 = 0 := by decide +kernel
attribute [local irreducible] bkA cntN codeN ordN symK codesL firstL baseL cntL
set_option maxRecDepth 20000 in
set_option maxHeartbeats 40000000 in
theorem cmake : AEq Tryd.prog 95 [] [] (.ptr 0 0) [.box (bkA (b2 31 0 257 31 31)), .row 257 3 1 ((ordN 31).map natA)] := by
  refine acall_body Tryd.func95 rfl Tryd.ntmps95 (by simp) (fun hsc => ?_); simp only [Lf.enter, Nat.reduceAdd]; clear hsc
  have hU := True.intro
  repeat' (first | (guard_target =~ PWp _ _ _ _ _ _ _; first | (refine pwp_seq_k (fun K hK => ?_)) | (refine pwp_block ?_) | (refine pwp_rg_then ?_)) | (guard_target =~ rg _ _ _ _ _ _ _; first | (guard_target =~ rg _ _ _ [] _ _ _; first | (refine rg_end ?_)) | (refine rg_a rfl (h := ?_)) | (refine rg_v rfl (h := ?_)) | (refine rg_s rfl ?_)) | (guard_target =~ SOp _ _ _ _ _ _; first | (guard_target =~ SOp _ _ ⟨_, .box _ _, _, _, _, none⟩ _ _ _; first | (refine n_box rfl (hK := ?_))) | (guard_target =~ SOp _ _ ⟨_, .build _ _, _, _, _, none⟩ _ _ _; first | (refine n_build rfl (by first | exact bd168 | exact bd169 | exact bd171 | fail) (hK := ?_)))) | (refine hK _ _ ?_; clear hK K))
  refine pwp_loop_e [2, 8, 9, 10, 11, 12, 13, 14, 15, 16, 17, 18, 19, 20, 21, 22] (fun k : Nat => [(8, i64 k)]) (fun k => [.box (bkA (b1 k))]) (fun k => k ≤ 257) (fun k => 257 - k) 0 (Nat.zero_le _) ?_ (by with_unfolding_all rfl) ?_
  · (refine ⟨⟨_, (by (try simp (disch := omega) only [go_sem, seval, ↓reduceIte, hU]) <;> rfl), ?_⟩, trivial⟩ <;> (try (first | exact ale_eq (by with_reducible rfl) | exact ale_full | exact ale_sl (fun _ => rfl) | exact ale_sl (by simp) | exact ale_junk | exact ale_eq rfl)))
  · rintro k hk
    simp only [mask, List.map_cons, List.map_nil, List.cons_append, List.nil_append]
    by_cases hlt : k < 257
    · have hsb := szI_bd (s := (k : Int)) (by omega) (by omega)
      obtain ⟨n, hn⟩ : ∃ n : Nat, szI (k : Int) = n := ⟨(szI (k : Int)).toNat, by omega⟩
      have hn31 : n < 31 := by omega
      have hcl : (cntL k)[n]? = some (cntN k n) := by unfold cntL; rw [List.getElem?_map, List.getElem?_range hn31]; rfl
      have hget : (bkA (b1 k))[290 + n * 1]? = some (i64 (cntN k n)) := by rw [Nat.mul_one]; exact bk_count_at (b1_wf k) hcl
      have hput : List.take (290 + n * 1) (bkA (b1 k)) ++ [i64 (cntN k n + 1)] ++ List.drop (290 + n * 1 + 1) (bkA (b1 k)) = bkA (b1 (k + 1)) := by
        rw [Nat.mul_one]
        refine (show _ = putCells (bkA (b1 k)) (290 + n) [nA (cntN k n + 1)] from rfl).trans ((bk_count (b1_wf k) hn31 (cntN k n + 1)).trans ?_)
        show bkA ⟨z257, .sl true false [], z31, (cntL k).set n (cntN k n + 1), z31⟩ = _
        rw [cntL_set k n hn31 hn]; rfl
      have hlen := bkA_len (b1_wf k)
      have hcb : 0 ≤ cntN k n ∧ cntN k n ≤ 257 := cntN_bd (by omega)
      have hle : (290 + n * 1 + 1 ≤ 352) = True := by simp; omega
      have hle2 : (290 + n * 1 + (0 + 1) ≤ 352) = True := by simp; omega
      have hU := And.intro @hn ( And.intro @hget ( And.intro @hput ( And.intro @hlen ( And.intro @hle (@hle2)))))
      repeat' (first | (guard_target =~ PWp _ _ _ _ _ _ _; first | (refine pwp_draw_ord_end (id := 5) [0, 1, 2, 3, 4, 5, 6, 7, 8, 9, 10, 11] [11] mixed (by kernel_rfl) (by kernel_rfl) ?_) | (refine pwp_seq_k (fun K hK => ?_)) | (refine pwp_block ?_) | (refine pwp_rg_then ?_) | (refine pwp_skip ?_) | ((refine pwp_cond_d (fun hcd => ?_) (fun hcd => ?_)) <;> (try simp only [hcP] at hcd) <;> (try (exfalso; first | omega | exact absurd hcd (by assumption) | exact absurd (by assumption) hcd)))) | (guard_target =~ rg _ _ _ _ _ _ _; first | (guard_target =~ rg _ _ _ [] _ _ _; first | (refine rg_end ?_)) | (refine rg_a rfl (h := ?_)) | (refine rg_v rfl (h := ?_))) | (guard_target =~ dw _ _ _ _ _ _ _ _ _ _; first | ((first | guard_target =~ dw _ _ _ _ _ (0 :: _) _ _ _ _ | guard_target =~ dw _ _ _ _ _ (1 :: _) _ _ _ _ | guard_target =~ dw _ _ _ _ _ (2 :: _) _ _ _ _); first | (refine dw_p rfl rfl (h := (fun τ => ro_v rfl (h := ro_end ⟨rfl, rfl⟩))) (hk := ?_)) | (refine dw_c rfl rfl (h := ro_v rfl (h := ro_end ⟨rfl, rfl⟩)) (hk := ?_))) | (guard_target =~ dw _ _ _ _ _ (2 :: _) _ _ _ _; first | (refine dw_p rfl rfl (h := (fun τ => ro_s (h := n_call (f := 121) rfl Tryd.call121 (h := AEq.pure' (by first | ((repeat' (first | exact trivial | (first | exact arg_lit | exact arg_sl id id | exact arg_nil | exact arg_sl (by simp) id | exact arg_sl (by simp) (fun _ => rfl) | exact arg_row_m (by rfl) (by rfl) (fun _ => rfl) | exact arg_vw_m (by rfl) (by rfl) (fun _ => rfl) | exact arg_rn (by rfl) (by rfl) | exact arg_junk | exact arg_row_mm (by rfl) (by rfl) (fun _ => rfl)) | refine ⟨?_, ?_⟩)); done) | fail) (csize _ (by omega) (by omega)) (hq := ro_end ⟨rfl, rfl⟩))))) (hk := ?_))) | ((first | guard_target =~ dw _ _ _ _ _ (3 :: _) _ _ _ _ | guard_target =~ dw _ _ _ _ _ (7 :: _) _ _ _ _ | guard_target =~ dw _ _ _ _ _ (8 :: _) _ _ _ _); first | (refine dw_p rfl rfl (h := (fun τ => ro_v rfl (h := ro_end ⟨rfl, rfl⟩))) (hk := ?_)) | (refine dw_c rfl rfl (h := ro_v rfl (h := ro_end ⟨rfl, rfl⟩)) (hk := ?_))) | ((first | guard_target =~ dw _ _ _ _ _ (4 :: _) _ _ _ _ | guard_target =~ dw _ _ _ _ _ (8 :: _) _ _ _ _ | guard_target =~ dw _ _ _ _ _ (9 :: _) _ _ _ _); first | (refine dw_p rfl rfl (h := (fun τ => ro_v rfl (h := ro_end ⟨rfl, rfl⟩))) (hk := ?_)) | (refine dw_c rfl rfl (h := ro_v rfl (h := ro_end ⟨rfl, rfl⟩)) (hk := ?_))) | ((first | guard_target =~ dw _ _ _ _ _ (5 :: _) _ _ _ _ | guard_target =~ dw _ _ _ _ _ (9 :: _) _ _ _ _ | guard_target =~ dw _ _ _ _ _ (10 :: _) _ _ _ _); first | (refine dw_c rfl rfl (h := ro_s (h := n_index_arr rfl (hK := ro_end ⟨rfl, rfl⟩))) (hk := ?_))) | ((first | guard_target =~ dw _ _ _ _ _ (5 :: _) _ _ _ _ | guard_target =~ dw _ _ _ _ _ (6 :: _) _ _ _ _); first | (refine dw_p rfl rfl (h := (fun τ => ro_v rfl (h := ro_end ⟨rfl, rfl⟩))) (hk := ?_)) | (refine dw_c rfl rfl (h := ro_v rfl (h := ro_end ⟨rfl, rfl⟩)) (hk := ?_))) | (guard_target =~ dw _ _ _ _ _ (7 :: _) _ _ _ _; first | (refine dw_p rfl rfl (h := (fun τ => ro_v rfl (h := ro_end ⟨rfl, rfl⟩))) (hk := ?_)) | (refine dw_c rfl rfl (h := ro_v rfl (h := ro_end ⟨rfl, rfl⟩)) (hk := ?_))) | ((first | guard_target =~ dw _ _ _ _ _ (10 :: _) _ _ _ _ | guard_target =~ dw _ _ _ _ _ (11 :: _) _ _ _ _); first | (refine dw_wn rfl rfl (h := ro_n (h := n_store rfl (hK := ro_end ⟨rfl, rfl⟩))) (hk := ?_))) | (guard_target =~ dw _ _ _ _ _ (6 :: _) _ _ _ _; first | (refine dw_p rfl rfl (h := (fun τ => ro_v rfl (h := ro_end ⟨rfl, rfl⟩))) (hk := ?_)) | (refine dw_c rfl rfl (h := ro_v rfl (h := ro_end ⟨rfl, rfl⟩)) (hk := ?_))) | (guard_target =~ dw _ _ _ _ _ [] _ _ _ _; first | (refine dw_nil ?_))) | (refine hK _ _ ?_; clear hK K))
      refine ⟨k + 1, by omega, by omega, ?_, (by repeat' (first | exact agr_refl | refine agr_cons (by rfl) ?_)), (by first | rfl | (simp (disch := omega) only [go_sem, seval, ↓reduceIte, hU]; done) | (simp (disch := omega) only [go_sem, seval, ↓reduceIte, hU]; rfl))⟩
      (refine ⟨⟨_, (by (try simp (disch := omega) only [go_sem, seval, ↓reduceIte, hU]) <;> rfl), ?_⟩, trivial⟩ <;> (try (first | exact ale_eq (by with_reducible rfl) | exact ale_full | exact ale_sl (fun _ => rfl) | exact ale_sl (by simp) | exact ale_junk | exact ale_eq rfl)))
    · have hk7 : k = 257 := by omega
      subst hk7
      repeat' (first | (guard_target =~ PWp _ _ _ _ _ _ _; first | (refine pwp_seq_k (fun K hK => ?_)) | (refine pwp_block ?_) | (refine pwp_rg_then ?_) | (refine pwp_exit ?_) | ((refine pwp_cond_d (fun hcd => ?_) (fun hcd => ?_)) <;> (try simp only [hcP] at hcd) <;> (try (exfalso; first | omega | exact absurd hcd (by assumption) | exact absurd (by assumption) hcd)))) | (guard_target =~ rg _ _ _ _ _ _ _; first | (guard_target =~ rg _ _ _ [] _ _ _; first | (refine rg_end ?_)) | (refine rg_a rfl (h := ?_)) | (refine rg_v rfl (h := ?_))) | (refine hK _ _ ?_; clear hK K) | (apply_assumption (exfalso := false) (symm := false)))
      refine pwp_rowc (σ2 := [.box (bkA (b2 1 0 0 1 1)), .row 0 3 1 ((ordN 1).map natA)]) 0 258 3 1 (by decide) rfl (bk_o_at (b1_wf 257)) ?_ ?_
      · show [Ob.box ((bkA (b1 257)).set 258 (.row 1 0)), Ob.row 0 3 1 []] = _
        rw [bk_set_o (b1_wf 257), ordN_one]
        unfold b2 b1
        rw [codesL_one, firstL_one, baseL_one]
        rfl
      refine pwp_loop_e [3, 4, 5, 23, 24, 25, 26, 27, 28, 29, 30, 31, 32, 33, 34, 35, 36, 37, 38, 39, 40, 41, 42, 43, 44, 45, 46, 47, 48, 49, 50, 51, 52, 53, 54, 55, 56, 57, 58, 59, 60, 61, 62, 63, 64, 65, 66, 67, 68, 69, 70] (fun n : Nat => [(4, i64 n), (3, i64 (codeN n))]) (fun n => [.box (bkA (b2 n 0 (ordN n).length n n)), .row (ordN n).length 3 1 ((ordN n).map natA)]) (fun n => 1 ≤ n ∧ n ≤ 31) (fun n => 31 - n) 1 ⟨by decide, by decide⟩ ?_ (by rw [ordN_one]; rfl) ?_
      · (refine ⟨⟨_, (by (try simp (disch := omega) only [go_sem, seval, ↓reduceIte, hU]) <;> rfl), ?_⟩, ⟨_, (by (try simp (disch := omega) only [go_sem, seval, ↓reduceIte, hU]) <;> rfl), ?_⟩, trivial⟩ <;> (try (first | exact ale_eq (by with_reducible rfl) | exact ale_full | exact ale_sl (fun _ => rfl) | exact ale_sl (by simp) | exact ale_junk | exact ale_eq rfl)))
        all_goals exact ale_i codeN_one.symm
      · rintro n ⟨h1, h31⟩
        simp only [mask, List.map_cons, List.map_nil, List.cons_append, List.nil_append]
        by_cases hlt2 : n < 31
        · have hcb := codeN_bd ⟨n, by omega⟩
          have hcb2 := codeN_bd ⟨n + 1, by omega⟩
          have hol := ordN_len ⟨n, by omega⟩
          dsimp only at hcb hcb2 hol
          have hlen := bkA_len (b2_wf n 0 (ordN n).length n n)
          have hlen1 := bkA_len (b2_wf n 0 (ordN n).length (n + 1) n)
          have hfst : List.take (259 + n * 1) (bkA (b2 n 0 (ordN n).length n n)) ++ [i64 (codeN n * 2)] ++ List.drop (259 + n * 1 + 1) (bkA (b2 n 0 (ordN n).length n n)) = bkA (b2 n 0 (ordN n).length (n + 1) n) := by
            rw [Nat.mul_one]
            refine (show _ = putCells (bkA (b2 n 0 (ordN n).length n n)) (259 + n) [nA (codeN n * 2)] from rfl).trans ((bk_first (b2_wf n 0 (ordN n).length n n) hlt2 (codeN n * 2)).trans ?_)
            show bkA ⟨codesL n 0, .row 1 (ordN n).length, (firstL n).set n (codeN n * 2), cntL 257, baseL n⟩ = _
            rw [firstL_set h1 hlt2]; rfl
          have hbse : List.take (321 + n * 1) (bkA (b2 n 0 (ordN n).length (n + 1) n)) ++ [i64 ((ordN n).length : Int)] ++ List.drop (321 + n * 1 + 1) (bkA (b2 n 0 (ordN n).length (n + 1) n)) = bkA (b2 n 0 (ordN n).length (n + 1) (n + 1)) := by
            rw [Nat.mul_one]
            refine (show _ = putCells (bkA (b2 n 0 (ordN n).length (n + 1) n)) (321 + n) [nA ((ordN n).length : Int)] from rfl).trans ((bk_base (b2_wf n 0 (ordN n).length (n + 1) n) hlt2 ((ordN n).length : Int)).trans ?_)
            show bkA ⟨codesL n 0, .row 1 (ordN n).length, firstL (n + 1), cntL 257, (baseL n).set n ((ordN n).length : Int)⟩ = _
            rw [baseL_set h1 hlt2]; rfl
          have hor := bk_o_at (b2_wf n 0 (ordN n).length (n + 1) n)
          have hor1 : (bkA (b2 n 0 (ordN n).length (n + 1) n))[258]? = some (.row 1 (ordN n).length) := hor
          have hle1 : (259 + n * 1 + 1 ≤ 352) = True := by simp; omega
          have hle2 : (259 + n * 1 + (0 + 1) ≤ 352) = True := by simp; omega
          have hle3 : (321 + n * 1 + 1 ≤ 352) = True := by simp; omega
          have hle4 : (321 + n * 1 + (0 + 1) ≤ 352) = True := by simp; omega
          have hU := And.intro @hlen ( And.intro @hlen1 ( And.intro @hfst ( And.intro @hbse ( And.intro @hor1 ( And.intro @hle1 ( And.intro @hle2 ( And.intro @hle3 (@hle4))))))))
          repeat' (first | (guard_target =~ PWp _ _ _ _ _ _ _; first | (refine pwp_draw_ord (id := 13) [0, 1, 2, 3, 4, 5, 6, 7, 8, 9, 10] [10] mixed (by kernel_rfl) (by kernel_rfl) ?_) | (refine pwp_seq_k (fun K hK => ?_)) | (refine pwp_block ?_) | (refine pwp_rg_then ?_) | (refine pwp_skip ?_) | ((refine pwp_cond_d (fun hcd => ?_) (fun hcd => ?_)) <;> (try simp only [hcP] at hcd) <;> (try (exfalso; first | omega | exact absurd hcd (by assumption) | exact absurd (by assumption) hcd)))) | (guard_target =~ rg _ _ _ _ _ _ _; first | (guard_target =~ rg _ _ _ [] _ _ _; first | (refine rg_end ?_)) | (refine rg_a rfl (h := ?_)) | (refine rg_v rfl (h := ?_)) | (refine rg_s rfl ?_) | (refine rg_n rfl ?_)) | (guard_target =~ SOp _ _ _ _ _ _; first | (guard_target =~ SOp _ _ ⟨_, .store _ _ _, _, _, _, none⟩ _ _ _; first | (refine n_store rfl (hK := ?_))) | (guard_target =~ SOp _ _ ⟨_, .indexAddr _ _ _, _, _, _, none⟩ _ _ _; first | (refine n_index_arr rfl (hK := ?_)))) | (guard_target =~ dw _ _ _ _ _ _ _ _ _ _; first | ((first | guard_target =~ dw _ _ _ _ _ (0 :: _) _ _ _ _ | guard_target =~ dw _ _ _ _ _ (1 :: _) _ _ _ _ | guard_target =~ dw _ _ _ _ _ (2 :: _) _ _ _ _); first | (refine dw_p rfl rfl (h := (fun τ => ro_v rfl (h := ro_end ⟨rfl, rfl⟩))) (hk := ?_)) | (refine dw_c rfl rfl (h := ro_v rfl (h := ro_end ⟨rfl, rfl⟩)) (hk := ?_))) | ((first | guard_target =~ dw _ _ _ _ _ (3 :: _) _ _ _ _ | guard_target =~ dw _ _ _ _ _ (7 :: _) _ _ _ _ | guard_target =~ dw _ _ _ _ _ (8 :: _) _ _ _ _); first | (refine dw_p rfl rfl (h := (fun τ => ro_v rfl (h := ro_end ⟨rfl, rfl⟩))) (hk := ?_)) | (refine dw_c rfl rfl (h := ro_v rfl (h := ro_end ⟨rfl, rfl⟩)) (hk := ?_))) | ((first | guard_target =~ dw _ _ _ _ _ (4 :: _) _ _ _ _ | guard_target =~ dw _ _ _ _ _ (8 :: _) _ _ _ _ | guard_target =~ dw _ _ _ _ _ (9 :: _) _ _ _ _); first | (refine dw_p rfl rfl (h := (fun τ => ro_v rfl (h := ro_end ⟨rfl, rfl⟩))) (hk := ?_)) | (refine dw_c rfl rfl (h := ro_v rfl (h := ro_end ⟨rfl, rfl⟩)) (hk := ?_))) | ((first | guard_target =~ dw _ _ _ _ _ (5 :: _) _ _ _ _ | guard_target =~ dw _ _ _ _ _ (9 :: _) _ _ _ _ | guard_target =~ dw _ _ _ _ _ (10 :: _) _ _ _ _); first | (refine dw_c rfl rfl (h := ro_s (h := n_index_arr rfl (hK := ro_end ⟨rfl, rfl⟩))) (hk := ?_))) | ((first | guard_target =~ dw _ _ _ _ _ (5 :: _) _ _ _ _ | guard_target =~ dw _ _ _ _ _ (6 :: _) _ _ _ _); first | (refine dw_p rfl rfl (h := (fun τ => ro_v rfl (h := ro_end ⟨rfl, rfl⟩))) (hk := ?_)) | (refine dw_c rfl rfl (h := ro_v rfl (h := ro_end ⟨rfl, rfl⟩)) (hk := ?_))) | (guard_target =~ dw _ _ _ _ _ (7 :: _) _ _ _ _; first | (refine dw_p rfl rfl (h := (fun τ => ro_v rfl (h := ro_end ⟨rfl, rfl⟩))) (hk := ?_)) | (refine dw_c rfl rfl (h := ro_v rfl (h := ro_end ⟨rfl, rfl⟩)) (hk := ?_))) | ((first | guard_target =~ dw _ _ _ _ _ (10 :: _) _ _ _ _ | guard_target =~ dw _ _ _ _ _ (11 :: _) _ _ _ _); first | (refine dw_wn rfl rfl (h := ro_n (h := n_store rfl (hK := ro_end ⟨rfl, rfl⟩))) (hk := ?_))) | (guard_target =~ dw _ _ _ _ _ (6 :: _) _ _ _ _; first | (refine dw_p rfl rfl (h := (fun τ => ro_v rfl (h := ro_end ⟨rfl, rfl⟩))) (hk := ?_)) | (refine dw_c rfl rfl (h := ro_v rfl (h := ro_end ⟨rfl, rfl⟩)) (hk := ?_))) | (guard_target =~ dw _ _ _ _ _ [] _ _ _ _; first | (refine dw_nil ?_))) | (refine hK _ _ ?_; clear hK K))
          refine pwp_loop_e [3, 5, 45, 46, 47, 48, 49, 50, 51, 52, 53, 54, 55, 56, 57, 58, 59, 60, 61, 62, 63, 64, 65, 66, 67, 68, 69, 70] (fun k : Nat => [(45, i64 k), (3, i64 (codeN n * 2 + cntN k n))]) (fun k => [.box (bkA (b2 n k ((ordN n).length + (symK n k).length) (n + 1) (n + 1))), .row ((ordN n).length + (symK n k).length) 3 1 ((ordN n ++ symK n k).map natA)]) (fun k => k ≤ 257) (fun k => 257 - k) 0 (Nat.zero_le _) ?_ (by rw [symK_0, List.append_nil]; rfl) ?_
          · (refine ⟨⟨_, (by (try simp (disch := omega) only [go_sem, seval, ↓reduceIte, hU]) <;> rfl), ?_⟩, ⟨_, (by (try simp (disch := omega) only [go_sem, seval, ↓reduceIte, hU]) <;> rfl), ?_⟩, trivial⟩ <;> (try (first | exact ale_eq (by with_reducible rfl) | exact ale_full | exact ale_sl (fun _ => rfl) | exact ale_sl (by simp) | exact ale_junk | exact ale_eq rfl)))
            all_goals exact ale_i (by rw [cntN_0, Int.add_zero])
          · rintro k hk
            simp only [mask, List.map_cons, List.map_nil, List.cons_append, List.nil_append]
            by_cases hlt3 : k < 257
            · have hsb := szI_bd (s := (k : Int)) (by omega) (by omega)
              have hsl := symK_le n k
              have hck := cntN_le (k := k) (n := n) (by omega)
              by_cases hsz : szI (k : Int) = (n : Int)
              · obtain ⟨st, hst⟩ : ∃ st, (ordN n).length + (symK n k).length = st := ⟨_, rfl⟩
                rw [hst]
                have hlenk := bkA_len (b2_wf n k st (n + 1) (n + 1))
                have hlenk1 := bkA_len (b2_wf n k (st + 1) (n + 1) (n + 1))
                have hork : (bkA (b2 n k st (n + 1) (n + 1)))[258]? = some (.row 1 st) := bk_o_at (b2_wf n k st (n + 1) (n + 1))
                have hap : List.map natA (ordN n ++ symK n k) ++ [[AV.lit (.int .i64 (k : Int))]] = List.map natA (ordN n ++ symK n (k + 1)) := by
                  rw [symK_succ, if_pos hsz, ← List.append_assoc, List.map_append (l₁ := ordN n ++ symK n k)]; rfl
                have hpo : List.take 258 (bkA (b2 n k st (n + 1) (n + 1))) ++ [.row 1 (st + 1)] ++ List.drop 259 (bkA (b2 n k st (n + 1) (n + 1))) = bkA (b2 n k (st + 1) (n + 1) (n + 1)) :=
                  (show _ = putCells (bkA (b2 n k st (n + 1) (n + 1))) 258 [.row 1 (st + 1)] from rfl).trans (bk_o (b2_wf n k st (n + 1) (n + 1)) (.row 1 (st + 1)))
                have hpc : List.take (1 + k * 1) (bkA (b2 n k (st + 1) (n + 1) (n + 1))) ++ [i64 (codeN n * 2 + cntN k n)] ++ List.drop (1 + k * 1 + 1) (bkA (b2 n k (st + 1) (n + 1) (n + 1))) = bkA (b2 n (k + 1) (st + 1) (n + 1) (n + 1)) := by
                  rw [Nat.mul_one]
                  refine (show _ = putCells (bkA (b2 n k (st + 1) (n + 1) (n + 1))) (1 + k) [nA (codeN n * 2 + cntN k n)] from rfl).trans ((bk_codes (b2_wf n k (st + 1) (n + 1) (n + 1)) hlt3 (codeN n * 2 + cntN k n)).trans ?_)
                  show bkA ⟨(codesL n k).set k (codeN n * 2 + cntN k n), .row 1 (st + 1), firstL (n + 1), cntL 257, baseL (n + 1)⟩ = _
                  rw [codesL_set hlt3 hsz]; rfl
                have hlk1 : (1 + k * 1 + 1 ≤ 352) = True := by simp; omega
                have hlk2 : (1 + k * 1 + (0 + 1) ≤ 352) = True := by simp; omega
                have hol2 : (ordN n ++ symK n k).length = st := by rw [List.length_append]; exact hst
                have hU := And.intro @hsz ( And.intro @hlenk ( And.intro @hlenk1 ( And.intro @hork ( And.intro @hap ( And.intro @hpo ( And.intro @hpc ( And.intro @hlk1 (@hlk2))))))))
                repeat' (first | (guard_target =~ PWp _ _ _ _ _ _ _; first | (refine pwp_seq_k (fun K hK => ?_)) | (refine pwp_block ?_) | (refine pwp_rg_then ?_) | (refine pwp_rg ?_) | (refine pwp_skip ?_) | ((refine pwp_cond_d (fun hcd => ?_) (fun hcd => ?_)) <;> (try simp only [hcP] at hcd) <;> (try (exfalso; first | omega | exact absurd hcd (by assumption) | exact absurd (by assumption) hcd)))) | (guard_target =~ rg _ _ _ _ _ _ _; first | (guard_target =~ rg _ _ _ [] _ _ _; first | (refine rg_end ?_)) | (refine rg_a rfl (h := ?_)) | (refine rg_v rfl (h := ?_)) | (refine rg_s rfl ?_) | (refine rg_n rfl ?_)) | (guard_target =~ SOp _ _ _ _ _ _; first | (guard_target =~ SOp _ _ ⟨_, .store _ _ _, _, _, _, none⟩ _ _ _; first | (refine n_store rfl (hK := ?_))) | (guard_target =~ SOp _ _ ⟨_, .indexAddr _ _ _, _, _, _, none⟩ _ _ _; first | (refine n_index_arr rfl (hK := ?_))) | (guard_target =~ SOp _ _ ⟨_, .call ⟨.value (.func 121), _, _⟩, _, _, _, none⟩ _ _ _; first | (refine n_call (f := 121) rfl Tryd.call121 (h := AEq.pure' (by first | ((repeat' (first | exact trivial | (first | exact arg_lit | exact arg_sl id id | exact arg_nil | exact arg_sl (by simp) id | exact arg_sl (by simp) (fun _ => rfl) | exact arg_row_m (by rfl) (by rfl) (fun _ => rfl) | exact arg_vw_m (by rfl) (by rfl) (fun _ => rfl) | exact arg_rn (by rfl) (by rfl) | exact arg_junk | exact arg_row_mm (by rfl) (by rfl) (fun _ => rfl)) | refine ⟨?_, ?_⟩)); done) | fail) (csize _ (by omega) (by omega)) (hq := ?_)))) | (guard_target =~ SOp _ _ ⟨_, .call ⟨.builtin .append, _, _⟩, _, _, _, none⟩ _ _ _; first | (refine n_append_row rfl (he := by first | exact eo3 | exact eo4 | exact eo53 | exact eo148 | exact eo168 | exact eo169 | exact eo171 | fail) (hK := ?_))) | (guard_target =~ SOp _ _ ⟨_, .buildSlice _ _ _, _, _, _, none⟩ _ _ _; first | (refine n_lit rfl (he := by first | exact eo3 | exact eo4 | exact eo53 | exact eo148 | exact eo168 | exact eo169 | exact eo171 | fail) (hK := ?_)))) | (refine hK _ _ ?_; clear hK K))
                refine ⟨k + 1, by omega, by omega, ?_, (by repeat' (first | exact agr_refl | refine agr_cons (by rfl) ?_)), ?_⟩
                · (refine ⟨⟨_, (by (try simp (disch := omega) only [go_sem, seval, ↓reduceIte, hU]) <;> rfl), ?_⟩, ⟨_, (by (try simp (disch := omega) only [go_sem, seval, ↓reduceIte, hU]) <;> rfl), ?_⟩, trivial⟩ <;> (try (first | exact ale_eq (by with_reducible rfl) | exact ale_full | exact ale_sl (fun _ => rfl) | exact ale_sl (by simp) | exact ale_junk | exact ale_eq rfl)))
                  all_goals exact ale_i (by rw [cntN_succ, if_pos hsz, Int.add_assoc])
                · rw [symK_succ, if_pos hsz, List.length_append, ← Nat.add_assoc, hst]
                  simp only [hap, hpo, hpc, go_sem]
              · have hbn : ∀ st : Nat, b2 n (k + 1) st (n + 1) (n + 1) = b2 n k st (n + 1) (n + 1) := fun st => by unfold b2; rw [codesL_not hsz]
                have hU := True.intro
                repeat' (first | (guard_target =~ PWp _ _ _ _ _ _ _; first | (refine pwp_seq_k (fun K hK => ?_)) | (refine pwp_block ?_) | (refine pwp_rg_then ?_) | (refine pwp_skip ?_) | ((refine pwp_cond_d (fun hcd => ?_) (fun hcd => ?_)) <;> (try simp only [hcP] at hcd) <;> (try (exfalso; first | omega | exact absurd hcd (by assumption) | exact absurd (by assumption) hcd)))) | (guard_target =~ rg _ _ _ _ _ _ _; first | (guard_target =~ rg _ _ _ [] _ _ _; first | (refine rg_end ?_)) | (refine rg_a rfl (h := ?_)) | (refine rg_v rfl (h := ?_)) | (refine rg_s rfl ?_)) | (guard_target =~ SOp _ _ _ _ _ _; first | (guard_target =~ SOp _ _ ⟨_, .call ⟨.value (.func 121), _, _⟩, _, _, _, none⟩ _ _ _; first | (refine n_call (f := 121) rfl Tryd.call121 (h := AEq.pure' (by first | ((repeat' (first | exact trivial | (first | exact arg_lit | exact arg_sl id id | exact arg_nil | exact arg_sl (by simp) id | exact arg_sl (by simp) (fun _ => rfl) | exact arg_row_m (by rfl) (by rfl) (fun _ => rfl) | exact arg_vw_m (by rfl) (by rfl) (fun _ => rfl) | exact arg_rn (by rfl) (by rfl) | exact arg_junk | exact arg_row_mm (by rfl) (by rfl) (fun _ => rfl)) | refine ⟨?_, ?_⟩)); done) | fail) (csize _ (by omega) (by omega)) (hq := ?_))))) | (refine hK _ _ ?_; clear hK K))
                refine ⟨k + 1, by omega, by omega, ?_, (by repeat' (first | exact agr_refl | refine agr_cons (by rfl) ?_)), ?_⟩
                · (refine ⟨⟨_, (by (try simp (disch := omega) only [go_sem, seval, ↓reduceIte, hU]) <;> rfl), ?_⟩, ⟨_, (by (try simp (disch := omega) only [go_sem, seval, ↓reduceIte, hU]) <;> rfl), ?_⟩, trivial⟩ <;> (try (first | exact ale_eq (by with_reducible rfl) | exact ale_full | exact ale_sl (fun _ => rfl) | exact ale_sl (by simp) | exact ale_junk | exact ale_eq rfl)))
                  all_goals exact ale_i (by rw [cntN_succ, if_neg hsz, Int.add_zero])
                · rw [symK_succ, if_neg hsz, List.append_nil, hbn]
            · have hk7 : k = 257 := by omega
              subst hk7
              have hU := True.intro
              repeat' (first | (guard_target =~ PWp _ _ _ _ _ _ _; first | (refine pwp_seq_k (fun K hK => ?_)) | (refine pwp_rg_then ?_) | (refine pwp_exit ?_) | ((refine pwp_cond_d (fun hcd => ?_) (fun hcd => ?_)) <;> (try simp only [hcP] at hcd) <;> (try (exfalso; first | omega | exact absurd hcd (by assumption) | exact absurd (by assumption) hcd)))) | (guard_target =~ rg _ _ _ _ _ _ _; first | (guard_target =~ rg _ _ _ [] _ _ _; first | (refine rg_end ?_)) | (refine rg_a rfl (h := ?_)) | (refine rg_v rfl (h := ?_))) | (refine hK _ _ ?_; clear hK K) | (apply_assumption (exfalso := false) (symm := false)))
              refine ⟨n + 1, ⟨by omega, by omega⟩, by omega, ?_, (by repeat' (first | exact agr_refl | refine agr_cons (by rfl) ?_)), ?_⟩
              · (refine ⟨⟨_, (by (try simp (disch := omega) only [go_sem, seval, ↓reduceIte, hU]) <;> rfl), ?_⟩, ⟨_, (by (try simp (disch := omega) only [go_sem, seval, ↓reduceIte, hU]) <;> rfl), ?_⟩, trivial⟩ <;> (try (first | exact ale_eq (by with_reducible rfl) | exact ale_full | exact ale_sl (fun _ => rfl) | exact ale_sl (by simp) | exact ale_junk | exact ale_eq rfl)))
                all_goals exact ale_i (codeN_succ n).symm
              · have hb3 : ∀ st : Nat, b2 (n + 1) 0 st (n + 1) (n + 1) = b2 n 257 st (n + 1) (n + 1) := fun st => by unfold b2; rw [codesL_next]
                rw [ordN_succ, List.length_append, hb3]
        · have hn31 : n = 31 := by omega
          subst hn31
          have hol31 := ordN_31
          have hU := @hol31
          repeat' (first | (guard_target =~ PWp _ _ _ _ _ _ _; first | (refine pwp_seq_k (fun K hK => ?_)) | (refine pwp_rg_then ?_) | (refine pwp_ret ?_) | (refine pwp_exit ?_) | ((refine pwp_cond_d (fun hcd => ?_) (fun hcd => ?_)) <;> (try simp only [hcP] at hcd) <;> (try (exfalso; first | omega | exact absurd hcd (by assumption) | exact absurd (by assumption) hcd)))) | (guard_target =~ rg _ _ _ _ _ _ _; first | (guard_target =~ rg _ _ _ [] _ _ _; first | (refine rg_end ?_)) | (refine rg_a rfl (h := ?_)) | (refine rg_v rfl (h := ?_))) | (guard_target =~ (_ ∨ _) ∧ _; first | ((refine end_d [0, 1] (by rw [Tryd.results95, Lf.res1]) (ale_1 ?_) ?_) <;> (try (first | exact ale_eq (by with_reducible rfl) | exact ale_full | exact ale_sl (fun _ => rfl) | exact ale_sl (by simp) | exact ale_junk | exact ale_eq rfl | exact stq (by with_reducible rfl) | exact stq (by rfl) | exact stq (by simp (disch := omega) only [go_sem, seval, ↓reduceIte, hU]))))) | (refine hK _ _ ?_; clear hK K) | (apply_assumption (exfalso := false) (symm := false)))
end Go.Proofs.YtohbfcmmpaikhaaDoor

set_option linter.unusedVariables false
set_option linter.unusedSimpArgs false
namespace Go.Proofs.YtohbfcmmpaikhaaDoor
open Go Go.Lf Go.Proofs
attribute [local irreducible] Lf.rg Lf.ro Lf.PWp Lf.SOp Lf.ACall Lf.Scoped Lf.dg Lf.dw
set_option maxRecDepth 20000
set_option maxHeartbeats 4000000
def bkB : List AV := bkA (b2 31 0 257 31 31)
def ordB : List Nat := ordN 31
def fstI (n : Nat) : Int := codeN n * 2
def bseI (n : Nat) : Int := ((ordN n).length : Int)
theorem ordB_len : ordB.length = 257 := ordN_31
theorem bkB_0 : bkB[0]? = some (bl true) := by unfold bkB bkA; rfl
theorem bkB_ord : bkB[258]? = some (.row 1 257) := bk_o_at (b2_wf 31 0 257 31 31)
theorem bkB_first {n : Nat} (h1 : 1 ≤ n) (hn : n ≤ 30) : bkB[259 + n]? = some (i64 (fstI n)) := by
  have e : bkB = (bl true :: ((codesL 31 0).map nA ++ [.row 1 257])) ++ ((firstL 31).map nA ++ ((cntL 257).map nA ++ (baseL 31).map nA)) := by unfold bkB bkA b2; simp
  have hl : (bl true :: ((codesL 31 0).map nA ++ [AV.row 1 257])).length = 259 := by simp [codesL]
  rw [e, List.getElem?_append_right (by omega), hl, show 259 + n - 259 = n from by omega, List.getElem?_append_left (by simp [firstL]; omega), List.getElem?_map]
  have hc : (firstL 31)[n]? = some (fstI n) := by
    unfold firstL
    rw [List.getElem?_map, List.getElem?_range (by omega), Option.map_some, if_pos ⟨h1, by omega⟩]; rfl
  rw [hc]; rfl
theorem bkB_count {n : Nat} (hn : n ≤ 30) : bkB[290 + n]? = some (i64 (cntN 257 n)) := by
  refine bk_count_at (b2_wf 31 0 257 31 31) ?_
  show (cntL 257)[n]? = _
  unfold cntL
  rw [List.getElem?_map, List.getElem?_range (by omega)]; rfl
theorem bkB_base {n : Nat} (h1 : 1 ≤ n) (hn : n ≤ 30) : bkB[321 + n]? = some (i64 (bseI n)) := by
  have e : bkB = (bl true :: ((codesL 31 0).map nA ++ .row 1 257 :: ((firstL 31).map nA ++ (cntL 257).map nA))) ++ (baseL 31).map nA := by unfold bkB bkA b2; simp
  have hl : (bl true :: ((codesL 31 0).map nA ++ .row 1 257 :: ((firstL 31).map nA ++ (cntL 257).map nA))).length = 321 := by simp [codesL, firstL, cntL]
  rw [e, List.getElem?_append_right (by omega), hl, show 321 + n - 321 = n from by omega, List.getElem?_map]
  have hc : (baseL 31)[n]? = some (bseI n) := by
    unfold baseL
    rw [List.getElem?_map, List.getElem?_range (by omega), Option.map_some, if_pos ⟨h1, by omega⟩]; rfl
  rw [hc]; rfl
@[go_sem] theorem fz_bkB {σ : Sto} : fzl [0, 1] σ bkB = bkB := fz_b2 31 0 257 31 31
theorem cbook : AEq Tryd.prog 95 [] [] (.ptr 0 0) [.box bkB, .row 257 3 1 (ordB.map natA)] := cmake
def findY (c n : Int) : Bool := decide (1 ≤ n ∧ n ≤ 30 ∧ fstI n.toNat ≤ c ∧ c - fstI n.toNat < cntN 257 n.toNat)
def findS (c n : Int) : Int := (ordB.getD (bseI n.toNat + (c - fstI n.toNat)).toNat 0 : Nat)
theorem tab_bd : ∀ n : Fin 31, 0 ≤ fstI n.val ∧ fstI n.val ≤ 4294967296 ∧ 0 ≤ bseI n.val ∧ 0 ≤ cntN 257 n.val ∧ bseI n.val + cntN 257 n.val ≤ 257 := by decide +kernel
theorem rnl_all (f : Nat → Nat) : ∀ xs, rnl f xs = xs.map (rn f)
  | [] => rfl
  | x :: xs => by rw [rnl, rnl_all f xs]; rfl
theorem scpl_all (n : Nat) : ∀ xs, scpl n xs = xs.all (scp n)
  | [] => rfl
  | x :: xs => by rw [scpl, scpl_all n xs]; rfl
theorem nbl_all : ∀ xs, nbl xs = xs.all nb
  | [] => rfl
  | x :: xs => by rw [nbl, nbl_all xs]; rfl
@[go_sem] theorem rnl_bkB (L : Nat) : rnl (ix [0, 1] L) bkB = bkB := by
  rw [rnl_all]
  unfold bkB bkA b2
  have h : ∀ l : List Int, (l.map nA).map (rn (ix [0, 1] L)) = l.map nA := by
    intro l; rw [List.map_map]; exact List.map_congr_left (fun _ _ => rfl)
  simp only [List.map_cons, List.map_append, h]
  rfl
theorem scpl_bkB : scpl 2 bkB = true := by
  rw [scpl_all]
  unfold bkB bkA b2
  have h : ∀ l : List Int, (l.map nA).all (scp 2) = true := by
    intro l; rw [List.all_map]; exact List.all_eq_true.2 (fun _ _ => rfl)
  simp only [List.all_cons, List.all_append, h]
  rfl
@[go_sem] theorem nbl_bkB : nbl bkB = true := by
  rw [nbl_all]
  unfold bkB bkA b2
  have h : ∀ l : List Int, (l.map nA).all nb = true := by
    intro l; rw [List.all_map]; exact List.all_eq_true.2 (fun _ _ => rfl)
  simp only [List.all_cons, List.all_append, h]
  rfl
theorem sub_bk (σ : Sto) : SubOk [0, 1] [.box bkB, .row 257 3 1 (ordB.map natA)] (.box bkB :: .row 257 3 1 (ordB.map natA) :: σ) := by
  refine SubOk.mk' (by decide) ⟨?_, scpl_bkB, rfl, purl_nat ordB, trivial⟩
  show some (Ob.box bkB) = some (Ob.box (rnl _ bkB))
  rw [rnl_bkB]
theorem okP_bk : ([.box bkB, .row 257 3 1 (ordB.map natA)] : Sto).all okP = true := by
  have h1 := nbl_bkB
  have h2 := purl_nat ordB
  simp only [List.all_cons, List.all_nil, okP, h1, h2, Bool.and_self]
attribute [local irreducible] bkB cntN ordB fstI bseI csI
theorem bhas (s : Int) : AEq Tryd.prog 124 [.ptr 0 0, i64 s] [.box bkB, .row 257 3 1 (ordB.map natA)] (bl (decide (0 ≤ s) && decide (s ≤ 256))) [.box bkB, .row 257 3 1 (ordB.map natA)] := by
  have h0 := bkB_0
  refine acall_body Tryd.func124 rfl Tryd.ntmps124 (by simp) (fun hsc => ?_); simp only [Lf.enter, Nat.reduceAdd]; clear hsc
  have hU := @h0
  repeat' (first | (guard_target =~ PWp _ _ _ _ _ _ _; first | (refine pwp_seq_k (fun K hK => ?_)) | (refine pwp_rg_then ?_) | (refine pwp_ret ?_)) | (guard_target =~ rg _ _ _ _ _ _ _; first | (guard_target =~ rg _ _ _ (⟨_, .move _, _, _, _, some _⟩ :: _) _ _ _; first | (refine rg_gtp rfl (h := ?_)) | (refine rg_gq rfl (h := ?_))) | (guard_target =~ rg _ _ _ (⟨_, .binOp _ _ _ _ _, _, _, _, some _⟩ :: _) _ _ _; first | (refine rg_gtp rfl (h := ?_)) | (refine rg_gq rfl (h := ?_))) | (guard_target =~ rg _ _ _ (⟨_, .fieldAddr _ _ _, _, _, _, some _⟩ :: _) _ _ _; first | (refine rg_gtp rfl (h := ?_)) | (refine rg_gq rfl (h := ?_))) | (guard_target =~ rg _ _ _ (⟨_, .load _ _, _, _, _, some _⟩ :: _) _ _ _; first | (refine rg_gtp rfl (h := ?_)) | (refine rg_gq rfl (h := ?_))) | (guard_target =~ rg _ _ _ (⟨_, .nilCheck _, _, _, _, some _⟩ :: _) _ _ _; first | (refine rg_gtp rfl (h := ?_)) | (refine rg_gq rfl (h := ?_))) | (guard_target =~ rg _ _ _ [] _ _ _; first | (refine rg_end ?_)) | (refine rg_a rfl (h := ?_)) | (refine rg_v rfl (h := ?_))) | (guard_target =~ (_ ∨ _) ∧ _; first | ((refine end_d [0, 1] (by rw [Tryd.results124, Lf.res1]) (ale_1 ?_) ?_) <;> (try (first | exact ale_eq (by with_reducible rfl) | exact ale_full | exact ale_sl (fun _ => rfl) | exact ale_sl (by simp) | exact ale_junk | exact ale_eq rfl | exact stq (by with_reducible rfl) | exact stq (by rfl) | exact stq (by simp (disch := omega) only [go_sem, seval, ↓reduceIte, hU]))))) | (refine hK _ _ ?_; clear hK K))
end Go.Proofs.YtohbfcmmpaikhaaDoor

set_option linter.unusedVariables false
set_option linter.unusedSimpArgs false
namespace Go.Proofs.YtohbfcmmpaikhaaDoor
open Go Go.Lf Go.Proofs
attribute [local irreducible] Lf.rg Lf.ro Lf.PWp Lf.SOp Lf.ACall Lf.Scoped Lf.dg Lf.dw
set_option maxRecDepth 20000
set_option maxHeartbeats 4000000
theorem findY_n {c n : Int} (h : ¬ (1 ≤ n ∧ n ≤ 30 ∧ fstI n.toNat ≤ c ∧ c - fstI n.toNat < cntN 257 n.toNat)) : findY c n = false := decide_eq_false h
theorem findY_y {c n : Int} (h : 1 ≤ n ∧ n ≤ 30 ∧ fstI n.toNat ≤ c ∧ c - fstI n.toNat < cntN 257 n.toNat) : findY c n = true := decide_eq_true h
def findR (c n : Int) : Int := if findY c n = true then findS c n else 0
attribute [local irreducible] bkB cntN ordB fstI bseI csI
theorem bfind (c n : Int) (h0 : 0 ≤ c) (h1 : c ≤ 4294967296) : AEq Tryd.prog 98 [.ptr 0 0, i64 c, i64 n] [.box bkB, .row 257 3 1 (ordB.map natA)] (.tu [i64 (findR c n), bl (findY c n)]) [.box bkB, .row 257 3 1 (ordB.map natA)] := by
  by_cases hn : 1 ≤ n ∧ n ≤ 30
  · obtain ⟨hn1, hn2⟩ := hn
    obtain ⟨m, rfl⟩ : ∃ m : Nat, n = m := ⟨n.toNat, by omega⟩
    have hm1 : 1 ≤ m := by omega
    have hm2 : m ≤ 30 := by omega
    obtain ⟨t1, t2, t3, t4, t5⟩ := tab_bd ⟨m, by omega⟩
    dsimp only at t1 t2 t3 t4 t5
    have hf : bkB[259 + m * 1]? = some (i64 (fstI m)) := by rw [Nat.mul_one]; exact bkB_first hm1 hm2
    have hcn : bkB[290 + m * 1]? = some (i64 (cntN 257 m)) := by rw [Nat.mul_one]; exact bkB_count hm2
    have hbs : bkB[321 + m * 1]? = some (i64 (bseI m)) := by rw [Nat.mul_one]; exact bkB_base hm1 hm2
    have ho := bkB_ord
    have hol := ordB_len
    by_cases hc1 : c < fstI m
    · have hY := findY_n (c := c) (n := (m : Int)) (by rw [Int.toNat_natCast]; omega)
      have hR : findR c m = 0 := by unfold findR; rw [hY]; rfl
      rw [hY, hR]
      refine acall_body Tryd.func98 rfl Tryd.ntmps98 (by simp) (fun hsc => ?_); simp only [Lf.enter, Nat.reduceAdd]; clear hsc
      have hU := And.intro @hf ( And.intro @hcn ( And.intro @hbs (@ho)))
      repeat' (first | (guard_target =~ PWp _ _ _ _ _ _ _; first | (refine pwp_seq_k (fun K hK => ?_)) | (refine pwp_rg_then ?_) | (refine pwp_ret ?_) | (refine pwp_skip ?_) | ((refine pwp_cond_d (fun hcd => ?_) (fun hcd => ?_)) <;> (try simp only [hcP] at hcd) <;> (try (exfalso; first | omega | exact absurd hcd (by assumption) | exact absurd (by assumption) hcd)))) | (guard_target =~ rg _ _ _ _ _ _ _; first | (guard_target =~ rg _ _ _ (⟨_, .move _, _, _, _, some _⟩ :: _) _ _ _; first | (refine rg_gtp rfl (h := ?_)) | (refine rg_gq rfl (h := ?_))) | (guard_target =~ rg _ _ _ (⟨_, .binOp _ _ _ _ _, _, _, _, some _⟩ :: _) _ _ _; first | (refine rg_gtp rfl (h := ?_)) | (refine rg_gq rfl (h := ?_))) | (guard_target =~ rg _ _ _ [] _ _ _; first | (refine rg_end ?_)) | (refine rg_a rfl (h := ?_)) | (refine rg_v rfl (h := ?_)) | (refine rg_s rfl ?_)) | (guard_target =~ SOp _ _ _ _ _ _; first | (guard_target =~ SOp _ _ ⟨_, .indexAddr _ _ _, _, _, _, none⟩ _ _ _; first | (refine n_index_arr rfl (hK := ?_))) | (guard_target =~ SOp _ _ ⟨_, .call ⟨.value (.func 124), _, _⟩, _, _, _, none⟩ _ _ _; first | (refine n_call (f := 124) rfl Tryd.call124 (h := AEq.sub' [0, 1] (by refine ⟨?_, ?_, trivial⟩ <;> (first | exact arg_lit | exact arg_rn (by rfl) (by rfl))) (by exact sub_bk _) (bhas _) (ho := by exact okP_bk) (hq := ?_))))) | (guard_target =~ (_ ∨ _) ∧ _; first | ((refine end_d [0, 1] (by rw [Tryd.results98, Lf.res2]) (ale_2 ?_ ?_) ?_) <;> (try (first | exact ale_eq (by with_reducible rfl) | exact ale_full | exact ale_sl (fun _ => rfl) | exact ale_sl (by simp) | exact ale_junk | exact ale_eq rfl | exact stq (by with_reducible rfl) | exact stq (by rfl) | exact stq (by simp (disch := omega) only [go_sem, seval, ↓reduceIte, hU]))))) | (refine hK _ _ ?_; clear hK K))
    by_cases hc2 : c - fstI m < cntN 257 m
    · have hY := findY_y (c := c) (n := (m : Int)) (by rw [Int.toNat_natCast]; omega)
      obtain ⟨i, hi⟩ : ∃ i : Nat, bseI m + (c - fstI m) = i := ⟨(bseI m + (c - fstI m)).toNat, by omega⟩
      have hil : i < ordB.length := by rw [hol]; omega
      obtain ⟨s, hs⟩ : ∃ s, ordB[i]? = some s := ⟨ordB[i], List.getElem?_eq_getElem hil⟩
      have hR : findR c m = (s : Int) := by
        unfold findR findS
        rw [if_pos hY, Int.toNat_natCast, hi, Int.toNat_natCast, List.getD_eq_getElem?_getD, hs]; rfl
      rw [hY, hR]
      have hm3 : (List.map natA ordB)[i]? = some (natA s) := by rw [List.getElem?_map, hs]; rfl
      refine acall_body Tryd.func98 rfl Tryd.ntmps98 (by simp) (fun hsc => ?_); simp only [Lf.enter, Nat.reduceAdd]; clear hsc
      have hU := And.intro @hf ( And.intro @hcn ( And.intro @hbs ( And.intro @ho ( And.intro @hi ( And.intro @hs (@hm3))))))
      repeat' (first | (guard_target =~ PWp _ _ _ _ _ _ _; first | (refine pwp_seq_k (fun K hK => ?_)) | (refine pwp_rg_then ?_) | (refine pwp_draw mixed (by kernel_rfl) ?_) | (refine pwp_ret ?_) | (refine pwp_skip ?_) | ((refine pwp_cond_d (fun hcd => ?_) (fun hcd => ?_)) <;> (try simp only [hcP] at hcd) <;> (try (exfalso; first | omega | exact absurd hcd (by assumption) | exact absurd (by assumption) hcd)))) | (guard_target =~ rg _ _ _ _ _ _ _; first | (guard_target =~ rg _ _ _ (⟨_, .move _, _, _, _, some _⟩ :: _) _ _ _; first | (refine rg_gtp rfl (h := ?_)) | (refine rg_gq rfl (h := ?_))) | (guard_target =~ rg _ _ _ (⟨_, .binOp _ _ _ _ _, _, _, _, some _⟩ :: _) _ _ _; first | (refine rg_gtp rfl (h := ?_)) | (refine rg_gq rfl (h := ?_))) | (guard_target =~ rg _ _ _ [] _ _ _; first | (refine rg_end ?_)) | (refine rg_a rfl (h := ?_)) | (refine rg_v rfl (h := ?_)) | (refine rg_s rfl ?_)) | (guard_target =~ SOp _ _ _ _ _ _; first | (guard_target =~ SOp _ _ ⟨_, .indexAddr _ _ _, _, _, _, none⟩ _ _ _; first | (refine n_index_arr rfl (hK := ?_))) | (guard_target =~ SOp _ _ ⟨_, .call ⟨.value (.func 124), _, _⟩, _, _, _, none⟩ _ _ _; first | (refine n_call (f := 124) rfl Tryd.call124 (h := AEq.sub' [0, 1] (by refine ⟨?_, ?_, trivial⟩ <;> (first | exact arg_lit | exact arg_rn (by rfl) (by rfl))) (by exact sub_bk _) (bhas _) (ho := by exact okP_bk) (hq := ?_))))) | (guard_target =~ dg _ _ _ _ _ _ _; first | (guard_target =~ dg _ _ _ (⟨_, .move _, _, _, _, none⟩ :: _) _ _ _; first | (refine dg_v rfl (hk := ?_))) | (guard_target =~ dg _ _ _ (⟨_, .assign _, _, _, _, none⟩ :: _) _ _ _; first | (refine dg_a rfl (hk := ?_))) | (guard_target =~ dg _ _ _ (⟨_, .load _ _, _, _, _, none⟩ :: _) _ _ _; first | (refine dg_v rfl (hk := ?_))) | (guard_target =~ dg _ _ _ (⟨_, .fieldAddr _ _ _, _, _, _, none⟩ :: _) _ _ _; first | (refine dg_v rfl (hk := ?_))) | (guard_target =~ dg _ _ _ (⟨_, .nilCheck _, _, _, _, none⟩ :: _) _ _ _; first | (refine dg_v rfl (hk := ?_))) | (guard_target =~ dg _ _ _ (⟨_, .indexAddr _ _ _, _, _, _, none⟩ :: _) _ _ _; first | (refine dg_c (x := _) (h := ro_s (h := n_index_row rfl (hK := ro_end ⟨rfl, rfl⟩))) (hk := ?_)) | (refine dg_c (x := _) (h := ro_s (h := n_index_arr rfl (hK := ro_end ⟨rfl, rfl⟩))) (hk := ?_))) | (guard_target =~ dg _ _ _ (⟨_, .binOp _ _ _ _ _, _, _, _, none⟩ :: _) _ _ _; first | (refine dg_v rfl (hk := ?_))) | (guard_target =~ dg _ _ _ (⟨_, .pick _ _ _, _, _, _, none⟩ :: _) _ _ _; first | (refine dg_v rfl (hk := ?_))) | (guard_target =~ dg _ _ _ (⟨_, .unOp _ _ _, _, _, _, none⟩ :: _) _ _ _; first | (refine dg_v rfl (hk := ?_))) | (guard_target =~ dg _ _ _ [] _ _ _; first | (refine dg_nil ?_))) | (guard_target =~ (_ ∨ _) ∧ _; first | ((refine end_d [0, 1] (by rw [Tryd.results98, Lf.res2]) (ale_2 ?_ ?_) ?_) <;> (try (first | exact ale_eq (by with_reducible rfl) | exact ale_full | exact ale_sl (fun _ => rfl) | exact ale_sl (by simp) | exact ale_junk | exact ale_eq rfl | exact stq (by with_reducible rfl) | exact stq (by rfl) | exact stq (by simp (disch := omega) only [go_sem, seval, ↓reduceIte, hU]))))) | (refine hK _ _ ?_; clear hK K))
    · have hY := findY_n (c := c) (n := (m : Int)) (by rw [Int.toNat_natCast]; omega)
      have hR : findR c m = 0 := by unfold findR; rw [hY]; rfl
      rw [hY, hR]
      refine acall_body Tryd.func98 rfl Tryd.ntmps98 (by simp) (fun hsc => ?_); simp only [Lf.enter, Nat.reduceAdd]; clear hsc
      have hU := And.intro @hf ( And.intro @hcn ( And.intro @hbs (@ho)))
      repeat' (first | (guard_target =~ PWp _ _ _ _ _ _ _; first | (refine pwp_seq_k (fun K hK => ?_)) | (refine pwp_rg_then ?_) | (refine pwp_ret ?_) | (refine pwp_skip ?_) | ((refine pwp_cond_d (fun hcd => ?_) (fun hcd => ?_)) <;> (try simp only [hcP] at hcd) <;> (try (exfalso; first | omega | exact absurd hcd (by assumption) | exact absurd (by assumption) hcd)))) | (guard_target =~ rg _ _ _ _ _ _ _; first | (guard_target =~ rg _ _ _ (⟨_, .move _, _, _, _, some _⟩ :: _) _ _ _; first | (refine rg_gtp rfl (h := ?_)) | (refine rg_gq rfl (h := ?_))) | (guard_target =~ rg _ _ _ (⟨_, .binOp _ _ _ _ _, _, _, _, some _⟩ :: _) _ _ _; first | (refine rg_gtp rfl (h := ?_)) | (refine rg_gq rfl (h := ?_))) | (guard_target =~ rg _ _ _ [] _ _ _; first | (refine rg_end ?_)) | (refine rg_a rfl (h := ?_)) | (refine rg_v rfl (h := ?_)) | (refine rg_s rfl ?_)) | (guard_target =~ SOp _ _ _ _ _ _; first | (guard_target =~ SOp _ _ ⟨_, .indexAddr _ _ _, _, _, _, none⟩ _ _ _; first | (refine n_index_arr rfl (hK := ?_))) | (guard_target =~ SOp _ _ ⟨_, .call ⟨.value (.func 124), _, _⟩, _, _, _, none⟩ _ _ _; first | (refine n_call (f := 124) rfl Tryd.call124 (h := AEq.sub' [0, 1] (by refine ⟨?_, ?_, trivial⟩ <;> (first | exact arg_lit | exact arg_rn (by rfl) (by rfl))) (by exact sub_bk _) (bhas _) (ho := by exact okP_bk) (hq := ?_))))) | (guard_target =~ (_ ∨ _) ∧ _; first | ((refine end_d [0, 1] (by rw [Tryd.results98, Lf.res2]) (ale_2 ?_ ?_) ?_) <;> (try (first | exact ale_eq (by with_reducible rfl) | exact ale_full | exact ale_sl (fun _ => rfl) | exact ale_sl (by simp) | exact ale_junk | exact ale_eq rfl | exact stq (by with_reducible rfl) | exact stq (by rfl) | exact stq (by simp (disch := omega) only [go_sem, seval, ↓reduceIte, hU]))))) | (refine hK _ _ ?_; clear hK K))
  · have hY := findY_n (c := c) (n := n) (by omega)
    have hR : findR c n = 0 := by unfold findR; rw [hY]; rfl
    rw [hY, hR]
    refine acall_body Tryd.func98 rfl Tryd.ntmps98 (by simp) (fun hsc => ?_); simp only [Lf.enter, Nat.reduceAdd]; clear hsc
    have hU := True.intro
    repeat' (first | (guard_target =~ PWp _ _ _ _ _ _ _; first | (refine pwp_seq_k (fun K hK => ?_)) | (refine pwp_rg_then ?_) | (refine pwp_ret ?_) | ((refine pwp_cond_d (fun hcd => ?_) (fun hcd => ?_)) <;> (try simp only [hcP] at hcd) <;> (try (exfalso; first | omega | exact absurd hcd (by assumption) | exact absurd (by assumption) hcd)))) | (guard_target =~ rg _ _ _ _ _ _ _; first | (guard_target =~ rg _ _ _ (⟨_, .move _, _, _, _, some _⟩ :: _) _ _ _; first | (refine rg_gtp rfl (h := ?_)) | (refine rg_gq rfl (h := ?_))) | (guard_target =~ rg _ _ _ (⟨_, .binOp _ _ _ _ _, _, _, _, some _⟩ :: _) _ _ _; first | (refine rg_gtp rfl (h := ?_)) | (refine rg_gq rfl (h := ?_))) | (guard_target =~ rg _ _ _ [] _ _ _; first | (refine rg_end ?_)) | (refine rg_a rfl (h := ?_)) | (refine rg_v rfl (h := ?_)) | (refine rg_s rfl ?_)) | (guard_target =~ SOp _ _ _ _ _ _; first | (guard_target =~ SOp _ _ ⟨_, .call ⟨.value (.func 124), _, _⟩, _, _, _, none⟩ _ _ _; first | (refine n_call (f := 124) rfl Tryd.call124 (h := AEq.sub' [0, 1] (by refine ⟨?_, ?_, trivial⟩ <;> (first | exact arg_lit | exact arg_rn (by rfl) (by rfl))) (by exact sub_bk _) (bhas _) (ho := by exact okP_bk) (hq := ?_))))) | (guard_target =~ (_ ∨ _) ∧ _; first | ((refine end_d [0, 1] (by rw [Tryd.results98, Lf.res2]) (ale_2 ?_ ?_) ?_) <;> (try (first | exact ale_eq (by with_reducible rfl) | exact ale_full | exact ale_sl (fun _ => rfl) | exact ale_sl (by simp) | exact ale_junk | exact ale_eq rfl | exact stq (by with_reducible rfl) | exact stq (by rfl) | exact stq (by simp (disch := omega) only [go_sem, seval, ↓reduceIte, hU]))))) | (refine hK _ _ ?_; clear hK K))
end Go.Proofs.YtohbfcmmpaikhaaDoor

set_option linter.unusedVariables false
set_option linter.unusedSimpArgs false
namespace Go.Proofs.YtohbfcmmpaikhaaDoor
open Go Go.Lf Go.Proofs
attribute [local irreducible] Lf.rg Lf.ro Lf.PWp Lf.SOp Lf.ACall Lf.Scoped Lf.dg Lf.dw
set_option maxRecDepth 20000
set_option maxHeartbeats 4000000
end Go.Proofs.YtohbfcmmpaikhaaDoor

set_option linter.unusedVariables false
set_option linter.unusedSimpArgs false
namespace Go.Proofs.YtohbfcmmpaikhaaDoor
open Go Go.Lf Go.Proofs
attribute [local irreducible] Lf.rg Lf.ro Lf.PWp Lf.SOp Lf.ACall Lf.Scoped Lf.dg Lf.dw
set_option maxRecDepth 20000
set_option maxHeartbeats 4000000
def tR0 : List Int := [13, 23, 28, 28, 28, 28, 28, 28, 28, 24, 30, 28, 28, 30, 28, 28]
def tR1 : List Int := [28, 28, 28, 28, 28, 28, 30, 28, 28, 28, 28, 28, 28, 28, 28, 28]
def tR2 : List Int := [6, 10, 10, 12, 13, 6, 8, 11, 10, 10, 8, 11, 8, 6, 6, 6]
def tR3 : List Int := [5, 5, 5, 6, 6, 6, 6, 6, 6, 6, 7, 8, 15, 6, 12, 10]
def tR4 : List Int := [13, 6, 7, 7, 7, 7, 7, 7, 7, 7, 7, 7, 7, 7, 7, 7]
def tR5 : List Int := [7, 7, 7, 7, 7, 7, 7, 7, 8, 7, 8, 13, 19, 13, 14, 6]
def tR6 : List Int := [15, 5, 6, 5, 6, 5, 6, 6, 6, 5, 7, 7, 6, 6, 6, 5]
def tR7 : List Int := [6, 7, 6, 5, 5, 6, 7, 7, 7, 7, 7, 15, 11, 14, 13, 28]
def tR8 : List Int := [20, 22, 20, 20, 22, 22, 22, 23, 22, 23, 23, 23, 23, 23, 24, 23]
def tR9 : List Int := [24, 24, 22, 23, 24, 23, 23, 23, 23, 21, 22, 23, 22, 23, 23, 24]
def tR10 : List Int := [22, 21, 20, 22, 22, 23, 23, 21, 23, 22, 22, 24, 21, 22, 23, 23]
def tR11 : List Int := [21, 21, 22, 21, 23, 22, 23, 23, 20, 22, 22, 22, 23, 22, 22, 23]
def tR12 : List Int := [26, 26, 20, 19, 22, 23, 22, 25, 26, 26, 26, 27, 27, 26, 24, 25]
def tR13 : List Int := [19, 21, 26, 27, 27, 26, 27, 24, 21, 21, 26, 26, 28, 27, 27, 27]
def tR14 : List Int := [20, 24, 20, 21, 22, 21, 21, 23, 22, 22, 25, 25, 24, 24, 26, 23]
def tR15 : List Int := [26, 27, 26, 26, 27, 27, 27, 27, 27, 28, 27, 27, 27, 27, 27, 26]
def tR16 : List Int := [30]
def rowL : Nat → List Int
  | 0 => tR0
  | 1 => tR1
  | 2 => tR2
  | 3 => tR3
  | 4 => tR4
  | 5 => tR5
  | 6 => tR6
  | 7 => tR7
  | 8 => tR8
  | 9 => tR9
  | 10 => tR10
  | 11 => tR11
  | 12 => tR12
  | 13 => tR13
  | 14 => tR14
  | 15 => tR15
  | _ => tR16
def lensT : List Int := (List.range 257).map fun s : Nat => szI (s : Int)
attribute [local irreducible] rowL szI lensT symK ordN cntN codeN
end Go.Proofs.YtohbfcmmpaikhaaDoor

set_option linter.unusedVariables false
set_option linter.unusedSimpArgs false
namespace Go.Proofs.YtohbfcmmpaikhaaDoor
open Go Go.Lf Go.Proofs
attribute [local irreducible] Lf.rg Lf.ro Lf.PWp Lf.SOp Lf.ACall Lf.Scoped Lf.dg Lf.dw
set_option maxRecDepth 20000
set_option maxHeartbeats 4000000
def symT : List Nat := [48, 49, 50, 97, 99, 101, 105, 111, 115, 116, 32, 37, 45, 46, 47, 51, 52, 53, 54, 55, 56, 57, 61, 65, 95, 98, 100, 102, 103, 104, 108, 109, 110, 112, 114, 117, 58, 66, 67, 68, 69, 70, 71, 72, 73, 74, 75, 76, 77, 78, 79, 80, 81, 82, 83, 84, 85, 86, 87, 89, 106, 107, 113, 118, 119, 120, 121, 122, 38, 42, 44, 59, 88, 90, 33, 34, 40, 41, 63, 39, 43, 124, 35, 62, 0, 36, 64, 91, 93, 126, 94, 125, 60, 96, 123, 92, 195, 208, 128, 130, 131, 162, 184, 194, 224, 226, 153, 161, 167, 172, 176, 177, 179, 209, 216, 217, 227, 229, 230, 129, 132, 133, 134, 136, 146, 154, 156, 160, 163, 164, 169, 170, 173, 178, 181, 185, 186, 187, 189, 190, 196, 198, 228, 232, 233, 1, 135, 137, 138, 139, 140, 141, 143, 147, 149, 150, 151, 152, 155, 157, 158, 165, 166, 168, 174, 175, 180, 182, 183, 188, 191, 197, 231, 239, 9, 142, 144, 145, 148, 159, 171, 206, 215, 225, 236, 237, 199, 207, 234, 235, 192, 193, 200, 201, 202, 205, 210, 213, 218, 219, 238, 240, 242, 243, 255, 203, 204, 211, 212, 214, 221, 222, 223, 241, 244, 245, 246, 247, 248, 250, 251, 252, 253, 254, 2, 3, 4, 5, 6, 7, 8, 11, 12, 14, 15, 16, 17, 18, 19, 20, 21, 23, 24, 25, 26, 27, 28, 29, 30, 31, 127, 220, 249, 10, 13, 22, 256]
def lenO : List Nat := [5, 5, 5, 5, 5, 5, 5, 5, 5, 5, 6, 6, 6, 6, 6, 6, 6, 6, 6, 6, 6, 6, 6, 6, 6, 6, 6, 6, 6, 6, 6, 6, 6, 6, 6, 6, 7, 7, 7, 7, 7, 7, 7, 7, 7, 7, 7, 7, 7, 7, 7, 7, 7, 7, 7, 7, 7, 7, 7, 7, 7, 7, 7, 7, 7, 7, 7, 7, 8, 8, 8, 8, 8, 8, 10, 10, 10, 10, 10, 11, 11, 11, 12, 12, 13, 13, 13, 13, 13, 13, 14, 14, 15, 15, 15, 19, 19, 19, 20, 20, 20, 20, 20, 20, 20, 20, 21, 21, 21, 21, 21, 21, 21, 21, 21, 21, 21, 21, 21, 22, 22, 22, 22, 22, 22, 22, 22, 22, 22, 22, 22, 22, 22, 22, 22, 22, 22, 22, 22, 22, 22, 22, 22, 22, 22, 23, 23, 23, 23, 23, 23, 23, 23, 23, 23, 23, 23, 23, 23, 23, 23, 23, 23, 23, 23, 23, 23, 23, 23, 23, 23, 23, 23, 23, 24, 24, 24, 24, 24, 24, 24, 24, 24, 24, 24, 24, 25, 25, 25, 25, 26, 26, 26, 26, 26, 26, 26, 26, 26, 26, 26, 26, 26, 26, 26, 27, 27, 27, 27, 27, 27, 27, 27, 27, 27, 27, 27, 27, 27, 27, 27, 27, 27, 27, 28, 28, 28, 28, 28, 28, 28, 28, 28, 28, 28, 28, 28, 28, 28, 28, 28, 28, 28, 28, 28, 28, 28, 28, 28, 28, 28, 28, 28, 30, 30, 30, 30]
def codO : List Int := [0, 1, 2, 3, 4, 5, 6, 7, 8, 9, 20, 21, 22, 23, 24, 25, 26, 27, 28, 29, 30, 31, 32, 33, 34, 35, 36, 37, 38, 39, 40, 41, 42, 43, 44, 45, 92, 93, 94, 95, 96, 97, 98, 99, 100, 101, 102, 103, 104, 105, 106, 107, 108, 109, 110, 111, 112, 113, 114, 115, 116, 117, 118, 119, 120, 121, 122, 123, 248, 249, 250, 251, 252, 253, 1016, 1017, 1018, 1019, 1020, 2042, 2043, 2044, 4090, 4091, 8184, 8185, 8186, 8187, 8188, 8189, 16380, 16381, 32764, 32765, 32766, 524272, 524273, 524274, 1048550, 1048551, 1048552, 1048553, 1048554, 1048555, 1048556, 1048557, 2097116, 2097117, 2097118, 2097119, 2097120, 2097121, 2097122, 2097123, 2097124, 2097125, 2097126, 2097127, 2097128, 4194258, 4194259, 4194260, 4194261, 4194262, 4194263, 4194264, 4194265, 4194266, 4194267, 4194268, 4194269, 4194270, 4194271, 4194272, 4194273, 4194274, 4194275, 4194276, 4194277, 4194278, 4194279, 4194280, 4194281, 4194282, 4194283, 8388568, 8388569, 8388570, 8388571, 8388572, 8388573, 8388574, 8388575, 8388576, 8388577, 8388578, 8388579, 8388580, 8388581, 8388582, 8388583, 8388584, 8388585, 8388586, 8388587, 8388588, 8388589, 8388590, 8388591, 8388592, 8388593, 8388594, 8388595, 8388596, 16777194, 16777195, 16777196, 16777197, 16777198, 16777199, 16777200, 16777201, 16777202, 16777203, 16777204, 16777205, 33554412, 33554413, 33554414, 33554415, 67108832, 67108833, 67108834, 67108835, 67108836, 67108837, 67108838, 67108839, 67108840, 67108841, 67108842, 67108843, 67108844, 67108845, 67108846, 134217694, 134217695, 134217696, 134217697, 134217698, 134217699, 134217700, 134217701, 134217702, 134217703, 134217704, 134217705, 134217706, 134217707, 134217708, 134217709, 134217710, 134217711, 134217712, 268435426, 268435427, 268435428, 268435429, 268435430, 268435431, 268435432, 268435433, 268435434, 268435435, 268435436, 268435437, 268435438, 268435439, 268435440, 268435441, 268435442, 268435443, 268435444, 268435445, 268435446, 268435447, 268435448, 268435449, 268435450, 268435451, 268435452, 268435453, 268435454, 1073741820, 1073741821, 1073741822, 1073741823]
theorem symT_is : ordN 31 = symT := by decide +kernel
theorem symT_len : symT.length = 257 := by decide +kernel
theorem symT_lt : ∀ s ∈ symT, s < 257 := by decide +kernel
theorem lenO_is : symT.map (fun s : Nat => szI (s : Int)) = lenO.map (fun n : Nat => (n : Int)) := by decide +kernel
theorem codO_is : symT.map csI = codO := by decide +kernel
def outL : Nat → List Int
  | 0 => List.replicate 257 0
  | i + 1 => (outL i).set (symT.getD i 0) (codO.getD i 0)
def cdB : Nat → Int
  | 0 => 0
  | i + 1 => codO.getD i 0
def codesT : List Int := (List.range 257).map csI
theorem lenO_len : lenO.length = 257 := by decide +kernel
theorem sym_at {i : Nat} (h : i < 257) : ∃ s, symT[i]? = some s ∧ s < 257 ∧ symT.getD i 0 = s ∧ szI (s : Int) = (lenO.getD i 0 : Nat) := by
  have hl : i < symT.length := by rw [symT_len]; exact h
  refine ⟨symT[i], List.getElem?_eq_getElem hl, symT_lt _ (List.getElem_mem hl), ?_, ?_⟩
  · rw [List.getD_eq_getElem?_getD, List.getElem?_eq_getElem hl]; rfl
  · have e := congrArg (fun l : List Int => l[i]?) lenO_is
    have hl2 : i < lenO.length := by rw [lenO_len]; exact h
    rw [List.getElem?_map, List.getElem?_map, List.getElem?_eq_getElem hl, List.getElem?_eq_getElem hl2] at e
    rw [List.getD_eq_getElem?_getD, List.getElem?_eq_getElem hl2]
    exact Option.some.inj e
attribute [local irreducible] szI lensT symT codO lenO outL codesT csI cdB
end Go.Proofs.YtohbfcmmpaikhaaDoor

set_option linter.unusedVariables false
set_option linter.unusedSimpArgs false
namespace Go.Proofs.YtohbfcmmpaikhaaDoor
open Go Go.Lf Go.Proofs
attribute [local irreducible] Lf.rg Lf.ro Lf.PWp Lf.SOp Lf.ACall Lf.Scoped Lf.dg Lf.dw
set_option maxRecDepth 20000
set_option maxHeartbeats 4000000
attribute [go_sem] nbl_bkB
@[go_sem] theorem rnl_bk0 : rnl (ix [] 0) bkB = bkB := by
  rw [rnl_all]
  unfold bkB bkA b2
  have h : ∀ l : List Int, (l.map nA).map (rn (ix [] 0)) = l.map nA := by
    intro l; rw [List.map_map]; exact List.map_congr_left (fun _ _ => rfl)
  simp only [List.map_cons, List.map_append, h]
  rfl
def encS (L : List Int) (x : UInt8) : List Int := rpL L (csI x.toNat) (szI (x.toNat : Int))
def encL (b : List UInt8) : List Int := b.foldl encS []
def bitK (b : List UInt8) : Int := b.foldl (fun n x => n + szI (x.toNat : Int)) 0
attribute [local irreducible] bkB cntN ordB fstI bseI csI szI rpL rowB encL bitK
end Go.Proofs.YtohbfcmmpaikhaaDoor

set_option linter.unusedVariables false
set_option linter.unusedSimpArgs false
namespace Go.Proofs.YtohbfcmmpaikhaaDoor
open Go Go.Lf Go.Proofs
attribute [local irreducible] Lf.rg Lf.ro Lf.PWp Lf.SOp Lf.ACall Lf.Scoped Lf.dg Lf.dw
set_option maxRecDepth 20000
set_option maxHeartbeats 4000000
theorem least_of {p : Nat → Prop} : (∃ k, p k) → ∃ k, p k ∧ ∀ j, p j → k ≤ j := by
  rintro ⟨k, hk⟩
  induction k using Nat.strongRecOn with
  | _ k ih =>
    by_cases h : ∃ j, j < k ∧ p j
    · obtain ⟨j, hj, pj⟩ := h
      exact ih j hj pj
    · exact ⟨k, hk, fun j pj => by
        by_cases hj : j < k
        · exact absurd ⟨j, hj, pj⟩ h
        · omega⟩
theorem wp_scope_ghost {P : Program} {a : Act} {w : World} {Q : Exit → Act → World → Prop} {c rest : Code} (l : Nat) (J : Nat → Act → World → Prop) (hf : findLabel c l = some rest)
    (first : c.wp P (Exit.jump l (fun a w => ∃ k, J k a w) Q) a w)
    (pass : ∀ k a w, J k a w → rest.wp P (Exit.jump l (fun a' w' => ∃ k', k' < k ∧ J k' a' w') Q) a w) : (Code.scope c).wp P Q a w := by
  classical
  have ex : ∀ a w, ∃ m : Nat, (∃ k, J k a w) → J m a w ∧ ∀ j, J j a w → m ≤ j := by
    intro a w
    by_cases h : ∃ k, J k a w
    · obtain ⟨k, h1, h2⟩ := least_of h
      exact ⟨k, fun _ => ⟨h1, h2⟩⟩
    · exact ⟨0, fun h' => absurd h' h⟩
  refine wp_scope_jumps l (fun a w => ∃ k, J k a w) (fun a w => (ex a w).choose) hf first ?_
  intro a w hJ
  have h1 := (ex a w).choose_spec hJ
  refine wp_mono (pass _ a w h1.1) ?_
  intro e a' w' h
  cases e with
  | goto l' =>
    obtain ⟨e1, k', hk, hJ'⟩ := h
    refine ⟨e1, ⟨k', hJ'⟩, ?_⟩
    have h2 := (ex a' w').choose_spec ⟨k', hJ'⟩
    exact Nat.lt_of_le_of_lt (h2.2 k' hJ') hk
  | normal => exact h
  | exit id => exact h
  | ret => exact h
  | panic ch => exact h
  | outgrown => exact h
def jumpQ (l : Nat) (K : Env → Sto → Prop) (Q : Exit → Env → Sto → Prop) : Exit → Env → Sto → Prop
  | .goto l', Γ, σ => l' = l ∧ K Γ σ
  | e, Γ, σ => Q e Γ σ
theorem Wk_E {N n : Nat} {Γ' E : Env} {σ : Sto} (h1 : LeE E Γ') : Wk N n Γ' σ E σ := by
  intro ρ w a hn hf hr
  refine ⟨ρ, ⟨hf.1, hf.2.1, ?_⟩, hr, .refl _ _ _ _ hn⟩
  have key : ∀ (E : Env), LeE E Γ' → ∀ i, VR σ ρ w (Lf.get E i) (a.tmps.getD i undef) := by
    intro E
    induction E with
    | nil => intro _ i; simp [Lf.get, VR]
    | cons p E ih =>
      obtain ⟨k, x⟩ := p
      intro h i
      simp only [LeE] at h
      simp only [Lf.get]
      split
      · rename_i e
        subst e
        obtain ⟨⟨y, hy, hl⟩, _⟩ := h
        have := hf.2.2 i
        rw [hy] at this
        exact hl.VR this
      · exact ih h.2 i
  exact key E h1
theorem pwp_scope_k {P : Program} {N n : Nat} {S : Type} {c B : Code} {Γ : Env} {σ : Sto} {Q : Exit → Env → Sto → Prop} (l : Nat) (E : S → Env) (T : S → Sto) (R : S → Prop) (μ : S → Nat) (hf : findLabel c l = some (.seq .skip B))
    (body : ∀ s, R s → PWp P N n B (E s) (T s) (jumpQ l (fun Γ' σ' => ∃ s' κ, R s' ∧ μ s' < μ s ∧ okg n κ = true ∧ LeE (E s') (Γ'.map fun p => (p.1, fz κ σ' p.2)) ∧ gcS κ σ' = T s') Q))
    (first : (∀ Γ' σ' s0 κ, R s0 → okg n κ = true → LeE (E s0) (Γ'.map fun p => (p.1, fz κ σ' p.2)) → gcS κ σ' = T s0 → PWp P N n B Γ' σ' (jumpQ l (fun Γ' σ' => ∃ s', R s' ∧ Wk N n Γ' σ' (E s') (T s')) Q)) →
      PWp P N n c Γ σ (jumpQ l (fun Γ' σ' => ∃ s', R s' ∧ Wk N n Γ' σ' (E s') (T s')) Q)) : PWp P N n (.scope c) Γ σ Q := by
  have wkg : ∀ Γ' σ' s0 κ, okg n κ = true → LeE (E s0) (Γ'.map fun p => (p.1, fz κ σ' p.2)) → gcS κ σ' = T s0 → Wk N n Γ' σ' (E s0) (T s0) := by
    intro Γ' σ' s0 κ hκ h1 h2
    have w1 := wk_gc (N := N) (Γ := Γ') (σ := σ') κ hκ
    rw [h2] at w1
    rw [← h2] at w1 ⊢
    exact w1.trans (Wk_E h1)
  have body2 : ∀ s, R s → PWp P N n B (E s) (T s) (jumpQ l (fun Γ' σ' => ∃ s', R s' ∧ μ s' < μ s ∧ Wk N n Γ' σ' (E s') (T s')) Q) := by
    intro s hs
    refine (body s hs).mono ?_
    intro e Γ' σ' q
    cases e with
    | goto l' => obtain ⟨e1, s', κ, h1, h2, h0, h3, h4⟩ := q; exact ⟨e1, s', h1, h2, wkg _ _ _ κ h0 h3 h4⟩
    | normal => exact q
    | exit id => exact q
    | ret => exact q
    | panic ch => exact q
    | outgrown => exact q
  have hfst := first (by
    intro Γ' σ' s0 κ hs h0 h1 h2
    refine pwp_wk (wkg _ _ _ κ h0 h1 h2) ((body2 s0 hs).mono ?_)
    intro e Γ2 σ2 q
    cases e with
    | goto l' => obtain ⟨e1, s', h1, h2, h3⟩ := q; exact ⟨e1, s', h1, h3⟩
    | normal => exact q
    | exit id => exact q
    | ret => exact q
    | panic ch => exact q
    | outgrown => exact q)
  unfold PWp at hfst body2 ⊢
  intro ρ w a hn hfr hr
  refine wp_scope_ghost l (fun k a' w' => ∃ s ρ', R s ∧ μ s = k ∧ FR N (E s) (T s) ρ' w' a' ∧ Rel (T s) ρ' w' ∧ Step n σ ρ w (T s) ρ' w') hf ?_ ?_
  · refine wp_mono (hfst ρ w a hn hfr hr) ?_
    rintro e a' w' ⟨Γ', σ', ρ', q, f2, r2, st⟩
    cases e with
    | goto l' =>
      obtain ⟨e1, s', h1, h2⟩ := q
      obtain ⟨ρ2, g1, g2, g3⟩ := h2 ρ' w' a' st.len' f2 r2
      exact ⟨e1, _, s', ρ2, h1, rfl, g1, g2, st.trans g3⟩
    | normal => exact ⟨_, _, _, q, f2, r2, st⟩
    | exit id => exact ⟨_, _, _, q, f2, r2, st⟩
    | ret => exact ⟨_, _, _, q, f2, r2, st⟩
    | panic ch => exact ⟨_, _, _, q, f2, r2, st⟩
    | outgrown => exact ⟨_, _, _, q, f2, r2, st⟩
  · rintro k a1 w1 ⟨s, ρ1, hs, rfl, f1, r1, s1⟩
    refine wp_seq (wp_skip ?_)
    refine wp_mono (body2 s hs ρ1 w1 a1 s1.len' f1 r1) ?_
    rintro e a' w' ⟨Γ', σ', ρ', q, f2, r2, st⟩
    cases e with
    | goto l' =>
      obtain ⟨e1, s', h1, h2, h3⟩ := q
      obtain ⟨ρ2, g1, g2, g3⟩ := h3 ρ' w' a' st.len' f2 r2
      exact ⟨e1, _, h2, s', ρ2, h1, rfl, g1, g2, (s1.trans st).trans g3⟩
    | normal => exact ⟨_, _, _, q, f2, r2, s1.trans st⟩
    | exit id => exact ⟨_, _, _, q, f2, r2, s1.trans st⟩
    | ret => exact ⟨_, _, _, q, f2, r2, s1.trans st⟩
    | panic ch => exact ⟨_, _, _, q, f2, r2, s1.trans st⟩
    | outgrown => exact ⟨_, _, _, q, f2, r2, s1.trans st⟩
end Go.Proofs.YtohbfcmmpaikhaaDoor

set_option linter.unusedVariables false
set_option linter.unusedSimpArgs false
namespace Go.Proofs.YtohbfcmmpaikhaaDoor
open Go Go.Lf Go.Proofs
attribute [local irreducible] Lf.rg Lf.ro Lf.PWp Lf.SOp Lf.ACall Lf.Scoped Lf.dg
set_option maxRecDepth 20000
set_option maxHeartbeats 4000000
def jumpMW (J : Nat → Act → World → Prop) (Q : Exit → Act → World → Prop) : Exit → Act → World → Prop
  | .goto l, a, w => J l a w
  | e, a, w => Q e a w
theorem wp_scope_many {P : Program} {a : Act} {w : World} {Q : Exit → Act → World → Prop} {c : Code} (J : Nat → Nat → Act → World → Prop)
    (first : c.wp P (jumpMW (fun l a w => ∃ k, J l k a w) Q) a w)
    (pass : ∀ l k a w, J l k a w → ∃ rest, findLabel c l = some rest ∧ rest.wp P (jumpMW (fun l' a' w' => ∃ k', k' < k ∧ J l' k' a' w') Q) a w) : (Code.scope c).wp P Q a w := by
  intro b k cs
  have hg : ∀ {l rest}, findLabel c l = some rest → gotoIn l (.inScope c :: k) = some (.code rest :: .inScope c :: k) := fun hf => by simp [gotoIn, hf]
  have key : ∀ m l a w, J l m a w → ∃ rest, findLabel c l = some rest ∧ ∃ e a' w', Q e a' w' ∧ Arrives P (lone (b.at a (.code rest :: .inScope c :: k)) cs w) b k cs e a' w' := by
    intro m
    induction m using Nat.strongRecOn with
    | _ m ih =>
      intro l a w hJ
      obtain ⟨rest, hf, hp⟩ := pass l m a w hJ
      refine ⟨rest, hf, ?_⟩
      obtain ⟨e, a₁, w₁, hq, harr⟩ := hp b (.inScope c :: k) cs
      cases e with
      | normal => exact ⟨.normal, a₁, w₁, hq, Steps.trans harr (.one step_inScope)⟩
      | exit id => exact ⟨.exit id, a₁, w₁, hq, fun k' hk => harr k' (by simp [exitTo, hk])⟩
      | goto l' =>
        obtain ⟨k', hlt, hJ'⟩ := hq
        obtain ⟨rest2, hf2, e₂, a₂, w₂, hq₂, harr₂⟩ := ih k' hlt l' a₁ w₁ hJ'
        exact ⟨e₂, a₂, w₂, hq₂, .of_steps (harr _ (hg hf2)) harr₂⟩
      | ret => exact ⟨_, a₁, w₁, hq, harr⟩
      | panic ch => exact ⟨_, a₁, w₁, hq, harr⟩
      | outgrown => exact ⟨_, a₁, w₁, hq, harr⟩
  obtain ⟨e, a₁, w₁, hq, harr⟩ := first b (.inScope c :: k) cs
  cases e with
  | normal => exact ⟨.normal, a₁, w₁, hq, .head step_scope (Steps.trans harr (.one step_inScope))⟩
  | exit id => exact ⟨.exit id, a₁, w₁, hq, fun k' hk => .head step_scope (harr k' (by simp [exitTo, hk]))⟩
  | goto l' =>
    obtain ⟨k', hJ'⟩ := hq
    obtain ⟨rest2, hf2, e₂, a₂, w₂, hq₂, harr₂⟩ := key k' l' a₁ w₁ hJ'
    exact ⟨e₂, a₂, w₂, hq₂, .of_steps (.head step_scope (harr _ (hg hf2))) harr₂⟩
  | ret => exact ⟨_, a₁, w₁, hq, .of_steps (.one step_scope) harr⟩
  | panic ch => exact ⟨_, a₁, w₁, hq, .of_steps (.one step_scope) harr⟩
  | outgrown => exact ⟨_, a₁, w₁, hq, .of_steps (.one step_scope) harr⟩
def jumpM (J : Nat → Env → Sto → Prop) (Q : Exit → Env → Sto → Prop) : Exit → Env → Sto → Prop
  | .goto l, Γ, σ => J l Γ σ
  | e, Γ, σ => Q e Γ σ
theorem jumpM_mono {J J' : Nat → Env → Sto → Prop} {Q : Exit → Env → Sto → Prop} (h : ∀ l Γ σ, J l Γ σ → J' l Γ σ) : ∀ e Γ σ, jumpM J Q e Γ σ → jumpM J' Q e Γ σ := by
  intro e Γ σ q
  cases e with
  | goto l => exact h _ _ _ q
  | normal => exact q
  | exit id => exact q
  | ret => exact q
  | panic ch => exact q
  | outgrown => exact q
def AtL {S : Type} (n : Nat) (lab : S → Nat) (E : S → Env) (T : S → Sto) (R : S → Prop) (ok : S → Prop) (l : Nat) (Γ : Env) (σ : Sto) : Prop :=
  ∃ s κ, lab s = l ∧ R s ∧ ok s ∧ okg n κ = true ∧ LeE (E s) (Γ.map fun p => (p.1, fz κ σ p.2)) ∧ gcS κ σ = T s
theorem pwp_scope_m {P : Program} {N n : Nat} {S : Type} {c : Code} {Γ : Env} {σ : Sto} {Q : Exit → Env → Sto → Prop} (lab : S → Nat) (B : S → Code) (E : S → Env) (T : S → Sto) (R : S → Prop) (μ : S → Nat) (hf : ∀ s, findLabel c (lab s) = some (.seq .skip (B s)))
    (body : ∀ s, R s → (∀ Γ' σ' s1 κ, R s1 → μ s1 < μ s → okg n κ = true → LeE (E s1) (Γ'.map fun p => (p.1, fz κ σ' p.2)) → gcS κ σ' = T s1 → PWp P N n (B s1) Γ' σ' (jumpM (AtL n lab E T R (fun s' => μ s' < μ s)) Q)) →
      PWp P N n (B s) (E s) (T s) (jumpM (AtL n lab E T R (fun s' => μ s' < μ s)) Q))
    (first : (∀ Γ' σ' s0 κ, R s0 → okg n κ = true → LeE (E s0) (Γ'.map fun p => (p.1, fz κ σ' p.2)) → gcS κ σ' = T s0 → PWp P N n (B s0) Γ' σ' (jumpM (AtL n lab E T R (fun _ => True)) Q)) →
      PWp P N n c Γ σ (jumpM (AtL n lab E T R (fun _ => True)) Q)) : PWp P N n (.scope c) Γ σ Q := by
  have wkg : ∀ Γ' σ' s0 κ, okg n κ = true → LeE (E s0) (Γ'.map fun p => (p.1, fz κ σ' p.2)) → gcS κ σ' = T s0 → Wk N n Γ' σ' (E s0) (T s0) := by
    intro Γ' σ' s0 κ hκ h1 h2
    have w1 := wk_gc (N := N) (Γ := Γ') (σ := σ') κ hκ
    rw [h2] at w1
    rw [← h2] at w1 ⊢
    exact w1.trans (Wk_E h1)
  have body2 : ∀ m s, μ s = m → R s → PWp P N n (B s) (E s) (T s) (jumpM (AtL n lab E T R (fun s' => μ s' < μ s)) Q) := by
    intro m
    induction m using Nat.strongRecOn with
    | _ m ih =>
      intro s hm hs
      refine body s hs ?_
      intro Γ' σ' s1 κ hR hlt h0 h1 h2
      refine pwp_wk (wkg _ _ _ κ h0 h1 h2) ((ih (μ s1) (by omega) s1 rfl hR).mono ?_)
      refine jumpM_mono ?_
      rintro l Γ2 σ2 ⟨s2, κ2, e1, e2, e3, e4⟩
      exact ⟨s2, κ2, e1, e2, Nat.lt_trans e3 hlt, e4⟩
  have hfst := first (by
    intro Γ' σ' s0 κ hs h0 h1 h2
    refine pwp_wk (wkg _ _ _ κ h0 h1 h2) ((body2 _ s0 rfl hs).mono ?_)
    refine jumpM_mono ?_
    rintro l Γ2 σ2 ⟨s2, κ2, e1, e2, e3, e4⟩
    exact ⟨s2, κ2, e1, e2, trivial, e4⟩)
  unfold PWp at hfst body2 ⊢
  intro ρ w a hn hfr hr
  refine wp_scope_many (fun l k a' w' => ∃ s ρ', lab s = l ∧ R s ∧ μ s = k ∧ FR N (E s) (T s) ρ' w' a' ∧ Rel (T s) ρ' w' ∧ Step n σ ρ w (T s) ρ' w') ?_ ?_
  · refine wp_mono (hfst ρ w a hn hfr hr) ?_
    rintro e a' w' ⟨Γ', σ', ρ', q, f2, r2, st⟩
    cases e with
    | goto l' =>
      obtain ⟨s', κ, e1, h1, _, hκ, h2, h3⟩ := q
      obtain ⟨ρ2, g1, g2, g3⟩ := wkg _ _ _ κ hκ h2 h3 ρ' w' a' st.len' f2 r2
      exact ⟨_, s', ρ2, e1, h1, rfl, g1, g2, st.trans g3⟩
    | normal => exact ⟨_, _, _, q, f2, r2, st⟩
    | exit id => exact ⟨_, _, _, q, f2, r2, st⟩
    | ret => exact ⟨_, _, _, q, f2, r2, st⟩
    | panic ch => exact ⟨_, _, _, q, f2, r2, st⟩
    | outgrown => exact ⟨_, _, _, q, f2, r2, st⟩
  · rintro l k a1 w1 ⟨s, ρ1, rfl, hs, rfl, f1, r1, s1⟩
    refine ⟨_, hf s, ?_⟩
    refine wp_seq (wp_skip ?_)
    refine wp_mono (body2 _ s rfl hs ρ1 w1 a1 s1.len' f1 r1) ?_
    rintro e a' w' ⟨Γ', σ', ρ', q, f2, r2, st⟩
    cases e with
    | goto l' =>
      obtain ⟨s', κ, e1, h1, hlt, hκ, h2, h3⟩ := q
      obtain ⟨ρ2, g1, g2, g3⟩ := wkg _ _ _ κ hκ h2 h3 ρ' w' a' st.len' f2 r2
      exact ⟨_, hlt, s', ρ2, e1, h1, rfl, g1, g2, (s1.trans st).trans g3⟩
    | normal => exact ⟨_, _, _, q, f2, r2, s1.trans st⟩
    | exit id => exact ⟨_, _, _, q, f2, r2, s1.trans st⟩
    | ret => exact ⟨_, _, _, q, f2, r2, s1.trans st⟩
    | panic ch => exact ⟨_, _, _, q, f2, r2, s1.trans st⟩
    | outgrown => exact ⟨_, _, _, q, f2, r2, s1.trans st⟩
def sel3 (B0 B1 B2 : Code) (k : Fin 3) : Code := match k with | 0 => B0 | 1 => B1 | 2 => B2
theorem pwp_scope_3 {P : Program} {N n : Nat} {S : Type} {c B0 B1 B2 : Code} {Γ : Env} {σ : Sto} {Q : Exit → Env → Sto → Prop} (lab : S → Fin 3) (E : S → Env) (T : S → Sto) (R : S → Prop) (μ : S → Nat)
    (h0 : findLabel c 0 = some (.seq .skip B0)) (h1 : findLabel c 1 = some (.seq .skip B1)) (h2 : findLabel c 2 = some (.seq .skip B2))
    (body0 : ∀ s, lab s = 0 → R s → (∀ Γ' σ' s1 κ, lab s1 = 1 → R s1 → μ s1 < μ s → okg n κ = true → LeE (E s1) (Γ'.map fun p => (p.1, fz κ σ' p.2)) → gcS κ σ' = T s1 → PWp P N n B1 Γ' σ' (jumpM (AtL n (fun s => (lab s).val) E T R (fun s' => μ s' < μ s)) Q)) →
      PWp P N n B0 (E s) (T s) (jumpM (AtL n (fun s => (lab s).val) E T R (fun s' => μ s' < μ s)) Q))
    (body1 : ∀ s, lab s = 1 → R s → PWp P N n B1 (E s) (T s) (jumpM (AtL n (fun s => (lab s).val) E T R (fun s' => μ s' < μ s)) Q))
    (body2 : ∀ s, lab s = 2 → R s → PWp P N n B2 (E s) (T s) (jumpM (AtL n (fun s => (lab s).val) E T R (fun s' => μ s' < μ s)) Q))
    (first : (∀ Γ' σ' s0 κ, lab s0 = 0 → R s0 → okg n κ = true → LeE (E s0) (Γ'.map fun p => (p.1, fz κ σ' p.2)) → gcS κ σ' = T s0 → PWp P N n B0 Γ' σ' (jumpM (AtL n (fun s => (lab s).val) E T R (fun _ => True)) Q)) →
      PWp P N n c Γ σ (jumpM (AtL n (fun s => (lab s).val) E T R (fun _ => True)) Q)) : PWp P N n (.scope c) Γ σ Q := by
  refine pwp_scope_m (fun s => (lab s).val) (fun s => sel3 B0 B1 B2 (lab s)) E T R μ ?_ ?_ ?_
  · intro s
    generalize lab s = k
    match k with
    | 0 => exact h0
    | 1 => exact h1
    | 2 => exact h2
  · intro s hs hB
    rcases (show lab s = 0 ∨ lab s = 1 ∨ lab s = 2 by omega) with e | e | e
    · rw [e]
      refine body0 s e hs ?_
      intro Γ' σ' s1 κ e1 hR hlt hk hl hg
      have := hB Γ' σ' s1 κ hR hlt hk hl hg
      rw [e1] at this
      exact this
    · rw [e]; exact body1 s e hs
    · rw [e]; exact body2 s e hs
  · intro hB
    refine first ?_
    intro Γ' σ' s0 κ e1 hR hk hl hg
    have := hB Γ' σ' s0 κ hR hk hl hg
    rw [e1] at this
    exact this
end Go.Proofs.YtohbfcmmpaikhaaDoor

set_option linter.unusedVariables false
set_option linter.unusedSimpArgs false
namespace Go.Proofs.YtohbfcmmpaikhaaDoor
open Go Go.Lf Go.Proofs
attribute [local irreducible] Lf.rg Lf.ro Lf.PWp Lf.SOp Lf.ACall Lf.Scoped Lf.dg
set_option maxRecDepth 20000
set_option maxHeartbeats 4000000
def fstT : List Int := [0, 0, 0, 0, 0, 0, 20, 92, 248, 508, 1016, 2042, 4090, 8184, 16380, 32764, 65534, 131068, 262136, 524272, 1048550, 2097116, 4194258, 8388568, 16777194, 33554412, 67108832, 134217694, 268435426, 536870910, 1073741820]
def cntT : List Int := [0, 0, 0, 0, 0, 10, 26, 32, 6, 0, 5, 3, 2, 6, 2, 3, 0, 0, 0, 3, 8, 13, 26, 29, 12, 4, 15, 19, 29, 0, 4]
def bseT : List Int := [0, 0, 0, 0, 0, 0, 10, 36, 68, 74, 74, 79, 82, 84, 90, 92, 95, 95, 95, 95, 98, 106, 119, 145, 174, 186, 190, 205, 224, 253, 253]
theorem tab_is : ∀ n : Fin 31, fstI n.val = fstT.getD n.val 0 ∧ cntN 257 n.val = cntT.getD n.val 0 ∧ bseI n.val = bseT.getD n.val 0 := by decide +kernel
theorem codeN_31 : codeN 31 = 1073741824 := by decide +kernel
theorem tab_i : ∀ i : Fin 257, 1 ≤ lenO.getD i.val 0 ∧ lenO.getD i.val 0 ≤ 30 ∧ codO.getD i.val 0 = fstT.getD (lenO.getD i.val 0) 0 + ((i.val : Nat) : Int) - bseT.getD (lenO.getD i.val 0) 0 ∧ bseT.getD (lenO.getD i.val 0) 0 ≤ ((i.val : Nat) : Int) ∧ ((i.val : Nat) : Int) < bseT.getD (lenO.getD i.val 0) 0 + cntT.getD (lenO.getD i.val 0) 0 := by decide +kernel
theorem tab_n : ∀ n : Fin 31, ∀ i : Fin 257, bseT.getD n.val 0 ≤ ((i.val : Nat) : Int) → ((i.val : Nat) : Int) < bseT.getD n.val 0 + cntT.getD n.val 0 → lenO.getD i.val 0 = n.val := by decide +kernel
theorem tab_b : ∀ n : Fin 31, 0 ≤ bseT.getD n.val 0 ∧ 0 ≤ cntT.getD n.val 0 ∧ bseT.getD n.val 0 + cntT.getD n.val 0 ≤ 257 := by decide +kernel
theorem sym_cs {i : Nat} (h : i < 257) : csI (symT.getD i 0) = codO.getD i 0 := by
  obtain ⟨s, hs, _, hs2, _⟩ := sym_at h
  have h1 : (symT.map csI)[i]? = codO[i]? := by rw [codO_is]
  rw [List.getElem?_map, hs, Option.map_some] at h1
  rw [hs2, List.getD_eq_getElem?_getD, ← h1]; rfl
theorem of_find {c n : Int} (h : findY c n = true) : ∃ s : Nat, s < 257 ∧ findS c n = s ∧ csI s = c ∧ szI (s : Int) = n ∧ 1 ≤ n ∧ n ≤ 30 := by
  have h := of_decide_eq_true h
  obtain ⟨h1, h2, h3, h4⟩ := h
  obtain ⟨m, rfl⟩ : ∃ m : Nat, n = m := ⟨n.toNat, by omega⟩
  rw [Int.toNat_natCast] at h3 h4
  obtain ⟨t1, t2, t3⟩ := tab_is ⟨m, by omega⟩
  obtain ⟨b1, b2, b3⟩ := tab_b ⟨m, by omega⟩
  dsimp only at t1 t2 t3 b1 b2 b3
  rw [← t2, ← t3] at b3
  rw [← t3] at b1
  obtain ⟨i, hi⟩ : ∃ i : Nat, bseI m + (c - fstI m) = i := ⟨(bseI m + (c - fstI m)).toNat, by omega⟩
  have hi2 : i < 257 := by omega
  have hn := tab_n ⟨m, by omega⟩ ⟨i, hi2⟩ (by dsimp only; rw [← t3]; omega) (by dsimp only; rw [← t3, ← t2]; omega)
  dsimp only at hn
  obtain ⟨s, e1, e2, e3, e4⟩ := sym_at hi2
  obtain ⟨_, _, e5, _, _⟩ := tab_i ⟨i, hi2⟩
  dsimp only at e5
  rw [hn, ← t1, ← t3] at e5
  refine ⟨s, e2, ?_, ?_, ?_, h1, h2⟩
  · unfold findS ordB
    rw [Int.toNat_natCast, hi, Int.toNat_natCast, symT_is, e3]
  · rw [← e3, sym_cs hi2, e5]; omega
  · rw [e4, hn]
structure Way (c : Int) (n : Nat) : Prop where
  l : codeN (n + 1) ≤ c
  u : c < 2 ^ n
  n : n ≤ 29
  z : 0 ≤ c
theorem way_0 : Way 0 0 := ⟨by decide +kernel, by decide, by decide, by decide⟩
theorem way_s {c x : Int} {n : Nat} (h : Way c n) (hx : x = 0 ∨ x = 1) (hf : ¬ findY (2 * c + x) ((n : Int) + 1) = true) : Way (2 * c + x) (n + 1) := by
  obtain ⟨h1, h2, h3, h4⟩ := h
  have hf := of_decide_eq_false (show findY (2 * c + x) ((n : Int) + 1) = false by revert hf; cases findY (2 * c + x) ((n : Int) + 1) <;> simp)
  rw [show ((n : Int) + 1).toNat = n + 1 from by omega] at hf
  have e1 : fstI (n + 1) = codeN (n + 1) * 2 := rfl
  have e2 : codeN (n + 1 + 1) = codeN (n + 1) * 2 + cntN 257 (n + 1) := rfl
  have hl : codeN (n + 1 + 1) ≤ 2 * c + x := by omega
  have hu : 2 * c + x < 2 ^ (n + 1) := by rw [Int.pow_succ]; omega
  refine ⟨hl, hu, ?_, by omega⟩
  by_cases h9 : n = 29
  · exfalso
    subst h9
    have e3 : codeN (29 + 1 + 1) = 1073741824 := codeN_31
    have e4 : (2 : Int) ^ (29 + 1) = 1073741824 := by decide
    omega
  · omega
def huM : List Int → Int → Nat → List UInt8 → List UInt8 × Int
  | [], c, n, o => if 7 < n ∨ c ≠ 2 ^ n - 1 then ([], 10) else (o, 0)
  | x :: l, c, n, o => if findY (2 * c + x) ((n : Int) + 1) = true then (if findS (2 * c + x) ((n : Int) + 1) = 256 then ([], 11) else huM l 0 0 (o ++ [UInt8.ofNat (findS (2 * c + x) ((n : Int) + 1)).toNat])) else huM l (2 * c + x) (n + 1) o
theorem huM_nil (c : Int) (n : Nat) (o : List UInt8) : huM [] c n o = if 7 < n ∨ c ≠ 2 ^ n - 1 then ([], 10) else (o, 0) := rfl
theorem huM_no {x c : Int} {n : Nat} (l : List Int) (o : List UInt8) (h : ¬ findY (2 * c + x) ((n : Int) + 1) = true) : huM (x :: l) c n o = huM l (2 * c + x) (n + 1) o := by rw [huM, if_neg h]
theorem huM_end {x c : Int} {n : Nat} (l : List Int) (o : List UInt8) (h : findY (2 * c + x) ((n : Int) + 1) = true) (h2 : findS (2 * c + x) ((n : Int) + 1) = 256) : huM (x :: l) c n o = ([], 11) := by rw [huM, if_pos h, if_pos h2]
theorem huM_yes {x c : Int} {n : Nat} (l : List Int) (o : List UInt8) (h : findY (2 * c + x) ((n : Int) + 1) = true) (h2 : ¬ findS (2 * c + x) ((n : Int) + 1) = 256) : huM (x :: l) c n o = huM l 0 0 (o ++ [UInt8.ofNat (findS (2 * c + x) ((n : Int) + 1)).toNat]) := by rw [huM, if_pos h, if_neg h2]
theorem huM_len : ∀ (l : List Int) (c : Int) (n : Nat) (o : List UInt8), (huM l c n o).1.length ≤ l.length + o.length
  | [], c, n, o => by rw [huM_nil]; split <;> simp
  | x :: l, c, n, o => by
    by_cases h : findY (2 * c + x) ((n : Int) + 1) = true
    · by_cases h2 : findS (2 * c + x) ((n : Int) + 1) = 256
      · rw [huM_end l o h h2]; simp
      · rw [huM_yes l o h h2]
        have := huM_len l 0 0 (o ++ [UInt8.ofNat (findS (2 * c + x) ((n : Int) + 1)).toNat])
        rw [List.length_append] at this
        simp at this ⊢; omega
    · rw [huM_no l o h]
      have := huM_len l (2 * c + x) (n + 1) o
      simp; omega
end Go.Proofs.YtohbfcmmpaikhaaDoor

set_option linter.unusedVariables false
set_option linter.unusedSimpArgs false
namespace Go.Proofs.YtohbfcmmpaikhaaDoor
open Go Go.Lf Go.Proofs
attribute [local irreducible] Lf.rg Lf.ro Lf.PWp Lf.SOp Lf.ACall Lf.Scoped Lf.dg Lf.dw
set_option maxRecDepth 20000
set_option maxHeartbeats 4000000
structure HS where
  (k : Fin 3) (a : Nat) (c : Int) (n : Nat) (o : List UInt8)
def HOk (b : List UInt8) (d : List UInt8) (e : Int) (q : HS) : Prop :=
  q.a ≤ 8 * b.length ∧ q.o.length ≤ q.a ∧ (q.k = 0 → huM ((bitsL b).drop q.a) 0 0 q.o = (d, e)) ∧ (q.k = 1 → Way q.c q.n ∧ huM ((bitsL b).drop q.a) q.c q.n q.o = (d, e)) ∧ (q.k = 2 → Way q.c q.n ∧ huM [] q.c q.n q.o = (d, e))
theorem hok0 {b d : List UInt8} {e : Int} {a n : Nat} {c : Int} {o : List UInt8} (h1 : a ≤ 8 * b.length) (h2 : o.length ≤ a) (h3 : huM ((bitsL b).drop a) 0 0 o = (d, e)) : HOk b d e ⟨0, a, c, n, o⟩ :=
  ⟨h1, h2, fun _ => h3, fun h => absurd (show (0 : Fin 3) = 1 from h) (by decide), fun h => absurd (show (0 : Fin 3) = 2 from h) (by decide)⟩
theorem hok1 {b d : List UInt8} {e : Int} {a n : Nat} {c : Int} {o : List UInt8} (h1 : a ≤ 8 * b.length) (h2 : o.length ≤ a) (hw : Way c n) (h3 : huM ((bitsL b).drop a) c n o = (d, e)) : HOk b d e ⟨1, a, c, n, o⟩ :=
  ⟨h1, h2, fun h => absurd (show (1 : Fin 3) = 0 from h) (by decide), fun _ => ⟨hw, h3⟩, fun h => absurd (show (1 : Fin 3) = 2 from h) (by decide)⟩
theorem hok2 {b d : List UInt8} {e : Int} {a n : Nat} {c : Int} {o : List UInt8} (h1 : a ≤ 8 * b.length) (h2 : o.length ≤ a) (hw : Way c n) (h3 : huM [] c n o = (d, e)) : HOk b d e ⟨2, a, c, n, o⟩ :=
  ⟨h1, h2, fun h => absurd (show (2 : Fin 3) = 0 from h) (by decide), fun h => absurd (show (2 : Fin 3) = 1 from h) (by decide), fun _ => ⟨hw, h3⟩⟩
@[go_sem] theorem fz_bk4 {σ : Sto} : fzl [0, 1, 2, 3] σ bkB = bkB := by
  rw [fzl_map]
  unfold bkB bkA b2
  have h : ∀ l : List Int, (l.map nA).map (fz [0, 1, 2, 3] σ) = l.map nA := by
    intro l; rw [List.map_map]; exact List.map_congr_left (fun _ _ => rfl)
  simp only [List.map_cons, List.map_append, h]
  rfl
theorem way_bd {c : Int} {n : Nat} (h : Way c n) : 0 ≤ c ∧ c ≤ 536870912 ∧ n ≤ 29 := by
  obtain ⟨h1, h2, h3, h4⟩ := h
  have h5 : 2 ^ n ≤ 2 ^ 29 := Nat.pow_le_pow_right (by decide) h3
  have e : (2 : Int) ^ n = ((2 ^ n : Nat) : Int) := by simp
  rw [e] at h2
  omega
theorem pow_29 {n : Nat} (h : n ≤ 29) : 1 ≤ (2 : Int) ^ n ∧ (2 : Int) ^ n ≤ 536870912 := by
  have h5 : 2 ^ n ≤ 2 ^ 29 := Nat.pow_le_pow_right (by decide) h
  have h6 : 0 < 2 ^ n := Nat.pow_pos (by decide)
  have e : (2 : Int) ^ n = ((2 ^ n : Nat) : Int) := by simp
  rw [e]; omega
theorem drop_cons {l : List Int} {a : Nat} {x : Int} (h : l[a]? = some x) : l.drop a = x :: l.drop (a + 1) := by
  obtain ⟨h1, h2⟩ := List.getElem?_eq_some_iff.1 h
  rw [List.drop_eq_getElem_cons h1, h2]
theorem findR_is {c n : Int} (h : findY c n = true) : findR c n = findS c n := by unfold findR; rw [if_pos h]
theorem findR_no {c n : Int} (h : ¬ findY c n = true) : findR c n = 0 := by unfold findR; rw [if_neg h]
attribute [local irreducible] bkB cntN ordB fstI bseI csI szI findY findS findR bitsL codeN huM
theorem hdecode0 (f q : Bool) (b : List UInt8) (hb : b.length ≤ 100000) (d : List UInt8) (e : Int) (htot : huM (bitsL b) 0 0 [] = (d, e)) : AEq Tryd.prog 74 [.sl f q (b.map byteA)] [] (.tu [.sl false false (d.map byteA), i64 e]) [] := by
  have hr0 := rnl_bk0
  have hbl := bitsL_len b
  refine acall_body Tryd.func74 rfl Tryd.ntmps74 (by simp) (fun hsc => ?_); simp only [Lf.enter, Nat.reduceAdd]; clear hsc
  have hU := @hr0
  repeat' (first | (guard_target =~ PWp _ _ _ _ _ _ _; first | (refine pwp_seq_k (fun K hK => ?_)) | (refine pwp_rg_then ?_)) | (guard_target =~ rg _ _ _ _ _ _ _; first | (guard_target =~ rg _ _ _ [] _ _ _; first | (refine rg_end ?_)) | (refine rg_a rfl (h := ?_))) | (refine hK _ _ ?_; clear hK K))
  refine pwp_scope_3 (S := HS) HS.k (fun q => [(4, .row 3 q.o.length), (5, i64 q.c), (6, i64 q.n), (11, .ptr 0 0), (12, .ptr 2 0)]) (fun q => [.box bkB, .row 257 3 1 (ordB.map natA), .box [.sl false false (b.map byteA), i64 q.a], .row q.o.length 5 1 (q.o.map byteA)]) (HOk b d e) (fun q => 3 * (8 * b.length - q.a) + (2 - q.k.val)) (by rfl) (by rfl) (by rfl) ?_ ?_ ?_ (fun hB => ?_)
  · rintro ⟨k, a, c, n, o⟩ rfl ⟨ha, ho, h0, h1, h2⟩ hB
    dsimp only at ha ho h0 h1 h2 hB ⊢
    have h0 := h0 rfl
    clear h1 h2
    have hU := True.intro
    repeat' (first | (guard_target =~ PWp _ _ _ _ _ _ _; first | (refine pwp_seq_k (fun K hK => ?_)) | (refine pwp_rg_then ?_)) | (guard_target =~ rg _ _ _ _ _ _ _; first | (guard_target =~ rg _ _ _ [] _ _ _; first | (refine rg_end ?_)) | (refine rg_a rfl (h := ?_))) | (refine hK _ _ ?_; clear hK K))
    refine pwp_label ?_
    dsimp only [Lf.thenQ]
    refine hK _ _ ?_
    refine hB _ _ ⟨1, a, 0, 0, o⟩ [0, 1, 2, 3] rfl (hok1 ha ho way_0 h0) ?_ rfl ?_ ?_
    · dsimp only; omega
    · (refine ⟨⟨_, (by (try simp (disch := omega) only [go_sem, seval, ↓reduceIte, hU]) <;> rfl), ?_⟩, ⟨_, (by (try simp (disch := omega) only [go_sem, seval, ↓reduceIte, hU]) <;> rfl), ?_⟩, ⟨_, (by (try simp (disch := omega) only [go_sem, seval, ↓reduceIte, hU]) <;> rfl), ?_⟩, ⟨_, (by (try simp (disch := omega) only [go_sem, seval, ↓reduceIte, hU]) <;> rfl), ?_⟩, ⟨_, (by (try simp (disch := omega) only [go_sem, seval, ↓reduceIte, hU]) <;> rfl), ?_⟩, trivial⟩ <;> (try (first | exact ale_eq (by with_reducible rfl) | exact ale_full | exact ale_sl (fun _ => rfl) | exact ale_sl (by simp) | exact ale_junk | exact ale_eq rfl)))
    · first | rfl | (simp (disch := omega) only [go_sem, seval, ↓reduceIte, fz_bk4]; done) | (simp (disch := omega) only [go_sem, seval, ↓reduceIte, fz_bk4]; rfl) | trace_state
  · rintro ⟨k, a, c, n, o⟩ rfl ⟨ha, ho, h0, h1, h2⟩
    dsimp only at ha ho h0 h1 h2 ⊢
    obtain ⟨hw, h1⟩ := h1 rfl
    obtain ⟨hc0, hc1, hn⟩ := way_bd hw
    clear h0 h2
    by_cases hend : a = 8 * b.length
    · rw [List.drop_eq_nil_of_le (by omega)] at h1
      have hU := True.intro
      repeat' (first | (guard_target =~ PWp _ _ _ _ _ _ _; first | (refine pwp_seq_k (fun K hK => ?_)) | (refine pwp_rg_then ?_) | ((refine pwp_cond_d (fun hcd => ?_) (fun hcd => ?_)) <;> (try simp only [hcP] at hcd) <;> (try (exfalso; first | omega | exact absurd hcd (by assumption) | exact absurd (by assumption) hcd))) | (refine pwp_goto ?_)) | (guard_target =~ rg _ _ _ _ _ _ _; first | (guard_target =~ rg _ _ _ [] _ _ _; first | (refine rg_end ?_)) | (refine rg_a rfl (h := ?_)) | (refine rg_x rfl (hy := rfl) (h := ?_)) | (refine rg_v rfl (h := ?_)) | (refine rg_s rfl ?_)) | (guard_target =~ SOp _ _ _ _ _ _; first | (guard_target =~ SOp _ _ ⟨_, .call ⟨.value (.func 97), _, _⟩, _, _, _, none⟩ _ _ _; first | (refine n_call (f := 97) rfl Tryd.call97 (h := AEq.sub' [_] (hc := br_bit_no _ _ _ (by omega) (by omega) (by omega)) (hq := ?_))))) | (refine hK _ _ ?_; clear hK K) | (dsimp only [Lf.thenQ, Lf.blockQ]))
      refine ⟨⟨2, a, c, n, o⟩, [0, 1, 2, 3], rfl, hok2 ha ho hw h1, ?_, rfl, ?_, ?_⟩
      · dsimp only; omega
      · (refine ⟨⟨_, (by (try simp (disch := omega) only [go_sem, seval, ↓reduceIte, hU]) <;> rfl), ?_⟩, ⟨_, (by (try simp (disch := omega) only [go_sem, seval, ↓reduceIte, hU]) <;> rfl), ?_⟩, ⟨_, (by (try simp (disch := omega) only [go_sem, seval, ↓reduceIte, hU]) <;> rfl), ?_⟩, ⟨_, (by (try simp (disch := omega) only [go_sem, seval, ↓reduceIte, hU]) <;> rfl), ?_⟩, ⟨_, (by (try simp (disch := omega) only [go_sem, seval, ↓reduceIte, hU]) <;> rfl), ?_⟩, trivial⟩ <;> (try (first | exact ale_eq (by with_reducible rfl) | exact ale_full | exact ale_sl (fun _ => rfl) | exact ale_sl (by simp) | exact ale_junk | exact ale_eq rfl)))
      · first | rfl | (simp (disch := omega) only [go_sem, seval, ↓reduceIte, fz_bk4]; done) | (simp (disch := omega) only [go_sem, seval, ↓reduceIte, fz_bk4]; rfl) | trace_state
    · have hlt : a < (bitsL b).length := by omega
      obtain ⟨x, hx⟩ := ex_at hlt
      have hx01 := bits01 b x (List.mem_of_getElem? hx)
      have hxg : (bitsL b).getD a 0 = x := by rw [List.getD_eq_getElem?_getD, hx]; rfl
      have hor := or_bit c x (by omega) (by omega) hx01
      rw [drop_cons hx] at h1
      by_cases hY : findY (2 * c + x) ((n : Int) + 1) = true
      · have hR := findR_is hY
        by_cases h256 : findS (2 * c + x) ((n : Int) + 1) = 256
        · rw [huM_end _ _ hY h256] at h1
          obtain ⟨rfl, rfl⟩ : d = [] ∧ e = 11 := by simp only [Prod.mk.injEq] at h1; exact ⟨h1.1.symm, h1.2.symm⟩
          have hU := And.intro @hxg ( And.intro @hor ( And.intro @hR ( And.intro @hY (@h256))))
          repeat' (first | (guard_target =~ PWp _ _ _ _ _ _ _; first | (refine pwp_seq_k (fun K hK => ?_)) | (refine pwp_rg_then ?_) | (refine pwp_ret ?_) | (refine pwp_skip ?_) | ((refine pwp_cond_d (fun hcd => ?_) (fun hcd => ?_)) <;> (try simp only [hcP] at hcd) <;> (try (exfalso; first | omega | exact absurd hcd (by assumption) | exact absurd (by assumption) hcd)))) | (guard_target =~ rg _ _ _ _ _ _ _; first | (guard_target =~ rg _ _ _ [] _ _ _; first | (refine rg_end ?_)) | (refine rg_a rfl (h := ?_)) | (refine rg_x rfl (hy := rfl) (h := ?_)) | (refine rg_v rfl (h := ?_)) | (refine rg_s rfl ?_)) | (guard_target =~ SOp _ _ _ _ _ _; first | (guard_target =~ SOp _ _ ⟨_, .call ⟨.value (.func 98), _, _⟩, _, _, _, none⟩ _ _ _; first | (refine n_call (f := 98) rfl Tryd.call98 (h := AEq.sub' [0, 1] (by refine ⟨?_, ?_, ?_, trivial⟩ <;> (first | exact arg_lit | exact arg_rn (by rfl) (by rfl))) (by exact sub_bk _) (bfind _ _ (by omega) (by omega)) (ho := by exact okP_bk) (hq := ?_)))) | (guard_target =~ SOp _ _ ⟨_, .call ⟨.value (.func 97), _, _⟩, _, _, _, none⟩ _ _ _; first | (refine n_call (f := 97) rfl Tryd.call97 (h := AEq.sub' [_] (hc := br_bit _ _ _ (by omega) (by omega) (by omega)) (hq := ?_))))) | (guard_target =~ (_ ∨ _) ∧ _; first | ((refine end_d [] (by rw [Tryd.results74, Lf.res2]) (ale_2 ?_ ?_) ?_) <;> (try (first | exact ale_eq (by with_reducible rfl) | exact ale_full | exact ale_sl (fun _ => rfl) | exact ale_sl (by simp) | exact ale_junk | exact ale_eq rfl | exact stq (by with_reducible rfl) | exact stq (by rfl) | exact stq (by simp (disch := omega) only [go_sem, seval, ↓reduceIte, hU]))))) | (refine hK _ _ ?_; clear hK K))
          all_goals trace_state
        · rw [huM_yes _ _ hY h256] at h1
          obtain ⟨s, hs, hS, _⟩ := of_find hY
          rw [hS] at hR h256 h1
          rw [Int.toNat_natCast] at h1
          have hs6 : s < 256 := by omega
          have hol : (o ++ [UInt8.ofNat s]).length = o.length + 1 := by rw [List.length_append]; rfl
          have hsn : (UInt8.ofNat s).toNat = s := by simp; omega
          have hap : List.map byteA o ++ [[AV.lit (.int .u8 (s : Int))]] = List.map byteA (o ++ [UInt8.ofNat s]) := by rw [List.map_append]; show _ = List.map byteA o ++ [[AV.lit (.int .u8 ((UInt8.ofNat s).toNat : Int))]]; rw [hsn]
          have hU := And.intro @hxg ( And.intro @hor ( And.intro @hR ( And.intro @hY ( And.intro @h256 (@hap)))))
          repeat' (first | (guard_target =~ PWp _ _ _ _ _ _ _; first | (refine pwp_seq_k (fun K hK => ?_)) | (refine pwp_rg_then ?_) | (refine pwp_skip ?_) | ((refine pwp_cond_d (fun hcd => ?_) (fun hcd => ?_)) <;> (try simp only [hcP] at hcd) <;> (try (exfalso; first | omega | exact absurd hcd (by assumption) | exact absurd (by assumption) hcd))) | (refine pwp_goto ?_)) | (guard_target =~ rg _ _ _ _ _ _ _; first | (guard_target =~ rg _ _ _ [] _ _ _; first | (refine rg_end ?_)) | (refine rg_a rfl (h := ?_)) | (refine rg_x rfl (hy := rfl) (h := ?_)) | (refine rg_v rfl (h := ?_)) | (refine rg_s rfl ?_)) | (guard_target =~ SOp _ _ _ _ _ _; first | (guard_target =~ SOp _ _ ⟨_, .buildSlice _ _ _, _, _, _, none⟩ _ _ _; first | (refine n_lit rfl (he := by first | exact eo3 | exact eo4 | exact eo5 | exact eo22 | exact eo28 | exact eo53 | exact eo129 | exact eo148 | exact eo150 | exact eo168 | exact eo169 | exact eo171 | exact eo173 | fail) (hK := ?_))) | (guard_target =~ SOp _ _ ⟨_, .call ⟨.builtin .append, _, _⟩, _, _, _, none⟩ _ _ _; first | (refine n_append_row rfl (he := by first | exact eo3 | exact eo4 | exact eo5 | exact eo22 | exact eo28 | exact eo53 | exact eo129 | exact eo148 | exact eo150 | exact eo168 | exact eo169 | exact eo171 | exact eo173 | fail) (hK := ?_))) | (guard_target =~ SOp _ _ ⟨_, .call ⟨.value (.func 98), _, _⟩, _, _, _, none⟩ _ _ _; first | (refine n_call (f := 98) rfl Tryd.call98 (h := AEq.sub' [0, 1] (by refine ⟨?_, ?_, ?_, trivial⟩ <;> (first | exact arg_lit | exact arg_rn (by rfl) (by rfl))) (by exact sub_bk _) (bfind _ _ (by omega) (by omega)) (ho := by exact okP_bk) (hq := ?_)))) | (guard_target =~ SOp _ _ ⟨_, .call ⟨.value (.func 97), _, _⟩, _, _, _, none⟩ _ _ _; first | (refine n_call (f := 97) rfl Tryd.call97 (h := AEq.sub' [_] (hc := br_bit _ _ _ (by omega) (by omega) (by omega)) (hq := ?_))))) | (refine hK _ _ ?_; clear hK K) | (dsimp only [Lf.thenQ, Lf.blockQ]))
          refine ⟨⟨0, a + 1, 2 * c + x, n + 1, o ++ [UInt8.ofNat s]⟩, [0, 1, 2, 3], rfl, hok0 (by omega) (by rw [hol]; omega) h1, ?_, rfl, ?_, ?_⟩
          · dsimp only; omega
          · (refine ⟨⟨_, (by (try simp (disch := omega) only [go_sem, seval, ↓reduceIte, hU]) <;> rfl), ?_⟩, ⟨_, (by (try simp (disch := omega) only [go_sem, seval, ↓reduceIte, hU]) <;> rfl), ?_⟩, ⟨_, (by (try simp (disch := omega) only [go_sem, seval, ↓reduceIte, hU]) <;> rfl), ?_⟩, ⟨_, (by (try simp (disch := omega) only [go_sem, seval, ↓reduceIte, hU]) <;> rfl), ?_⟩, ⟨_, (by (try simp (disch := omega) only [go_sem, seval, ↓reduceIte, hU]) <;> rfl), ?_⟩, trivial⟩ <;> (try (first | exact ale_eq (by with_reducible rfl) | exact ale_full | exact ale_sl (fun _ => rfl) | exact ale_sl (by simp) | exact ale_junk | exact ale_eq rfl)))
            all_goals exact ale_eq (by dsimp only; rw [hol])
          · dsimp only; rw [hol]; first | rfl | (simp (disch := omega) only [go_sem, seval, ↓reduceIte, hxg, hor, hR, hY, h256, hap, fz_bk4]; done) | (simp (disch := omega) only [go_sem, seval, ↓reduceIte, hxg, hor, hR, hY, h256, hap, fz_bk4]; rfl) | trace_state
      · have hR := findR_no hY
        rw [huM_no _ _ hY] at h1
        have hw2 := way_s hw hx01 hY
        have hU := And.intro @hxg ( And.intro @hor ( And.intro @hR (@hY)))
        repeat' (first | (guard_target =~ PWp _ _ _ _ _ _ _; first | (refine pwp_seq_k (fun K hK => ?_)) | (refine pwp_rg_then ?_) | (refine pwp_skip ?_) | ((refine pwp_cond_d (fun hcd => ?_) (fun hcd => ?_)) <;> (try simp only [hcP] at hcd) <;> (try (exfalso; first | omega | exact absurd hcd (by assumption) | exact absurd (by assumption) hcd))) | (refine pwp_goto ?_)) | (guard_target =~ rg _ _ _ _ _ _ _; first | (guard_target =~ rg _ _ _ [] _ _ _; first | (refine rg_end ?_)) | (refine rg_a rfl (h := ?_)) | (refine rg_x rfl (hy := rfl) (h := ?_)) | (refine rg_v rfl (h := ?_)) | (refine rg_s rfl ?_)) | (guard_target =~ SOp _ _ _ _ _ _; first | (guard_target =~ SOp _ _ ⟨_, .call ⟨.value (.func 98), _, _⟩, _, _, _, none⟩ _ _ _; first | (refine n_call (f := 98) rfl Tryd.call98 (h := AEq.sub' [0, 1] (by refine ⟨?_, ?_, ?_, trivial⟩ <;> (first | exact arg_lit | exact arg_rn (by rfl) (by rfl))) (by exact sub_bk _) (bfind _ _ (by omega) (by omega)) (ho := by exact okP_bk) (hq := ?_)))) | (guard_target =~ SOp _ _ ⟨_, .call ⟨.value (.func 97), _, _⟩, _, _, _, none⟩ _ _ _; first | (refine n_call (f := 97) rfl Tryd.call97 (h := AEq.sub' [_] (hc := br_bit _ _ _ (by omega) (by omega) (by omega)) (hq := ?_))))) | (refine hK _ _ ?_; clear hK K) | (dsimp only [Lf.thenQ, Lf.blockQ]))
        refine ⟨⟨1, a + 1, 2 * c + x, n + 1, o⟩, [0, 1, 2, 3], rfl, hok1 (by omega) (by omega) hw2 h1, ?_, rfl, ?_, ?_⟩
        · dsimp only; omega
        · (refine ⟨⟨_, (by (try simp (disch := omega) only [go_sem, seval, ↓reduceIte, hU]) <;> rfl), ?_⟩, ⟨_, (by (try simp (disch := omega) only [go_sem, seval, ↓reduceIte, hU]) <;> rfl), ?_⟩, ⟨_, (by (try simp (disch := omega) only [go_sem, seval, ↓reduceIte, hU]) <;> rfl), ?_⟩, ⟨_, (by (try simp (disch := omega) only [go_sem, seval, ↓reduceIte, hU]) <;> rfl), ?_⟩, ⟨_, (by (try simp (disch := omega) only [go_sem, seval, ↓reduceIte, hU]) <;> rfl), ?_⟩, trivial⟩ <;> (try (first | exact ale_eq (by with_reducible rfl) | exact ale_full | exact ale_sl (fun _ => rfl) | exact ale_sl (by simp) | exact ale_junk | exact ale_eq rfl)))
        · first | rfl | (simp (disch := omega) only [go_sem, seval, ↓reduceIte, hxg, hor, hR, hY, fz_bk4]; done) | (simp (disch := omega) only [go_sem, seval, ↓reduceIte, hxg, hor, hR, hY, fz_bk4]; rfl) | trace_state
  · rintro ⟨k, a, c, n, o⟩ rfl ⟨ha, ho, h0, h1, h2⟩
    dsimp only at ha ho h0 h1 h2 ⊢
    obtain ⟨hw, h2⟩ := h2 rfl
    obtain ⟨hc0, hc1, hn⟩ := way_bd hw
    clear h0 h1
    have hp := pow_29 hn
    have hwr : IntKind.i64.wrap (IntKind.i64.wrap (2 ^ n) - 1) = 2 ^ n - 1 := by rw [w64 (n := 2 ^ n) (by omega), w64 (by omega)]
    by_cases hbad : 7 < n ∨ c ≠ 2 ^ n - 1
    · rw [huM_nil, if_pos hbad] at h2
      obtain ⟨rfl, rfl⟩ : d = [] ∧ e = 10 := by simp only [Prod.mk.injEq] at h2; exact ⟨h2.1.symm, h2.2.symm⟩
      have hU := @hwr
      repeat' (first | (guard_target =~ PWp _ _ _ _ _ _ _; first | (refine pwp_seq_k (fun K hK => ?_)) | (refine pwp_rg_then ?_) | (refine pwp_ret ?_) | ((refine pwp_cond_d (fun hcd => ?_) (fun hcd => ?_)) <;> (try simp only [hcP] at hcd) <;> (try (exfalso; first | omega | exact absurd hcd (by assumption) | exact absurd (by assumption) hcd)))) | (guard_target =~ rg _ _ _ _ _ _ _; first | (guard_target =~ rg _ _ _ (⟨_, .binOp _ _ _ _ _, _, _, _, some _⟩ :: _) _ _ _; first | (refine rg_gq rfl (h := ?_))) | (guard_target =~ rg _ _ _ (⟨_, .move _, _, _, _, some _⟩ :: _) _ _ _; first | (refine rg_gq rfl (h := ?_))) | (guard_target =~ rg _ _ _ (⟨_, .convert _ _ _, _, _, _, some _⟩ :: _) _ _ _; first | (refine rg_gq rfl (h := ?_))) | (guard_target =~ rg _ _ _ [] _ _ _; first | (refine rg_end ?_)) | (refine rg_a rfl (h := ?_)) | (refine rg_v rfl (h := ?_))) | (guard_target =~ (_ ∨ _) ∧ _; first | ((refine end_d [] (by rw [Tryd.results74, Lf.res2]) (ale_2 ?_ ?_) ?_) <;> (try (first | exact ale_eq (by with_reducible rfl) | exact ale_full | exact ale_sl (fun _ => rfl) | exact ale_sl (by simp) | exact ale_junk | exact ale_eq rfl | exact stq (by with_reducible rfl) | exact stq (by rfl) | exact stq (by simp (disch := omega) only [go_sem, seval, ↓reduceIte, hU]))))) | (refine hK _ _ ?_; clear hK K))
      all_goals trace_state
    · rw [huM_nil, if_neg hbad] at h2
      obtain ⟨rfl, rfl⟩ : d = o ∧ e = 0 := by simp only [Prod.mk.injEq] at h2; exact ⟨h2.1.symm, h2.2.symm⟩
      have hU := @hwr
      repeat' (first | (guard_target =~ PWp _ _ _ _ _ _ _; first | (refine pwp_seq_k (fun K hK => ?_)) | (refine pwp_rg_then ?_) | (refine pwp_ret ?_) | (refine pwp_skip ?_) | ((refine pwp_cond_d (fun hcd => ?_) (fun hcd => ?_)) <;> (try simp only [hcP] at hcd) <;> (try (exfalso; first | omega | exact absurd hcd (by assumption) | exact absurd (by assumption) hcd)))) | (guard_target =~ rg _ _ _ _ _ _ _; first | (guard_target =~ rg _ _ _ (⟨_, .binOp _ _ _ _ _, _, _, _, some _⟩ :: _) _ _ _; first | (refine rg_gq rfl (h := ?_))) | (guard_target =~ rg _ _ _ (⟨_, .move _, _, _, _, some _⟩ :: _) _ _ _; first | (refine rg_gq rfl (h := ?_))) | (guard_target =~ rg _ _ _ (⟨_, .convert _ _ _, _, _, _, some _⟩ :: _) _ _ _; first | (refine rg_gq rfl (h := ?_))) | (guard_target =~ rg _ _ _ [] _ _ _; first | (refine rg_end ?_)) | (refine rg_a rfl (h := ?_)) | (refine rg_v rfl (h := ?_))) | (guard_target =~ (_ ∨ _) ∧ _; first | ((refine end_d [] (by rw [Tryd.results74, Lf.res2]) (ale_2 ?_ ?_) ?_) <;> (try (first | exact ale_eq (by with_reducible rfl) | exact ale_full | exact ale_sl (fun _ => rfl) | exact ale_sl (by simp) | exact ale_junk | exact ale_eq rfl | exact stq (by with_reducible rfl) | exact stq (by rfl) | exact stq (by simp (disch := omega) only [go_sem, seval, ↓reduceIte, hU]))))) | (refine hK _ _ ?_; clear hK K))
      all_goals trace_state
  · have hU := True.intro
    repeat' (first | (guard_target =~ PWp _ _ _ _ _ _ _; first | (refine pwp_seq_k (fun K hK => ?_)) | (refine pwp_rg_then ?_)) | (guard_target =~ rg _ _ _ _ _ _ _; first | (guard_target =~ rg _ _ _ [] _ _ _; first | (refine rg_end ?_)) | (refine rg_a rfl (h := ?_)) | (refine rg_v rfl (h := ?_)) | (refine rg_s rfl ?_)) | (guard_target =~ SOp _ _ _ _ _ _; first | (guard_target =~ SOp _ _ ⟨_, .call ⟨.value (.func 96), _, _⟩, _, _, _, none⟩ _ _ _; first | (refine n_call (f := 96) rfl Tryd.call96 (h := AEq.sub' [] (hc := br_of _ _ _ (by omega)) (hq := ?_)))) | (guard_target =~ SOp _ _ ⟨_, .call ⟨.value (.func 95), _, _⟩, _, _, _, none⟩ _ _ _; first | (refine n_call (f := 95) rfl Tryd.call95 (h := AEq.sub' [] (hc := cbook) (hq := ?_))))) | (refine hK _ _ ?_; clear hK K))
    refine pwp_label ?_
    dsimp only [Lf.thenQ]
    refine hK _ _ ?_
    refine pwp_row 4 5 1 (by decide) (by rfl) rfl rfl ?_
    refine hB _ _ ⟨0, 0, 0, 0, []⟩ [0, 1, 2, 3] rfl (hok0 (Nat.zero_le _) (Nat.le_refl _) htot) rfl ?_ ?_
    · (refine ⟨⟨_, (by (try simp (disch := omega) only [go_sem, seval, ↓reduceIte, hU]) <;> rfl), ?_⟩, ⟨_, (by (try simp (disch := omega) only [go_sem, seval, ↓reduceIte, hU]) <;> rfl), ?_⟩, ⟨_, (by (try simp (disch := omega) only [go_sem, seval, ↓reduceIte, hU]) <;> rfl), ?_⟩, ⟨_, (by (try simp (disch := omega) only [go_sem, seval, ↓reduceIte, hU]) <;> rfl), ?_⟩, ⟨_, (by (try simp (disch := omega) only [go_sem, seval, ↓reduceIte, hU]) <;> rfl), ?_⟩, trivial⟩ <;> (try (first | exact ale_eq (by with_reducible rfl) | exact ale_full | exact ale_sl (fun _ => rfl) | exact ale_sl (by simp) | exact ale_junk | exact ale_eq rfl)))
    · first | rfl | (simp (disch := omega) only [go_sem, seval, ↓reduceIte, fz_bk4]; done) | (simp (disch := omega) only [go_sem, seval, ↓reduceIte, fz_bk4]; rfl) | trace_state
theorem hdecode (f q : Bool) (b : List UInt8) (hb : b.length ≤ 100000) : AEq Tryd.prog 74 [.sl f q (b.map byteA)] [] (.tu [.sl false false ((huM (bitsL b) 0 0 []).1.map byteA), i64 (huM (bitsL b) 0 0 []).2]) [] := hdecode0 f q b hb _ _ rfl
end Go.Proofs.YtohbfcmmpaikhaaDoor

set_option linter.unusedVariables false
set_option linter.unusedSimpArgs false
namespace Go.Proofs.YtohbfcmmpaikhaaDoor
open Go Go.Lf Go.Proofs
attribute [local irreducible] Lf.rg Lf.ro Lf.PWp Lf.SOp Lf.ACall Lf.Scoped Lf.dg Lf.dw
set_option maxRecDepth 20000
set_option maxHeartbeats 4000000
attribute [local irreducible] codesT csI szI rpL rowB encL packL lensT
end Go.Proofs.YtohbfcmmpaikhaaDoor

set_option linter.unusedVariables false
set_option linter.unusedSimpArgs false
namespace Go.Proofs.YtohbfcmmpaikhaaDoor
open Go Go.Lf Go.Proofs
attribute [local irreducible] Lf.rg Lf.ro Lf.PWp Lf.SOp Lf.ACall Lf.Scoped Lf.dg Lf.dw
set_option maxRecDepth 20000
set_option maxHeartbeats 4000000
def begG (l : List Int) : Nat → Nat → Int × Int
  | 0, _ => (-1, 0)
  | m + 1, p => if findY (numBits (l.take (p + 1))) ((p : Int) + 1) = true then (findS (numBits (l.take (p + 1))) ((p : Int) + 1), (p : Int) + 1) else begG l m (p + 1)
def begL (l : List Int) : Int × Int := begG l (min 30 l.length) 0
attribute [local irreducible] codesT csI szI lensT findY findS numBits begL
attribute [local irreducible] huM bitsL
end Go.Proofs.YtohbfcmmpaikhaaDoor

set_option linter.unusedVariables false
set_option linter.unusedSimpArgs false
namespace Go.Proofs.YtohbfcmmpaikhaaDoor
open Go Go.Lf Go.Proofs
attribute [local irreducible] Lf.rg Lf.ro Lf.PWp Lf.SOp Lf.ACall Lf.Scoped Lf.dg
set_option maxRecDepth 20000
set_option maxHeartbeats 4000000
end Go.Proofs.YtohbfcmmpaikhaaDoor

set_option linter.unusedVariables false
set_option linter.unusedSimpArgs false
namespace Go.Lf
open Go
end Go.Lf

set_option linter.unusedVariables false
set_option linter.unusedSimpArgs false
namespace Go.Proofs.YtohbfcmmpaikhaaDoor
open Go Go.Lf Go.Proofs
attribute [local irreducible] Lf.rg Lf.ro Lf.PWp Lf.SOp Lf.ACall Lf.Scoped Lf.dg Lf.dw
set_option maxRecDepth 20000
set_option maxHeartbeats 4000000
/-! bit by bit, of numbers from 0 on -/
theorem iandN (a b : Nat) (ha : a < 2 ^ 62) (hb : b < 2 ^ 62) : iand .i64 (a : Int) (b : Int) = ((a &&& b : Nat) : Int) := by
  show IntKind.i64.wrap ((BitVec.ofInt 64 (a : Int) &&& BitVec.ofInt 64 (b : Int)).toNat : Int) = _
  have e1 : BitVec.ofInt 64 (a : Int) = BitVec.ofNat 64 a := rfl
  have e2 : BitVec.ofInt 64 (b : Int) = BitVec.ofNat 64 b := rfl
  rw [e1, e2, BitVec.toNat_and, BitVec.toNat_ofNat, BitVec.toNat_ofNat, Nat.mod_eq_of_lt (by omega), Nat.mod_eq_of_lt (by omega)]
  have := Nat.and_le_left (n := a) (m := b)
  exact w64 (by omega)
def pwI (b : Int) : Int := 2 ^ b.toNat
theorem pwI_bd {b : Int} (h1 : 1 ≤ b) (h8 : b ≤ 8) : 2 ≤ pwI b ∧ pwI b ≤ 256 := by
  obtain rfl | rfl | rfl | rfl | rfl | rfl | rfl | rfl : b = 1 ∨ b = 2 ∨ b = 3 ∨ b = 4 ∨ b = 5 ∨ b = 6 ∨ b = 7 ∨ b = 8 := by omega
  all_goals decide
theorem pwI_and {b n : Int} (h1 : 1 ≤ b) (h8 : b ≤ 8) (hn : 0 ≤ n) (hn2 : n ≤ 4294967296) : iand .i64 n (pwI b - 1) = n % pwI b := by
  obtain ⟨k, rfl⟩ : ∃ k : Nat, n = k := ⟨n.toNat, by omega⟩
  have hk : 2 ^ b.toNat ≤ 2 ^ 8 := Nat.pow_le_pow_right (by decide) (by omega)
  have hk0 : 0 < 2 ^ b.toNat := Nat.pow_pos (by decide)
  have e : pwI b - 1 = ((2 ^ b.toNat - 1 : Nat) : Int) := by
    unfold pwI
    have : (2 : Int) ^ b.toNat = ((2 ^ b.toNat : Nat) : Int) := by simp
    rw [this]; omega
  rw [e, iandN k _ (by omega) (by omega), Nat.and_two_pow_sub_one_eq_mod]
  unfold pwI
  simp
def byI (x : Int) : UInt8 := UInt8.ofNat x.toNat
def oneB (x : Int) : List UInt8 := [byI x]
def digF : Nat → Int → List UInt8
  | 0, n => oneB n
  | k + 1, n => if n < 128 then oneB n else oneB (128 + n % 128) ++ digF k (n / 128)
def pfxP (f b n : Int) : List UInt8 := if n < pwI b - 1 then oneB (f + n) else oneB (f + pwI b - 1) ++ digF 4 (n - (pwI b - 1))
attribute [local irreducible] pwI oneB digF pfxP
theorem pfull (b : Int) (h1 : 1 ≤ b) (h8 : b ≤ 8) : AEq Tryd.prog 73 [i64 b] [] (.tu [i64 (pwI b - 1), bl true]) [] := by
  have hp := pwI_bd h1 h8
  have hwr : IntKind.i64.wrap (IntKind.i64.wrap (2 ^ b.toNat) - 1) = pwI b - 1 := by
    have e : (2 : Int) ^ b.toNat = pwI b := by unfold pwI; rfl
    rw [e, w64 (n := pwI b) (by omega), w64 (by omega)]
  refine acall_body Tryd.func73 rfl Tryd.ntmps73 (by simp) (fun hsc => ?_); simp only [Lf.enter, Nat.reduceAdd]; clear hsc
  have hU := @hwr
  repeat' (first | (guard_target =~ PWp _ _ _ _ _ _ _; first | (refine pwp_seq_k (fun K hK => ?_)) | (refine pwp_rg_then ?_) | (refine pwp_ret ?_) | (refine pwp_skip ?_) | ((refine pwp_cond_d (fun hcd => ?_) (fun hcd => ?_)) <;> (try simp only [hcP] at hcd) <;> (try (exfalso; first | omega | exact absurd hcd (by assumption) | exact absurd (by assumption) hcd)))) | (guard_target =~ rg _ _ _ _ _ _ _; first | (guard_target =~ rg _ _ _ (⟨_, .move _, _, _, _, some _⟩ :: _) _ _ _; first | (refine rg_gq rfl (h := ?_))) | (guard_target =~ rg _ _ _ (⟨_, .binOp _ _ _ _ _, _, _, _, some _⟩ :: _) _ _ _; first | (refine rg_gq rfl (h := ?_))) | (guard_target =~ rg _ _ _ [] _ _ _; first | (refine rg_end ?_)) | (refine rg_a rfl (h := ?_)) | (refine rg_v rfl (h := ?_))) | (guard_target =~ (_ ∨ _) ∧ _; first | ((refine end_d [] (by rw [Tryd.results73, Lf.res2]) (ale_2 ?_ ?_) ?_) <;> (try (first | exact ale_eq (by with_reducible rfl) | exact ale_full | exact ale_sl (fun _ => rfl) | exact ale_sl (by simp) | exact ale_junk | exact ale_eq rfl | exact stq (by with_reducible rfl) | exact stq (by rfl) | exact stq (by simp (disch := omega) only [go_sem, seval, ↓reduceIte, hU]))))) | (refine hK _ _ ?_; clear hK K))
  all_goals trace_state
end Go.Proofs.YtohbfcmmpaikhaaDoor

set_option linter.unusedVariables false
set_option linter.unusedSimpArgs false
namespace Go.Proofs.YtohbfcmmpaikhaaDoor
open Go Go.Lf Go.Proofs
attribute [local irreducible] Lf.rg Lf.ro Lf.PWp Lf.SOp Lf.ACall Lf.Scoped Lf.dg Lf.dw
set_option maxRecDepth 20000
set_option maxHeartbeats 4000000
theorem and127 : ∀ x : Fin 256, iand .u8 (x.val : Int) 127 = (x.val : Int) % 128 := by decide +kernel
def pgF (b : List UInt8) : Nat → Nat → Int → Int × Int × Int
  | 0, _, _ => (0, 0, 5)
  | k + 1, a, n => match b[a + 1]? with
    | none => (0, 0, 3)
    | some x => if (x.toNat : Int) < 128 then (if 2147483647 < n + (x.toNat : Int) % 128 * pwI (7 * (a : Int)) then (0, 0, 5) else (n + (x.toNat : Int) % 128 * pwI (7 * (a : Int)), (a : Int) + 2, 0)) else pgF b k (a + 1) (n + (x.toNat : Int) % 128 * pwI (7 * (a : Int)))
theorem pgF_0 {b : List UInt8} {a : Nat} {n : Int} : pgF b 0 a n = (0, 0, 5) := rfl
theorem pgF_none {b : List UInt8} {k a : Nat} {n : Int} (h : b[a + 1]? = none) : pgF b (k + 1) a n = (0, 0, 3) := by rw [pgF, h]
theorem pgF_big {b : List UInt8} {k a : Nat} {n : Int} {x : UInt8} (h : b[a + 1]? = some x) (h1 : (x.toNat : Int) < 128) (h2 : 2147483647 < n + (x.toNat : Int) % 128 * pwI (7 * (a : Int))) : pgF b (k + 1) a n = (0, 0, 5) := by
  rw [pgF, h]; dsimp only; rw [if_pos h1, if_pos h2]
theorem pgF_end {b : List UInt8} {k a : Nat} {n : Int} {x : UInt8} (h : b[a + 1]? = some x) (h1 : (x.toNat : Int) < 128) (h2 : ¬ 2147483647 < n + (x.toNat : Int) % 128 * pwI (7 * (a : Int))) : pgF b (k + 1) a n = (n + (x.toNat : Int) % 128 * pwI (7 * (a : Int)), (a : Int) + 2, 0) := by
  rw [pgF, h]; dsimp only; rw [if_pos h1, if_neg h2]
theorem pgF_more {b : List UInt8} {k a : Nat} {n : Int} {x : UInt8} (h : b[a + 1]? = some x) (h1 : ¬ (x.toNat : Int) < 128) : pgF b (k + 1) a n = pgF b k (a + 1) (n + (x.toNat : Int) % 128 * pwI (7 * (a : Int))) := by
  rw [pgF, h]; dsimp only; rw [if_neg h1]
def pgG (b : List UInt8) (c : Int) : Int × Int × Int := match b[0]? with
  | none => (0, 0, 3)
  | some x => if (x.toNat : Int) % pwI c < pwI c - 1 then ((x.toNat : Int) % pwI c, 1, 0) else pgF b 5 0 ((x.toNat : Int) % pwI c)
theorem pgG_none {b : List UInt8} {c : Int} (h : b[0]? = none) : pgG b c = (0, 0, 3) := by rw [pgG, h]
theorem pgG_lt {b : List UInt8} {c : Int} {x : UInt8} (h : b[0]? = some x) (h1 : (x.toNat : Int) % pwI c < pwI c - 1) : pgG b c = ((x.toNat : Int) % pwI c, 1, 0) := by rw [pgG, h]; dsimp only; rw [if_pos h1]
theorem pgG_ge {b : List UInt8} {c : Int} {x : UInt8} (h : b[0]? = some x) (h1 : ¬ (x.toNat : Int) % pwI c < pwI c - 1) : pgG b c = pgF b 5 0 ((x.toNat : Int) % pwI c) := by rw [pgG, h]; dsimp only; rw [if_neg h1]
theorem pw28 {a : Nat} (h : a ≤ 4) : 1 ≤ pwI (7 * (a : Int)) ∧ pwI (7 * (a : Int)) ≤ 268435456 := by
  obtain rfl | rfl | rfl | rfl | rfl : a = 0 ∨ a = 1 ∨ a = 2 ∨ a = 3 ∨ a = 4 := by omega
  all_goals decide
attribute [local irreducible] pwI pgF
theorem pget0 (f q : Bool) (b : List UInt8) (hb : b.length ≤ 1000000) (c : Int) (h1 : 1 ≤ c) (h8 : c ≤ 8) (rn rk re : Int) (htot : pgG b c = (rn, rk, re)) : AEq Tryd.prog 43 [.sl f q (b.map byteA), i64 c] [] (.tu [i64 rn, i64 rk, i64 re]) [] := by
  have hp := pwI_bd h1 h8
  by_cases hbe : b.length = 0
  · have hb0 : b[0]? = none := List.getElem?_eq_none (by omega)
    rw [pgG_none hb0] at htot
    obtain ⟨rfl, rfl, rfl⟩ : rn = 0 ∧ rk = 0 ∧ re = 3 := by simp only [Prod.mk.injEq] at htot; omega
    refine acall_body Tryd.func43 rfl Tryd.ntmps43 (by simp) (fun hsc => ?_); simp only [Lf.enter, Nat.reduceAdd]; clear hsc
    have hU := True.intro
    repeat' (first | (guard_target =~ PWp _ _ _ _ _ _ _; first | (refine pwp_seq_k (fun K hK => ?_)) | (refine pwp_rg_then ?_)) | (guard_target =~ rg _ _ _ _ _ _ _; first | (guard_target =~ rg _ _ _ [] _ _ _; first | (refine rg_end ?_)) | (refine rg_a rfl (h := ?_))) | (refine hK _ _ ?_; clear hK K))
    refine pwp_scope_k (S := Unit) 0 (fun _ => []) (fun _ => []) (fun _ => False) (fun _ => 0) (by rfl) (fun s hs => absurd hs id) (fun _ => ?_)
    repeat' (first | (guard_target =~ PWp _ _ _ _ _ _ _; first | (refine pwp_seq_k (fun K hK => ?_)) | (refine pwp_block ?_) | (refine pwp_rg_then ?_) | (refine pwp_ret ?_) | ((refine pwp_cond_d (fun hcd => ?_) (fun hcd => ?_)) <;> (try simp only [hcP] at hcd) <;> (try (exfalso; first | omega | exact absurd hcd (by assumption) | exact absurd (by assumption) hcd)))) | (guard_target =~ rg _ _ _ _ _ _ _; first | (guard_target =~ rg _ _ _ [] _ _ _; first | (refine rg_end ?_)) | (refine rg_a rfl (h := ?_)) | (refine rg_x rfl (hy := rfl) (h := ?_)) | (refine rg_v rfl (h := ?_)) | (refine rg_s rfl ?_)) | (guard_target =~ SOp _ _ _ _ _ _; first | (guard_target =~ SOp _ _ ⟨_, .call ⟨.value (.func 73), _, _⟩, _, _, _, none⟩ _ _ _; first | (refine n_call (f := 73) rfl Tryd.call73 (h := AEq.pure' (by first | ((repeat' (first | exact trivial | (first | exact arg_lit | exact arg_sl id id | exact arg_nil | exact arg_sl (by simp) id | exact arg_sl (by simp) (fun _ => rfl) | exact arg_row_m (by rfl) (by rfl) (fun _ => rfl) | exact arg_vw_m (by rfl) (by rfl) (fun _ => rfl) | exact arg_rn (by rfl) (by rfl) | exact arg_junk | exact arg_row_mm (by rfl) (by rfl) (fun _ => rfl)) | refine ⟨?_, ?_⟩)); done) | fail) (pfull _ (by assumption) (by assumption)) (hq := ?_))))) | (guard_target =~ (_ ∨ _) ∧ _; first | ((refine end_d [] (by rw [Tryd.results43, Lf.res3]) (ale_3 ?_ ?_ ?_) ?_) <;> (try (first | exact ale_eq (by with_reducible rfl) | exact ale_full | exact ale_sl (fun _ => rfl) | exact ale_sl (by simp) | exact ale_junk | exact ale_eq rfl | exact stq (by with_reducible rfl) | exact stq (by rfl) | exact stq (by simp (disch := omega) only [go_sem, seval, ↓reduceIte, hU]))))) | (refine hK _ _ ?_; clear hK K))
    all_goals trace_state
  · obtain ⟨x, hx⟩ := ex_at (l := b) (i := 0) (by omega)
    have hxl := x.toNat_lt
    have hand := pwI_and (n := (x.toNat : Int)) h1 h8 (by omega) (by omega)
    by_cases hlt : (x.toNat : Int) % pwI c < pwI c - 1
    · rw [pgG_lt hx hlt] at htot
      obtain ⟨rfl, rfl, rfl⟩ : rn = (x.toNat : Int) % pwI c ∧ rk = 1 ∧ re = 0 := by simp only [Prod.mk.injEq] at htot; omega
      refine acall_body Tryd.func43 rfl Tryd.ntmps43 (by simp) (fun hsc => ?_); simp only [Lf.enter, Nat.reduceAdd]; clear hsc
      have hU := @hand
      repeat' (first | (guard_target =~ PWp _ _ _ _ _ _ _; first | (refine pwp_seq_k (fun K hK => ?_)) | (refine pwp_rg_then ?_)) | (guard_target =~ rg _ _ _ _ _ _ _; first | (guard_target =~ rg _ _ _ [] _ _ _; first | (refine rg_end ?_)) | (refine rg_a rfl (h := ?_))) | (refine hK _ _ ?_; clear hK K))
      refine pwp_scope_k (S := Unit) 0 (fun _ => []) (fun _ => []) (fun _ => False) (fun _ => 0) (by rfl) (fun s hs => absurd hs id) (fun _ => ?_)
      repeat' (first | (guard_target =~ PWp _ _ _ _ _ _ _; first | (refine pwp_seq_k (fun K hK => ?_)) | (refine pwp_block ?_) | (refine pwp_rg_then ?_) | (refine pwp_ret ?_) | (refine pwp_skip ?_) | ((refine pwp_cond_d (fun hcd => ?_) (fun hcd => ?_)) <;> (try simp only [hcP] at hcd) <;> (try (exfalso; first | omega | exact absurd hcd (by assumption) | exact absurd (by assumption) hcd)))) | (guard_target =~ rg _ _ _ _ _ _ _; first | (guard_target =~ rg _ _ _ [] _ _ _; first | (refine rg_end ?_)) | (refine rg_a rfl (h := ?_)) | (refine rg_x rfl (hy := rfl) (h := ?_)) | (refine rg_v rfl (h := ?_)) | (refine rg_s rfl ?_)) | (guard_target =~ SOp _ _ _ _ _ _; first | (guard_target =~ SOp _ _ ⟨_, .indexAddr _ _ _, _, _, _, none⟩ _ _ _; first | (refine n_index rfl (hK := ?_))) | (guard_target =~ SOp _ _ ⟨_, .call ⟨.value (.func 73), _, _⟩, _, _, _, none⟩ _ _ _; first | (refine n_call (f := 73) rfl Tryd.call73 (h := AEq.pure' (by first | ((repeat' (first | exact trivial | (first | exact arg_lit | exact arg_sl id id | exact arg_nil | exact arg_sl (by simp) id | exact arg_sl (by simp) (fun _ => rfl) | exact arg_row_m (by rfl) (by rfl) (fun _ => rfl) | exact arg_vw_m (by rfl) (by rfl) (fun _ => rfl) | exact arg_rn (by rfl) (by rfl) | exact arg_junk | exact arg_row_mm (by rfl) (by rfl) (fun _ => rfl)) | refine ⟨?_, ?_⟩)); done) | fail) (pfull _ (by assumption) (by assumption)) (hq := ?_))))) | (guard_target =~ (_ ∨ _) ∧ _; first | ((refine end_d [] (by rw [Tryd.results43, Lf.res3]) (ale_3 ?_ ?_ ?_) ?_) <;> (try (first | exact ale_eq (by with_reducible rfl) | exact ale_full | exact ale_sl (fun _ => rfl) | exact ale_sl (by simp) | exact ale_junk | exact ale_eq rfl | exact stq (by with_reducible rfl) | exact stq (by rfl) | exact stq (by simp (disch := omega) only [go_sem, seval, ↓reduceIte, hU]))))) | (refine hK _ _ ?_; clear hK K))
      all_goals trace_state
    · rw [pgG_ge hx hlt] at htot
      have hm0 : 0 ≤ (x.toNat : Int) % pwI c := Int.emod_nonneg _ (by omega)
      have hm1 : (x.toNat : Int) % pwI c < pwI c := Int.emod_lt_of_pos _ (by omega)
      refine acall_body Tryd.func43 rfl Tryd.ntmps43 (by simp) (fun hsc => ?_); simp only [Lf.enter, Nat.reduceAdd]; clear hsc
      have hU := @hand
      repeat' (first | (guard_target =~ PWp _ _ _ _ _ _ _; first | (refine pwp_seq_k (fun K hK => ?_)) | (refine pwp_rg_then ?_)) | (guard_target =~ rg _ _ _ _ _ _ _; first | (guard_target =~ rg _ _ _ [] _ _ _; first | (refine rg_end ?_)) | (refine rg_a rfl (h := ?_))) | (refine hK _ _ ?_; clear hK K))
      refine pwp_scope_k (S := Nat × Int) 0 (fun s => [(0, .sl f q (b.map byteA)), (8, i64 s.1), (7, i64 s.2)]) (fun _ => []) (fun s => s.1 ≤ 5 ∧ s.1 + 1 ≤ b.length ∧ 0 ≤ s.2 ∧ s.2 ≤ 256 + 34359738368 * s.1 ∧ pgF b (5 - s.1) s.1 s.2 = (rn, rk, re)) (fun s => 5 - s.1) (by rfl) ?_ (fun hB => ?_)
      · rintro ⟨a, n⟩ ⟨ha, hab, hn0, hn1, htt⟩
        dsimp only at ha hab hn0 hn1 htt ⊢
        by_cases ha5 : a = 5
        · subst ha5
          rw [show 5 - 5 = 0 from rfl, pgF_0] at htt
          obtain ⟨rfl, rfl, rfl⟩ : rn = 0 ∧ rk = 0 ∧ re = 5 := by simp only [Prod.mk.injEq] at htt; omega
          have hU := True.intro
          repeat' (first | (guard_target =~ PWp _ _ _ _ _ _ _; first | (refine pwp_seq_k (fun K hK => ?_)) | (refine pwp_rg_then ?_) | (refine pwp_ret ?_) | ((refine pwp_cond_d (fun hcd => ?_) (fun hcd => ?_)) <;> (try simp only [hcP] at hcd) <;> (try (exfalso; first | omega | exact absurd hcd (by assumption) | exact absurd (by assumption) hcd)))) | (guard_target =~ rg _ _ _ _ _ _ _; first | (guard_target =~ rg _ _ _ [] _ _ _; first | (refine rg_end ?_)) | (refine rg_a rfl (h := ?_)) | (refine rg_v rfl (h := ?_))) | (guard_target =~ (_ ∨ _) ∧ _; first | ((refine end_d [] (by rw [Tryd.results43, Lf.res3]) (ale_3 ?_ ?_ ?_) ?_) <;> (try (first | exact ale_eq (by with_reducible rfl) | exact ale_full | exact ale_sl (fun _ => rfl) | exact ale_sl (by simp) | exact ale_junk | exact ale_eq rfl | exact stq (by with_reducible rfl) | exact stq (by rfl) | exact stq (by simp (disch := omega) only [go_sem, seval, ↓reduceIte, hU]))))) | (refine hK _ _ ?_; clear hK K))
          all_goals trace_state
        rw [show 5 - a = (5 - (a + 1)) + 1 from by omega] at htt
        by_cases hal : a + 1 = b.length
        · rw [pgF_none (List.getElem?_eq_none (by omega))] at htt
          obtain ⟨rfl, rfl, rfl⟩ : rn = 0 ∧ rk = 0 ∧ re = 3 := by simp only [Prod.mk.injEq] at htt; omega
          have hU := True.intro
          repeat' (first | (guard_target =~ PWp _ _ _ _ _ _ _; first | (refine pwp_seq_k (fun K hK => ?_)) | (refine pwp_rg_then ?_) | (refine pwp_ret ?_) | (refine pwp_skip ?_) | ((refine pwp_cond_d (fun hcd => ?_) (fun hcd => ?_)) <;> (try simp only [hcP] at hcd) <;> (try (exfalso; first | omega | exact absurd hcd (by assumption) | exact absurd (by assumption) hcd)))) | (guard_target =~ rg _ _ _ _ _ _ _; first | (guard_target =~ rg _ _ _ [] _ _ _; first | (refine rg_end ?_)) | (refine rg_a rfl (h := ?_)) | (refine rg_v rfl (h := ?_))) | (guard_target =~ (_ ∨ _) ∧ _; first | ((refine end_d [] (by rw [Tryd.results43, Lf.res3]) (ale_3 ?_ ?_ ?_) ?_) <;> (try (first | exact ale_eq (by with_reducible rfl) | exact ale_full | exact ale_sl (fun _ => rfl) | exact ale_sl (by simp) | exact ale_junk | exact ale_eq rfl | exact stq (by with_reducible rfl) | exact stq (by rfl) | exact stq (by simp (disch := omega) only [go_sem, seval, ↓reduceIte, hU]))))) | (refine hK _ _ ?_; clear hK K))
          all_goals trace_state
        obtain ⟨y, hy⟩ := ex_at (l := b) (i := a + 1) (by omega)
        have hyl := y.toNat_lt
        have hpa := pw28 (a := a) (by omega)
        have h127 := and127 ⟨y.toNat, hyl⟩
        dsimp only at h127
        have hmul : 0 ≤ (y.toNat : Int) % 128 * pwI (7 * (a : Int)) ∧ (y.toNat : Int) % 128 * pwI (7 * (a : Int)) ≤ 127 * 268435456 := ⟨Int.mul_nonneg (by omega) (by omega), Int.mul_le_mul (by omega) hpa.2 (by omega) (by omega)⟩
        have hshl : IntKind.i64.wrap ((y.toNat : Int) % 128 * 2 ^ (7 * ((a : Int) + 1 - 1)).toNat) = (y.toNat : Int) % 128 * pwI (7 * (a : Int)) := by
          rw [Int.add_sub_cancel]
          have e : (2 : Int) ^ (7 * (a : Int)).toNat = pwI (7 * (a : Int)) := by unfold pwI; rfl
          rw [e, w64 (by omega)]
        generalize hv : (y.toNat : Int) % 128 * pwI (7 * (a : Int)) = v at *
        by_cases hlt2 : (y.toNat : Int) < 128
        · by_cases hbig : 2147483647 < n + v
          · rw [pgF_big hy hlt2 (by rw [hv]; exact hbig)] at htt
            obtain ⟨rfl, rfl, rfl⟩ : rn = 0 ∧ rk = 0 ∧ re = 5 := by simp only [Prod.mk.injEq] at htt; omega
            have hU := And.intro @h127 (@hshl)
            repeat' (first | (guard_target =~ PWp _ _ _ _ _ _ _; first | (refine pwp_seq_k (fun K hK => ?_)) | (refine pwp_rg_then ?_) | (refine pwp_ret ?_) | (refine pwp_skip ?_) | ((refine pwp_cond_d (fun hcd => ?_) (fun hcd => ?_)) <;> (try simp only [hcP] at hcd) <;> (try (exfalso; first | omega | exact absurd hcd (by assumption) | exact absurd (by assumption) hcd)))) | (guard_target =~ rg _ _ _ _ _ _ _; first | (guard_target =~ rg _ _ _ [] _ _ _; first | (refine rg_end ?_)) | (refine rg_a rfl (h := ?_)) | (refine rg_v rfl (h := ?_)) | (refine rg_s rfl ?_)) | (guard_target =~ SOp _ _ _ _ _ _; first | (guard_target =~ SOp _ _ ⟨_, .indexAddr _ _ _, _, _, _, none⟩ _ _ _; first | (refine n_index rfl (hK := ?_)))) | (guard_target =~ (_ ∨ _) ∧ _; first | ((refine end_d [] (by rw [Tryd.results43, Lf.res3]) (ale_3 ?_ ?_ ?_) ?_) <;> (try (first | exact ale_eq (by with_reducible rfl) | exact ale_full | exact ale_sl (fun _ => rfl) | exact ale_sl (by simp) | exact ale_junk | exact ale_eq rfl | exact stq (by with_reducible rfl) | exact stq (by rfl) | exact stq (by simp (disch := omega) only [go_sem, seval, ↓reduceIte, hU]))))) | (refine hK _ _ ?_; clear hK K))
            all_goals trace_state
          · rw [pgF_end hy hlt2 (by rw [hv]; exact hbig), hv] at htt
            obtain ⟨rfl, rfl, rfl⟩ : rn = n + v ∧ rk = (a : Int) + 2 ∧ re = 0 := by simp only [Prod.mk.injEq] at htt; omega
            have hU := And.intro @h127 (@hshl)
            repeat' (first | (guard_target =~ PWp _ _ _ _ _ _ _; first | (refine pwp_seq_k (fun K hK => ?_)) | (refine pwp_rg_then ?_) | (refine pwp_ret ?_) | (refine pwp_skip ?_) | ((refine pwp_cond_d (fun hcd => ?_) (fun hcd => ?_)) <;> (try simp only [hcP] at hcd) <;> (try (exfalso; first | omega | exact absurd hcd (by assumption) | exact absurd (by assumption) hcd)))) | (guard_target =~ rg _ _ _ _ _ _ _; first | (guard_target =~ rg _ _ _ [] _ _ _; first | (refine rg_end ?_)) | (refine rg_a rfl (h := ?_)) | (refine rg_v rfl (h := ?_)) | (refine rg_s rfl ?_)) | (guard_target =~ SOp _ _ _ _ _ _; first | (guard_target =~ SOp _ _ ⟨_, .indexAddr _ _ _, _, _, _, none⟩ _ _ _; first | (refine n_index rfl (hK := ?_)))) | (guard_target =~ (_ ∨ _) ∧ _; first | ((refine end_d [] (by rw [Tryd.results43, Lf.res3]) (ale_3 ?_ ?_ ?_) ?_) <;> (try (first | exact ale_eq (by with_reducible rfl) | exact ale_full | exact ale_sl (fun _ => rfl) | exact ale_sl (by simp) | exact ale_junk | exact ale_eq rfl | exact stq (by with_reducible rfl) | exact stq (by rfl) | exact stq (by simp (disch := omega) only [go_sem, seval, ↓reduceIte, hU]))))) | (refine hK _ _ ?_; clear hK K))
            all_goals trace_state
        · rw [pgF_more hy hlt2, hv] at htt
          have hU := And.intro @h127 (@hshl)
          repeat' (first | (guard_target =~ PWp _ _ _ _ _ _ _; first | (refine pwp_seq_k (fun K hK => ?_)) | (refine pwp_rg_then ?_) | (refine pwp_skip ?_) | ((refine pwp_cond_d (fun hcd => ?_) (fun hcd => ?_)) <;> (try simp only [hcP] at hcd) <;> (try (exfalso; first | omega | exact absurd hcd (by assumption) | exact absurd (by assumption) hcd))) | (refine pwp_goto ?_)) | (guard_target =~ rg _ _ _ _ _ _ _; first | (guard_target =~ rg _ _ _ [] _ _ _; first | (refine rg_end ?_)) | (refine rg_a rfl (h := ?_)) | (refine rg_v rfl (h := ?_)) | (refine rg_s rfl ?_)) | (guard_target =~ SOp _ _ _ _ _ _; first | (guard_target =~ SOp _ _ ⟨_, .indexAddr _ _ _, _, _, _, none⟩ _ _ _; first | (refine n_index rfl (hK := ?_)))) | (refine hK _ _ ?_; clear hK K) | (dsimp only [Lf.thenQ, Lf.blockQ]) | (dsimp only [jumpQ]) | (guard_target =~ (_ : Nat) = _ ∧ _; refine ⟨rfl, ?_⟩))
          refine ⟨(a + 1, n + v), [], ⟨by dsimp only; omega, by dsimp only; omega, by dsimp only; omega, by dsimp only; omega, htt⟩, by dsimp only; omega, rfl, ?_, ?_⟩
          · have hU := True.intro
            (refine ⟨⟨_, (by (try simp (disch := omega) only [go_sem, seval, ↓reduceIte, hU]) <;> rfl), ?_⟩, ⟨_, (by (try simp (disch := omega) only [go_sem, seval, ↓reduceIte, hU]) <;> rfl), ?_⟩, ⟨_, (by (try simp (disch := omega) only [go_sem, seval, ↓reduceIte, hU]) <;> rfl), ?_⟩, trivial⟩ <;> (try (first | exact ale_eq (by with_reducible rfl) | exact ale_full | exact ale_sl (fun _ => rfl) | exact ale_sl (by simp) | exact ale_junk | exact ale_eq rfl)))
          · rfl
      · repeat' (first | (guard_target =~ PWp _ _ _ _ _ _ _; first | (refine pwp_seq_k (fun K hK => ?_)) | (refine pwp_block ?_) | (refine pwp_rg_then ?_) | (refine pwp_skip ?_) | ((refine pwp_cond_d (fun hcd => ?_) (fun hcd => ?_)) <;> (try simp only [hcP] at hcd) <;> (try (exfalso; first | omega | exact absurd hcd (by assumption) | exact absurd (by assumption) hcd)))) | (guard_target =~ rg _ _ _ _ _ _ _; first | (guard_target =~ rg _ _ _ [] _ _ _; first | (refine rg_end ?_)) | (refine rg_a rfl (h := ?_)) | (refine rg_x rfl (hy := rfl) (h := ?_)) | (refine rg_v rfl (h := ?_)) | (refine rg_s rfl ?_)) | (guard_target =~ SOp _ _ _ _ _ _; first | (guard_target =~ SOp _ _ ⟨_, .indexAddr _ _ _, _, _, _, none⟩ _ _ _; first | (refine n_index rfl (hK := ?_))) | (guard_target =~ SOp _ _ ⟨_, .call ⟨.value (.func 73), _, _⟩, _, _, _, none⟩ _ _ _; first | (refine n_call (f := 73) rfl Tryd.call73 (h := AEq.pure' (by first | ((repeat' (first | exact trivial | (first | exact arg_lit | exact arg_sl id id | exact arg_nil | exact arg_sl (by simp) id | exact arg_sl (by simp) (fun _ => rfl) | exact arg_row_m (by rfl) (by rfl) (fun _ => rfl) | exact arg_vw_m (by rfl) (by rfl) (fun _ => rfl) | exact arg_rn (by rfl) (by rfl) | exact arg_junk | exact arg_row_mm (by rfl) (by rfl) (fun _ => rfl)) | refine ⟨?_, ?_⟩)); done) | fail) (pfull _ (by assumption) (by assumption)) (hq := ?_))))) | (refine hK _ _ ?_; clear hK K))
        refine pwp_label ?_
        dsimp only [Lf.thenQ]
        refine hK _ _ ?_
        refine hB _ _ (0, (x.toNat : Int) % pwI c) [] ⟨by dsimp only; omega, by dsimp only; omega, hm0, by dsimp only; omega, htot⟩ rfl ?_ ?_
        · have hU := True.intro
          (refine ⟨⟨_, (by (try simp (disch := omega) only [go_sem, seval, ↓reduceIte, hU]) <;> rfl), ?_⟩, ⟨_, (by (try simp (disch := omega) only [go_sem, seval, ↓reduceIte, hU]) <;> rfl), ?_⟩, ⟨_, (by (try simp (disch := omega) only [go_sem, seval, ↓reduceIte, hU]) <;> rfl), ?_⟩, trivial⟩ <;> (try (first | exact ale_eq (by with_reducible rfl) | exact ale_full | exact ale_sl (fun _ => rfl) | exact ale_sl (by simp) | exact ale_junk | exact ale_eq rfl)))
        · rfl
theorem pget (f q : Bool) (b : List UInt8) (hb : b.length ≤ 1000000) (c : Int) (h1 : 1 ≤ c) (h8 : c ≤ 8) : AEq Tryd.prog 43 [.sl f q (b.map byteA), i64 c] [] (.tu [i64 (pgG b c).1, i64 (pgG b c).2.1, i64 (pgG b c).2.2]) [] := pget0 f q b hb c h1 h8 _ _ _ rfl
end Go.Proofs.YtohbfcmmpaikhaaDoor

set_option linter.unusedVariables false
set_option linter.unusedSimpArgs false
namespace Go.Proofs.YtohbfcmmpaikhaaDoor
open Go Go.Lf Go.Proofs
attribute [local irreducible] Lf.rg Lf.ro Lf.PWp Lf.SOp Lf.ACall Lf.Scoped Lf.dg
set_option maxRecDepth 20000
set_option maxHeartbeats 4000000
/-! what is put is got -/
theorem pw7p (a : Nat) : 1 ≤ pwI (7 * (a : Int)) := by
  unfold pwI
  have e : ((2 : Int) ^ (7 * (a : Int)).toNat) = ((2 ^ (7 * (a : Int)).toNat : Nat) : Int) := by simp
  rw [e]
  have := Nat.pow_pos (n := (7 * (a : Int)).toNat) (show 0 < 2 by decide)
  omega
end Go.Proofs.YtohbfcmmpaikhaaDoor

set_option linter.unusedVariables false
set_option linter.unusedSimpArgs false
namespace Go.Proofs.YtohbfcmmpaikhaaDoor
open Go Go.Lf Go.Proofs
attribute [local irreducible] Lf.rg Lf.ro Lf.PWp Lf.SOp Lf.ACall Lf.Scoped Lf.dg Lf.dw
set_option maxRecDepth 20000
set_option maxHeartbeats 4000000
section
variable {P : Program} {N : Nat} {o : Oper} {Γ : Env} {σ : Sto} {K : AV → Sto → Prop} {x y : Operand} {ts : Array TypeId} {k k' : IntKind} {a b : Int}
theorem n_max_l (ho : o.op = .call { callee := .builtin .max, args := #[x, y], argTypes := ts }) (hx : ev Γ x = .lit (.int k a)) (hy : ev Γ y = .lit (.int k' b)) (h : b ≤ a) (hK : K (.lit (.int k a)) σ) : SOp P N o Γ σ K := by
  refine SOp.pure (.lit (.int k a)) (fun ρ w ac hf hr => ⟨.int k a, ?_, rfl⟩) hK
  have e1 := hf.lit hx
  have e2 := hf.lit hy
  have h2 : ¬ b > a := by omega
  simp [execOp, ho, resolve, invoke, builtin, Builtin.max_, Builtin.max2, e1, e2, h2]
theorem n_max_r (ho : o.op = .call { callee := .builtin .max, args := #[x, y], argTypes := ts }) (hx : ev Γ x = .lit (.int k a)) (hy : ev Γ y = .lit (.int k' b)) (h : a ≤ b) (hK : K (.lit (.int k b)) σ) : SOp P N o Γ σ K := by
  refine SOp.pure (.lit (.int k b)) (fun ρ w ac hf hr => ⟨.int k b, ?_, rfl⟩) hK
  have e1 := hf.lit hx
  have e2 := hf.lit hy
  by_cases h2 : b > a
  · simp [execOp, ho, resolve, invoke, builtin, Builtin.max_, Builtin.max2, e1, e2, h2]
  · obtain rfl : a = b := by omega
    simp [execOp, ho, resolve, invoke, builtin, Builtin.max_, Builtin.max2, e1, e2]
end
end Go.Proofs.YtohbfcmmpaikhaaDoor

set_option linter.unusedVariables false
set_option linter.unusedSimpArgs false
namespace Go.Proofs.YtohbfcmmpaikhaaDoor
open Go Go.Lf Go.Proofs
attribute [local irreducible] Lf.rg Lf.ro Lf.PWp Lf.SOp Lf.ACall Lf.Scoped Lf.dg Lf.dw
set_option maxRecDepth 20000
set_option maxHeartbeats 4000000
def slB (s : Bool) (l : List UInt8) : List UInt8 := if s then rowB (encL l) else l
def slF (s : Bool) : Int := if s then 128 else 0
def slP (s : Bool) (l : List UInt8) : List UInt8 := pfxP (slF s) 7 ((slB s l).length : Int) ++ slB s l
theorem and128 : ∀ x : Fin 256, iand .u8 (x.val : Int) 128 = if (x.val : Int) < 128 then 0 else 128 := by decide +kernel
theorem and128_lo {x : UInt8} (h : (x.toNat : Int) < 128) : iand .u8 (x.toNat : Int) 128 = 0 := by
  have := and128 ⟨x.toNat, x.toNat_lt⟩
  dsimp only at this
  rw [this, if_pos h]
theorem and128_hi {x : UInt8} (h : ¬ (x.toNat : Int) < 128) : iand .u8 (x.toNat : Int) 128 = 128 := by
  have := and128 ⟨x.toNat, x.toNat_lt⟩
  dsimp only at this
  rw [this, if_neg h]
theorem pgF_bd (b : List UInt8) : ∀ (k a : Nat) (n : Int), 0 ≤ n → a + k ≤ 5 → 0 ≤ (pgF b k a n).1 ∧ (pgF b k a n).1 ≤ 2147483647 ∧ 0 ≤ (pgF b k a n).2.1 ∧ (pgF b k a n).2.1 ≤ (b.length : Int) ∧ (pgF b k a n).2.1 ≤ 6
  | 0, a, n, h, h2 => by rw [pgF_0]; dsimp only; omega
  | k + 1, a, n, h, h2 => by
    cases hx : b[a + 1]? with
    | none => rw [pgF_none hx]; dsimp only; omega
    | some x =>
      have hl := (List.getElem?_eq_some_iff.1 hx).1
      have hp := pw7p a
      have hm : 0 ≤ (x.toNat : Int) % 128 * pwI (7 * (a : Int)) := Int.mul_nonneg (by omega) (by omega)
      by_cases h1 : (x.toNat : Int) < 128
      · by_cases h3 : 2147483647 < n + (x.toNat : Int) % 128 * pwI (7 * (a : Int))
        · rw [pgF_big hx h1 h3]; dsimp only; omega
        · rw [pgF_end hx h1 h3]; dsimp only; omega
      · rw [pgF_more hx h1]
        exact pgF_bd b k (a + 1) _ (by omega) (by omega)
theorem pgG_bd (b : List UInt8) {c : Int} (h1 : 1 ≤ c) (h8 : c ≤ 8) : 0 ≤ (pgG b c).1 ∧ (pgG b c).1 ≤ 2147483647 ∧ 0 ≤ (pgG b c).2.1 ∧ (pgG b c).2.1 ≤ (b.length : Int) ∧ (pgG b c).2.1 ≤ 6 := by
  have hp := pwI_bd h1 h8
  cases hx : b[0]? with
  | none => rw [pgG_none hx]; dsimp only; omega
  | some x =>
    have hl := (List.getElem?_eq_some_iff.1 hx).1
    have hm0 : 0 ≤ (x.toNat : Int) % pwI c := Int.emod_nonneg _ (by omega)
    by_cases h : (x.toNat : Int) % pwI c < pwI c - 1
    · rw [pgG_lt hx h]; dsimp only; omega
    · rw [pgG_ge hx h]; exact pgF_bd b 5 0 _ hm0 (by omega)
theorem pgG_ok (b : List UInt8) {c : Int} (h : (pgG b c).2.2 = 0) : 1 ≤ b.length := by
  cases hx : b[0]? with
  | none => rw [pgG_none hx] at h; exact absurd h (by decide)
  | some x => have hl := (List.getElem?_eq_some_iff.1 hx).1; omega
def hiB (b : List UInt8) : Bool := match b[0]? with
  | some x => decide (¬ (x.toNat : Int) < 128)
  | none => false
theorem hiB_eq {b : List UInt8} {x : UInt8} (h : b[0]? = some x) : hiB b = decide (¬ (x.toNat : Int) < 128) := by unfold hiB; rw [h]
def cutB (b : List UInt8) (k n : Nat) : List UInt8 := (b.drop k).take n
def slG (b : List UInt8) (most : Int) : List UInt8 × Bool × Int × Int :=
  if (pgG b 7).2.2 ≠ 0 then ([], false, 0, (pgG b 7).2.2)
  else if max most 0 < (pgG b 7).1 then ([], false, 0, 9)
  else if (b.length : Int) - (pgG b 7).2.1 < (pgG b 7).1 then ([], false, 0, 3)
  else if hiB b = false then (cutB b (pgG b 7).2.1.toNat (pgG b 7).1.toNat, false, (pgG b 7).2.1 + (pgG b 7).1, 0)
  else if (huM (bitsL (cutB b (pgG b 7).2.1.toNat (pgG b 7).1.toNat)) 0 0 []).2 ≠ 0 then ([], false, 0, (huM (bitsL (cutB b (pgG b 7).2.1.toNat (pgG b 7).1.toNat)) 0 0 []).2)
  else ((huM (bitsL (cutB b (pgG b 7).2.1.toNat (pgG b 7).1.toNat)) 0 0 []).1, true, (pgG b 7).2.1 + (pgG b 7).1, 0)
attribute [local irreducible] pwI pfxP pgF pgG huM bitsL rowB encL
theorem slG_e {b : List UInt8} {most : Int} (h : (pgG b 7).2.2 ≠ 0) : slG b most = ([], false, 0, (pgG b 7).2.2) := by rw [slG, if_pos h]
theorem slG_long {b : List UInt8} {most : Int} (h : (pgG b 7).2.2 = 0) (h2 : max most 0 < (pgG b 7).1) : slG b most = ([], false, 0, 9) := by rw [slG, if_neg (by simpa using h), if_pos h2]
theorem slG_short {b : List UInt8} {most : Int} (h : (pgG b 7).2.2 = 0) (h2 : ¬ max most 0 < (pgG b 7).1) (h3 : (b.length : Int) - (pgG b 7).2.1 < (pgG b 7).1) : slG b most = ([], false, 0, 3) := by rw [slG, if_neg (by simpa using h), if_neg h2, if_pos h3]
theorem slG_lit {b : List UInt8} {most : Int} {k n : Nat} (h : (pgG b 7).2.2 = 0) (h2 : ¬ max most 0 < (pgG b 7).1) (h3 : ¬ (b.length : Int) - (pgG b 7).2.1 < (pgG b 7).1) (hk : (pgG b 7).2.1 = k) (hn : (pgG b 7).1 = n) (h4 : hiB b = false) : slG b most = (cutB b k n, false, (k : Int) + (n : Int), 0) := by
  rw [slG, if_neg (by simpa using h), if_neg h2, if_neg h3, if_pos h4, hk, hn, Int.toNat_natCast, Int.toNat_natCast]
theorem slG_bad {b : List UInt8} {most : Int} {k n : Nat} (h : (pgG b 7).2.2 = 0) (h2 : ¬ max most 0 < (pgG b 7).1) (h3 : ¬ (b.length : Int) - (pgG b 7).2.1 < (pgG b 7).1) (hk : (pgG b 7).2.1 = k) (hn : (pgG b 7).1 = n) (h4 : hiB b = true) (h5 : (huM (bitsL (cutB b k n)) 0 0 []).2 ≠ 0) : slG b most = ([], false, 0, (huM (bitsL (cutB b k n)) 0 0 []).2) := by
  rw [slG, if_neg (by simpa using h), if_neg h2, if_neg h3, if_neg (by simp [h4]), hk, hn, Int.toNat_natCast, Int.toNat_natCast, if_pos h5]
theorem slG_cod {b : List UInt8} {most : Int} {k n : Nat} (h : (pgG b 7).2.2 = 0) (h2 : ¬ max most 0 < (pgG b 7).1) (h3 : ¬ (b.length : Int) - (pgG b 7).2.1 < (pgG b 7).1) (hk : (pgG b 7).2.1 = k) (hn : (pgG b 7).1 = n) (h4 : hiB b = true) (h5 : (huM (bitsL (cutB b k n)) 0 0 []).2 = 0) : slG b most = ((huM (bitsL (cutB b k n)) 0 0 []).1, true, (k : Int) + (n : Int), 0) := by
  rw [slG, if_neg (by simpa using h), if_neg h2, if_neg h3, if_neg (by simp [h4]), hk, hn, Int.toNat_natCast, Int.toNat_natCast, if_neg (by simpa using h5)]
theorem slG_cases (b : List UInt8) (most : Int) : ((pgG b 7).2.2 ≠ 0 ∧ slG b most = ([], false, 0, (pgG b 7).2.2)) ∨ ((pgG b 7).2.2 = 0 ∧ 1 ≤ b.length ∧ max most 0 < (pgG b 7).1 ∧ slG b most = ([], false, 0, 9)) ∨ ((pgG b 7).2.2 = 0 ∧ 1 ≤ b.length ∧ ¬ max most 0 < (pgG b 7).1 ∧ (b.length : Int) - (pgG b 7).2.1 < (pgG b 7).1 ∧ slG b most = ([], false, 0, 3)) ∨ ((pgG b 7).2.2 = 0 ∧ 1 ≤ b.length ∧ ¬ max most 0 < (pgG b 7).1 ∧ ¬ (b.length : Int) - (pgG b 7).2.1 < (pgG b 7).1) := by
  by_cases h : (pgG b 7).2.2 = 0
  · have h1 := pgG_ok b h
    by_cases h2 : max most 0 < (pgG b 7).1
    · exact .inr (.inl ⟨h, h1, h2, slG_long h h2⟩)
    by_cases h3 : (b.length : Int) - (pgG b 7).2.1 < (pgG b 7).1
    · exact .inr (.inr (.inl ⟨h, h1, h2, h3, slG_short h h2 h3⟩))
    · exact .inr (.inr (.inr ⟨h, h1, h2, h3⟩))
  · exact .inl ⟨h, slG_e h⟩
attribute [local irreducible] slG cutB
theorem sget0 (f q : Bool) (b : List UInt8) (hb : b.length ≤ 100000) (most : Int) (t : List UInt8) (s : Bool) (k e : Int) (htot : slG b most = (t, s, k, e)) : AEq Tryd.prog 45 [.sl f q (b.map byteA), i64 most] [] (.tu [.ag [.lit (.string ⟨t.toArray⟩), bl s], i64 k, i64 e]) [] := by
  have hbd := pgG_bd b (c := 7) (by decide) (by decide)
  rcases slG_cases b most with ⟨h1, h2⟩ | ⟨h1, h0, h3, h2⟩ | ⟨h1, h0, h3, h4, h2⟩ | ⟨h1, h0, h3, h4⟩
  · rw [h2] at htot
    obtain ⟨rfl, rfl, rfl, rfl⟩ : t = [] ∧ s = false ∧ k = 0 ∧ e = (pgG b 7).2.2 := by simp only [Prod.mk.injEq] at htot; exact ⟨htot.1.symm, htot.2.1.symm, htot.2.2.1.symm, htot.2.2.2.symm⟩
    refine acall_body Tryd.func45 rfl Tryd.ntmps45 (by simp) (fun hsc => ?_); simp only [Lf.enter, Nat.reduceAdd]; clear hsc
    have hU := True.intro
    repeat' (first | (guard_target =~ PWp _ _ _ _ _ _ _; first | (refine pwp_seq_k (fun K hK => ?_)) | (refine pwp_block ?_) | (refine pwp_rg_then ?_) | (refine pwp_ret ?_) | ((refine pwp_cond_d (fun hcd => ?_) (fun hcd => ?_)) <;> (try simp only [hcP] at hcd) <;> (try (exfalso; first | omega | exact absurd hcd (by assumption) | exact absurd (by assumption) hcd)))) | (guard_target =~ rg _ _ _ _ _ _ _; first | (guard_target =~ rg _ _ _ [] _ _ _; first | (refine rg_end ?_)) | (refine rg_a rfl (h := ?_)) | (refine rg_x rfl (hy := rfl) (h := ?_)) | (refine rg_v rfl (h := ?_)) | (refine rg_s rfl ?_) | (refine rg_n rfl ?_)) | (guard_target =~ SOp _ _ _ _ _ _; first | (guard_target =~ SOp _ _ ⟨_, .build _ _, _, _, _, none⟩ _ _ _; first | (refine n_build rfl (by first | exact bd25 | fail) (hK := ?_))) | (guard_target =~ SOp _ _ ⟨_, .store _ _ _, _, _, _, none⟩ _ _ _; first | (refine n_store rfl (hK := ?_))) | (guard_target =~ SOp _ _ ⟨_, .call ⟨.value (.func 43), _, _⟩, _, _, _, none⟩ _ _ _; first | (refine n_call (f := 43) rfl Tryd.call43 (h := AEq.pure' (by first | ((repeat' (first | exact trivial | (first | exact arg_lit | exact arg_sl id id | exact arg_nil | exact arg_sl (by simp) id | exact arg_sl (by simp) (fun _ => rfl) | exact arg_row_m (by rfl) (by rfl) (fun _ => rfl) | exact arg_vw_m (by rfl) (by rfl) (fun _ => rfl) | exact arg_rn (by rfl) (by rfl) | exact arg_junk | exact arg_row_mm (by rfl) (by rfl) (fun _ => rfl)) | refine ⟨?_, ?_⟩)); done) | fail) (pget _ _ _ (by omega) _ (by omega) (by omega)) (hq := ?_)))) | (guard_target =~ SOp _ _ ⟨_, .alloc _, _, _, _, none⟩ _ _ _; first | (refine n_alloc rfl (by first | exact zv3 | exact zv4 | exact zv5 | exact zv9 | exact zv22 | exact zv25 | exact zv28 | fail) (hK := ?_)))) | (guard_target =~ (_ ∨ _) ∧ _; first | ((refine end_q [] (by first | exact .inr rfl | exact .inl rfl | fail) (by rfl) (by rw [Tryd.results45]; exact Lf.resM3 (by (try simp (disch := omega) only [Lf.resOne, go_sem, seval, ↓reduceIte, hU]); rfl) (by (try simp (disch := omega) only [Lf.resOne, go_sem, seval, ↓reduceIte, hU]); rfl) (by (try simp (disch := omega) only [Lf.resOne, go_sem, seval, ↓reduceIte, hU]); rfl)) (by (try simp (disch := omega) only [go_sem, seval, ↓reduceIte, hU]) <;> rfl) (by (try simp (disch := omega) only [go_sem, seval, ↓reduceIte, hU]) <;> rfl) (ale_3 ?_ ?_ ?_) ?_) <;> (try (first | exact ale_eq (by with_reducible rfl) | exact ale_full | exact ale_sl (fun _ => rfl) | exact ale_sl (by simp) | exact ale_junk | exact ale_eq rfl | exact stq (by with_reducible rfl) | exact stq (by rfl) | exact stq (by simp (disch := omega) only [go_sem, seval, ↓reduceIte, hU]))))) | (refine hK _ _ ?_; clear hK K))
    all_goals trace_state
  · rw [h2] at htot
    obtain ⟨rfl, rfl, rfl, rfl⟩ : t = [] ∧ s = false ∧ k = 0 ∧ e = 9 := by simp only [Prod.mk.injEq] at htot; exact ⟨htot.1.symm, htot.2.1.symm, htot.2.2.1.symm, htot.2.2.2.symm⟩
    by_cases hm : most ≤ 0
    · have hmx : max most 0 = 0 := by omega
      rw [hmx] at h3
      refine acall_body Tryd.func45 rfl Tryd.ntmps45 (by simp) (fun hsc => ?_); simp only [Lf.enter, Nat.reduceAdd]; clear hsc
      have hU := @h1
      repeat' (first | (guard_target =~ PWp _ _ _ _ _ _ _; first | (refine pwp_seq_k (fun K hK => ?_)) | (refine pwp_block ?_) | (refine pwp_rg_then ?_) | (refine pwp_ret ?_) | ((refine pwp_cond_d (fun hcd => ?_) (fun hcd => ?_)) <;> (try simp only [hcP] at hcd) <;> (try (exfalso; first | omega | exact absurd hcd (by assumption) | exact absurd (by assumption) hcd)))) | (guard_target =~ rg _ _ _ _ _ _ _; first | (guard_target =~ rg _ _ _ [] _ _ _; first | (refine rg_end ?_)) | (refine rg_a rfl (h := ?_)) | (refine rg_x rfl (hy := rfl) (h := ?_)) | (refine rg_v rfl (h := ?_)) | (refine rg_s rfl ?_) | (refine rg_n rfl ?_)) | (guard_target =~ SOp _ _ _ _ _ _; first | (guard_target =~ SOp _ _ ⟨_, .build _ _, _, _, _, none⟩ _ _ _; first | (refine n_build rfl (by first | exact bd25 | fail) (hK := ?_))) | (guard_target =~ SOp _ _ ⟨_, .store _ _ _, _, _, _, none⟩ _ _ _; first | (refine n_store rfl (hK := ?_))) | (guard_target =~ SOp _ _ ⟨_, .call ⟨.value (.func 43), _, _⟩, _, _, _, none⟩ _ _ _; first | (refine n_call (f := 43) rfl Tryd.call43 (h := AEq.pure' (by first | ((repeat' (first | exact trivial | (first | exact arg_lit | exact arg_sl id id | exact arg_nil | exact arg_sl (by simp) id | exact arg_sl (by simp) (fun _ => rfl) | exact arg_row_m (by rfl) (by rfl) (fun _ => rfl) | exact arg_vw_m (by rfl) (by rfl) (fun _ => rfl) | exact arg_rn (by rfl) (by rfl) | exact arg_junk | exact arg_row_mm (by rfl) (by rfl) (fun _ => rfl)) | refine ⟨?_, ?_⟩)); done) | fail) (pget _ _ _ (by omega) _ (by omega) (by omega)) (hq := ?_)))) | (guard_target =~ SOp _ _ ⟨_, .alloc _, _, _, _, none⟩ _ _ _; first | (refine n_alloc rfl (by first | exact zv3 | exact zv4 | exact zv5 | exact zv9 | exact zv22 | exact zv25 | exact zv28 | fail) (hK := ?_))) | (guard_target =~ SOp _ _ ⟨_, .call ⟨.builtin .max, _, _⟩, _, _, _, none⟩ _ _ _; first | (refine n_max_r rfl (by (try simp (disch := omega) only [go_sem, seval, ↓reduceIte, hU]) <;> rfl) (by (try simp (disch := omega) only [go_sem, seval, ↓reduceIte, hU]) <;> rfl) (by (try simp only [List.length_map, List.length_append, List.length_cons, List.length_nil, List.length_replicate, List.length_take, List.length_drop, List.length_set]); omega) ?_))) | (guard_target =~ (_ ∨ _) ∧ _; first | ((refine end_q [] (by first | exact .inr rfl | exact .inl rfl | fail) (by rfl) (by rw [Tryd.results45]; exact Lf.resM3 (by (try simp (disch := omega) only [Lf.resOne, go_sem, seval, ↓reduceIte, hU]); rfl) (by (try simp (disch := omega) only [Lf.resOne, go_sem, seval, ↓reduceIte, hU]); rfl) (by (try simp (disch := omega) only [Lf.resOne, go_sem, seval, ↓reduceIte, hU]); rfl)) (by (try simp (disch := omega) only [go_sem, seval, ↓reduceIte, hU]) <;> rfl) (by (try simp (disch := omega) only [go_sem, seval, ↓reduceIte, hU]) <;> rfl) (ale_3 ?_ ?_ ?_) ?_) <;> (try (first | exact ale_eq (by with_reducible rfl) | exact ale_full | exact ale_sl (fun _ => rfl) | exact ale_sl (by simp) | exact ale_junk | exact ale_eq rfl | exact stq (by with_reducible rfl) | exact stq (by rfl) | exact stq (by simp (disch := omega) only [go_sem, seval, ↓reduceIte, hU]))))) | (refine hK _ _ ?_; clear hK K))
      all_goals trace_state
    · have hmx : max most 0 = most := by omega
      rw [hmx] at h3
      refine acall_body Tryd.func45 rfl Tryd.ntmps45 (by simp) (fun hsc => ?_); simp only [Lf.enter, Nat.reduceAdd]; clear hsc
      have hU := @h1
      repeat' (first | (guard_target =~ PWp _ _ _ _ _ _ _; first | (refine pwp_seq_k (fun K hK => ?_)) | (refine pwp_block ?_) | (refine pwp_rg_then ?_) | (refine pwp_ret ?_) | ((refine pwp_cond_d (fun hcd => ?_) (fun hcd => ?_)) <;> (try simp only [hcP] at hcd) <;> (try (exfalso; first | omega | exact absurd hcd (by assumption) | exact absurd (by assumption) hcd)))) | (guard_target =~ rg _ _ _ _ _ _ _; first | (guard_target =~ rg _ _ _ [] _ _ _; first | (refine rg_end ?_)) | (refine rg_a rfl (h := ?_)) | (refine rg_x rfl (hy := rfl) (h := ?_)) | (refine rg_v rfl (h := ?_)) | (refine rg_s rfl ?_) | (refine rg_n rfl ?_)) | (guard_target =~ SOp _ _ _ _ _ _; first | (guard_target =~ SOp _ _ ⟨_, .build _ _, _, _, _, none⟩ _ _ _; first | (refine n_build rfl (by first | exact bd25 | fail) (hK := ?_))) | (guard_target =~ SOp _ _ ⟨_, .store _ _ _, _, _, _, none⟩ _ _ _; first | (refine n_store rfl (hK := ?_))) | (guard_target =~ SOp _ _ ⟨_, .call ⟨.value (.func 43), _, _⟩, _, _, _, none⟩ _ _ _; first | (refine n_call (f := 43) rfl Tryd.call43 (h := AEq.pure' (by first | ((repeat' (first | exact trivial | (first | exact arg_lit | exact arg_sl id id | exact arg_nil | exact arg_sl (by simp) id | exact arg_sl (by simp) (fun _ => rfl) | exact arg_row_m (by rfl) (by rfl) (fun _ => rfl) | exact arg_vw_m (by rfl) (by rfl) (fun _ => rfl) | exact arg_rn (by rfl) (by rfl) | exact arg_junk | exact arg_row_mm (by rfl) (by rfl) (fun _ => rfl)) | refine ⟨?_, ?_⟩)); done) | fail) (pget _ _ _ (by omega) _ (by omega) (by omega)) (hq := ?_)))) | (guard_target =~ SOp _ _ ⟨_, .alloc _, _, _, _, none⟩ _ _ _; first | (refine n_alloc rfl (by first | exact zv3 | exact zv4 | exact zv5 | exact zv9 | exact zv22 | exact zv25 | exact zv28 | fail) (hK := ?_))) | (guard_target =~ SOp _ _ ⟨_, .call ⟨.builtin .max, _, _⟩, _, _, _, none⟩ _ _ _; first | (refine n_max_l rfl (by (try simp (disch := omega) only [go_sem, seval, ↓reduceIte, hU]) <;> rfl) (by (try simp (disch := omega) only [go_sem, seval, ↓reduceIte, hU]) <;> rfl) (by (try simp only [List.length_map, List.length_append, List.length_cons, List.length_nil, List.length_replicate, List.length_take, List.length_drop, List.length_set]); omega) ?_))) | (guard_target =~ (_ ∨ _) ∧ _; first | ((refine end_q [] (by first | exact .inr rfl | exact .inl rfl | fail) (by rfl) (by rw [Tryd.results45]; exact Lf.resM3 (by (try simp (disch := omega) only [Lf.resOne, go_sem, seval, ↓reduceIte, hU]); rfl) (by (try simp (disch := omega) only [Lf.resOne, go_sem, seval, ↓reduceIte, hU]); rfl) (by (try simp (disch := omega) only [Lf.resOne, go_sem, seval, ↓reduceIte, hU]); rfl)) (by (try simp (disch := omega) only [go_sem, seval, ↓reduceIte, hU]) <;> rfl) (by (try simp (disch := omega) only [go_sem, seval, ↓reduceIte, hU]) <;> rfl) (ale_3 ?_ ?_ ?_) ?_) <;> (try (first | exact ale_eq (by with_reducible rfl) | exact ale_full | exact ale_sl (fun _ => rfl) | exact ale_sl (by simp) | exact ale_junk | exact ale_eq rfl | exact stq (by with_reducible rfl) | exact stq (by rfl) | exact stq (by simp (disch := omega) only [go_sem, seval, ↓reduceIte, hU]))))) | (refine hK _ _ ?_; clear hK K))
      all_goals trace_state
  · rw [h2] at htot
    obtain ⟨rfl, rfl, rfl, rfl⟩ : t = [] ∧ s = false ∧ k = 0 ∧ e = 3 := by simp only [Prod.mk.injEq] at htot; exact ⟨htot.1.symm, htot.2.1.symm, htot.2.2.1.symm, htot.2.2.2.symm⟩
    by_cases hm : most ≤ 0
    · have hmx : max most 0 = 0 := by omega
      rw [hmx] at h3
      refine acall_body Tryd.func45 rfl Tryd.ntmps45 (by simp) (fun hsc => ?_); simp only [Lf.enter, Nat.reduceAdd]; clear hsc
      have hU := @h1
      repeat' (first | (guard_target =~ PWp _ _ _ _ _ _ _; first | (refine pwp_seq_k (fun K hK => ?_)) | (refine pwp_block ?_) | (refine pwp_rg_then ?_) | ((refine pwp_cond_d (fun hcd => ?_) (fun hcd => ?_)) <;> (try simp only [hcP] at hcd) <;> (try (exfalso; first | omega | exact absurd hcd (by assumption) | exact absurd (by assumption) hcd)))) | (guard_target =~ rg _ _ _ _ _ _ _; first | (guard_target =~ rg _ _ _ [] _ _ _; first | (refine rg_end ?_)) | (refine rg_a rfl (h := ?_)) | (refine rg_x rfl (hy := rfl) (h := ?_)) | (refine rg_v rfl (h := ?_)) | (refine rg_s rfl ?_)) | (guard_target =~ SOp _ _ _ _ _ _; first | (guard_target =~ SOp _ _ ⟨_, .call ⟨.value (.func 43), _, _⟩, _, _, _, none⟩ _ _ _; first | (refine n_call (f := 43) rfl Tryd.call43 (h := AEq.pure' (by first | ((repeat' (first | exact trivial | (first | exact arg_lit | exact arg_sl id id | exact arg_nil | exact arg_sl (by simp) id | exact arg_sl (by simp) (fun _ => rfl) | exact arg_row_m (by rfl) (by rfl) (fun _ => rfl) | exact arg_vw_m (by rfl) (by rfl) (fun _ => rfl) | exact arg_rn (by rfl) (by rfl) | exact arg_junk | exact arg_row_mm (by rfl) (by rfl) (fun _ => rfl)) | refine ⟨?_, ?_⟩)); done) | fail) (pget _ _ _ (by omega) _ (by omega) (by omega)) (hq := ?_)))) | (guard_target =~ SOp _ _ ⟨_, .alloc _, _, _, _, none⟩ _ _ _; first | (refine n_alloc rfl (by first | exact zv3 | exact zv4 | exact zv5 | exact zv9 | exact zv22 | exact zv25 | exact zv28 | fail) (hK := ?_)))) | (refine hK _ _ ?_; clear hK K))
      all_goals trace_state
    · have hmx : max most 0 = most := by omega
      rw [hmx] at h3
      refine acall_body Tryd.func45 rfl Tryd.ntmps45 (by simp) (fun hsc => ?_); simp only [Lf.enter, Nat.reduceAdd]; clear hsc
      have hU := @h1
      repeat' (first | (guard_target =~ PWp _ _ _ _ _ _ _; first | (refine pwp_seq_k (fun K hK => ?_)) | (refine pwp_block ?_) | (refine pwp_rg_then ?_) | (refine pwp_ret ?_) | ((refine pwp_cond_d (fun hcd => ?_) (fun hcd => ?_)) <;> (try simp only [hcP] at hcd) <;> (try (exfalso; first | omega | exact absurd hcd (by assumption) | exact absurd (by assumption) hcd)))) | (guard_target =~ rg _ _ _ _ _ _ _; first | (guard_target =~ rg _ _ _ [] _ _ _; first | (refine rg_end ?_)) | (refine rg_a rfl (h := ?_)) | (refine rg_x rfl (hy := rfl) (h := ?_)) | (refine rg_v rfl (h := ?_)) | (refine rg_s rfl ?_) | (refine rg_n rfl ?_)) | (guard_target =~ SOp _ _ _ _ _ _; first | (guard_target =~ SOp _ _ ⟨_, .build _ _, _, _, _, none⟩ _ _ _; first | (refine n_build rfl (by first | exact bd25 | fail) (hK := ?_))) | (guard_target =~ SOp _ _ ⟨_, .store _ _ _, _, _, _, none⟩ _ _ _; first | (refine n_store rfl (hK := ?_))) | (guard_target =~ SOp _ _ ⟨_, .call ⟨.value (.func 43), _, _⟩, _, _, _, none⟩ _ _ _; first | (refine n_call (f := 43) rfl Tryd.call43 (h := AEq.pure' (by first | ((repeat' (first | exact trivial | (first | exact arg_lit | exact arg_sl id id | exact arg_nil | exact arg_sl (by simp) id | exact arg_sl (by simp) (fun _ => rfl) | exact arg_row_m (by rfl) (by rfl) (fun _ => rfl) | exact arg_vw_m (by rfl) (by rfl) (fun _ => rfl) | exact arg_rn (by rfl) (by rfl) | exact arg_junk | exact arg_row_mm (by rfl) (by rfl) (fun _ => rfl)) | refine ⟨?_, ?_⟩)); done) | fail) (pget _ _ _ (by omega) _ (by omega) (by omega)) (hq := ?_)))) | (guard_target =~ SOp _ _ ⟨_, .alloc _, _, _, _, none⟩ _ _ _; first | (refine n_alloc rfl (by first | exact zv3 | exact zv4 | exact zv5 | exact zv9 | exact zv22 | exact zv25 | exact zv28 | fail) (hK := ?_))) | (guard_target =~ SOp _ _ ⟨_, .call ⟨.builtin .max, _, _⟩, _, _, _, none⟩ _ _ _; first | (refine n_max_l rfl (by (try simp (disch := omega) only [go_sem, seval, ↓reduceIte, hU]) <;> rfl) (by (try simp (disch := omega) only [go_sem, seval, ↓reduceIte, hU]) <;> rfl) (by (try simp only [List.length_map, List.length_append, List.length_cons, List.length_nil, List.length_replicate, List.length_take, List.length_drop, List.length_set]); omega) ?_))) | (guard_target =~ (_ ∨ _) ∧ _; first | ((refine end_q [] (by first | exact .inr rfl | exact .inl rfl | fail) (by rfl) (by rw [Tryd.results45]; exact Lf.resM3 (by (try simp (disch := omega) only [Lf.resOne, go_sem, seval, ↓reduceIte, hU]); rfl) (by (try simp (disch := omega) only [Lf.resOne, go_sem, seval, ↓reduceIte, hU]); rfl) (by (try simp (disch := omega) only [Lf.resOne, go_sem, seval, ↓reduceIte, hU]); rfl)) (by (try simp (disch := omega) only [go_sem, seval, ↓reduceIte, hU]) <;> rfl) (by (try simp (disch := omega) only [go_sem, seval, ↓reduceIte, hU]) <;> rfl) (ale_3 ?_ ?_ ?_) ?_) <;> (try (first | exact ale_eq (by with_reducible rfl) | exact ale_full | exact ale_sl (fun _ => rfl) | exact ale_sl (by simp) | exact ale_junk | exact ale_eq rfl | exact stq (by with_reducible rfl) | exact stq (by rfl) | exact stq (by simp (disch := omega) only [go_sem, seval, ↓reduceIte, hU]))))) | (refine hK _ _ ?_; clear hK K))
      all_goals trace_state
  · obtain ⟨x, hx⟩ := ex_at (l := b) (i := 0) (by omega)
    have hxl := x.toNat_lt
    obtain ⟨k0, hk⟩ : ∃ j : Nat, (pgG b 7).2.1 = j := ⟨(pgG b 7).2.1.toNat, by omega⟩
    obtain ⟨n0, hn⟩ : ∃ j : Nat, (pgG b 7).1 = j := ⟨(pgG b 7).1.toNat, by omega⟩
    have h30 := h3
    have h40 := h4
    rw [hn] at h3
    rw [hk, hn] at h4
    rw [hk, hn] at hbd
    have hcl : (cutB b k0 n0).length = n0 := by unfold cutB; rw [List.length_take, List.length_drop]; omega
    have hcb : List.drop k0 (List.take ((k0 : Int) + (n0 : Int)).toNat b) = cutB b k0 n0 := by unfold cutB; rw [show ((k0 : Int) + (n0 : Int)).toNat = k0 + n0 from by omega, List.drop_take, Nat.add_sub_cancel_left]
    by_cases hlo : (x.toNat : Int) < 128
    · have ha := and128_lo hlo
      rw [slG_lit h1 h30 h40 hk hn (by rw [hiB_eq hx]; simp [hlo])] at htot
      obtain ⟨rfl, rfl, rfl, rfl⟩ : t = cutB b k0 n0 ∧ s = false ∧ k = (k0 : Int) + (n0 : Int) ∧ e = 0 := by simp only [Prod.mk.injEq] at htot; exact ⟨htot.1.symm, htot.2.1.symm, htot.2.2.1.symm, htot.2.2.2.symm⟩
      by_cases hm : most ≤ 0
      · have hmx : max most 0 = 0 := by omega
        rw [hmx] at h3
        refine acall_body Tryd.func45 rfl Tryd.ntmps45 (by simp) (fun hsc => ?_); simp only [Lf.enter, Nat.reduceAdd]; clear hsc
        have hU := And.intro @h1 ( And.intro @hk ( And.intro @hn ( And.intro @ha (@hcb))))
        repeat' (first | (guard_target =~ PWp _ _ _ _ _ _ _; first | (refine pwp_seq_k (fun K hK => ?_)) | (refine pwp_block ?_) | (refine pwp_rg_then ?_) | (refine pwp_draw mixed (by kernel_rfl) ?_) | (refine pwp_ret ?_) | (refine pwp_skip ?_) | ((refine pwp_cond_d (fun hcd => ?_) (fun hcd => ?_)) <;> (try simp only [hcP] at hcd) <;> (try (exfalso; first | omega | exact absurd hcd (by assumption) | exact absurd (by assumption) hcd)))) | (guard_target =~ rg _ _ _ _ _ _ _; first | (guard_target =~ rg _ _ _ [] _ _ _; first | (refine rg_end ?_)) | (refine rg_a rfl (h := ?_)) | (refine rg_x rfl (hy := rfl) (h := ?_)) | (refine rg_v rfl (h := ?_)) | (refine rg_s rfl ?_) | (refine rg_n rfl ?_)) | (guard_target =~ SOp _ _ _ _ _ _; first | (guard_target =~ SOp _ _ ⟨_, .build _ _, _, _, _, none⟩ _ _ _; first | (refine n_build rfl (by first | exact bd25 | fail) (hK := ?_))) | (guard_target =~ SOp _ _ ⟨_, .store _ _ _, _, _, _, none⟩ _ _ _; first | (refine n_store rfl (hK := ?_))) | (guard_target =~ SOp _ _ ⟨_, .call ⟨.value (.func 43), _, _⟩, _, _, _, none⟩ _ _ _; first | (refine n_call (f := 43) rfl Tryd.call43 (h := AEq.pure' (by first | ((repeat' (first | exact trivial | (first | exact arg_lit | exact arg_sl id id | exact arg_nil | exact arg_sl (by simp) id | exact arg_sl (by simp) (fun _ => rfl) | exact arg_row_m (by rfl) (by rfl) (fun _ => rfl) | exact arg_vw_m (by rfl) (by rfl) (fun _ => rfl) | exact arg_rn (by rfl) (by rfl) | exact arg_junk | exact arg_row_mm (by rfl) (by rfl) (fun _ => rfl)) | refine ⟨?_, ?_⟩)); done) | fail) (pget _ _ _ (by omega) _ (by omega) (by omega)) (hq := ?_)))) | (guard_target =~ SOp _ _ ⟨_, .convert _ _ _, _, _, _, none⟩ _ _ _; first | (refine n_string rfl (hK := ?_))) | (guard_target =~ SOp _ _ ⟨_, .alloc _, _, _, _, none⟩ _ _ _; first | (refine n_alloc rfl (by first | exact zv3 | exact zv4 | exact zv5 | exact zv9 | exact zv22 | exact zv25 | exact zv28 | fail) (hK := ?_))) | (guard_target =~ SOp _ _ ⟨_, .call ⟨.builtin .max, _, _⟩, _, _, _, none⟩ _ _ _; first | (refine n_max_r rfl (by (try simp (disch := omega) only [go_sem, seval, ↓reduceIte, hU]) <;> rfl) (by (try simp (disch := omega) only [go_sem, seval, ↓reduceIte, hU]) <;> rfl) (by (try simp only [List.length_map, List.length_append, List.length_cons, List.length_nil, List.length_replicate, List.length_take, List.length_drop, List.length_set]); omega) ?_))) | (guard_target =~ dg _ _ _ _ _ _ _; first | (guard_target =~ dg _ _ _ (⟨_, .move _, _, _, _, none⟩ :: _) _ _ _; first | (refine dg_v rfl (hk := ?_))) | (guard_target =~ dg _ _ _ (⟨_, .assign _, _, _, _, none⟩ :: _) _ _ _; first | (refine dg_a rfl (hk := ?_))) | (guard_target =~ dg _ _ _ (⟨_, .binOp _ _ _ _ _, _, _, _, none⟩ :: _) _ _ _; first | (refine dg_v rfl (hk := ?_))) | (guard_target =~ dg _ _ _ (⟨_, .call ⟨.builtin .len, _, _⟩, _, _, _, none⟩ :: _) _ _ _; first | (refine dg_v rfl (hk := ?_))) | (guard_target =~ dg _ _ _ (⟨_, .convert _ _ _, _, _, _, none⟩ :: _) _ _ _; first | (refine dg_v rfl (hk := ?_))) | (guard_target =~ dg _ _ _ (⟨_, .indexAddr _ _ _, _, _, _, none⟩ :: _) _ _ _; first | (refine dg_c (x := _) (h := ro_s (h := n_index rfl (hK := ro_end ⟨rfl, rfl⟩))) (hk := ?_))) | (guard_target =~ dg _ _ _ (⟨_, .load _ _, _, _, _, none⟩ :: _) _ _ _; first | (refine dg_v rfl (hk := ?_))) | (guard_target =~ dg _ _ _ (⟨_, .slice _ _ _ _ _, _, _, _, none⟩ :: _) _ _ _; first | (refine dg_c (x := _) (h := ro_s (h := n_slice rfl (hg := (fun _ => (by simp only [go_sem, seval, ↓reduceIte, hU] <;> rfl))) (hK := ro_end ⟨rfl, rfl⟩))) (hk := ?_))) | (guard_target =~ dg _ _ _ [] _ _ _; first | (refine dg_nil ?_))) | (guard_target =~ (_ ∨ _) ∧ _; first | ((refine end_q [] (by first | exact .inr rfl | exact .inl rfl | fail) (by rfl) (by rw [Tryd.results45]; exact Lf.resM3 (by (try simp (disch := omega) only [Lf.resOne, go_sem, seval, ↓reduceIte, hU]); rfl) (by (try simp (disch := omega) only [Lf.resOne, go_sem, seval, ↓reduceIte, hU]); rfl) (by (try simp (disch := omega) only [Lf.resOne, go_sem, seval, ↓reduceIte, hU]); rfl)) (by (try simp (disch := omega) only [go_sem, seval, ↓reduceIte, hU]) <;> rfl) (by (try simp (disch := omega) only [go_sem, seval, ↓reduceIte, hU]) <;> rfl) (ale_3 ?_ ?_ ?_) ?_) <;> (try (first | exact ale_eq (by with_reducible rfl) | exact ale_full | exact ale_sl (fun _ => rfl) | exact ale_sl (by simp) | exact ale_junk | exact ale_eq rfl | exact stq (by with_reducible rfl) | exact stq (by rfl) | exact stq (by simp (disch := omega) only [go_sem, seval, ↓reduceIte, hU]))))) | (refine hK _ _ ?_; clear hK K))
        all_goals trace_state
      · have hmx : max most 0 = most := by omega
        rw [hmx] at h3
        refine acall_body Tryd.func45 rfl Tryd.ntmps45 (by simp) (fun hsc => ?_); simp only [Lf.enter, Nat.reduceAdd]; clear hsc
        have hU := And.intro @h1 ( And.intro @hk ( And.intro @hn ( And.intro @ha (@hcb))))
        repeat' (first | (guard_target =~ PWp _ _ _ _ _ _ _; first | (refine pwp_seq_k (fun K hK => ?_)) | (refine pwp_block ?_) | (refine pwp_rg_then ?_) | (refine pwp_draw mixed (by kernel_rfl) ?_) | (refine pwp_ret ?_) | (refine pwp_skip ?_) | ((refine pwp_cond_d (fun hcd => ?_) (fun hcd => ?_)) <;> (try simp only [hcP] at hcd) <;> (try (exfalso; first | omega | exact absurd hcd (by assumption) | exact absurd (by assumption) hcd)))) | (guard_target =~ rg _ _ _ _ _ _ _; first | (guard_target =~ rg _ _ _ [] _ _ _; first | (refine rg_end ?_)) | (refine rg_a rfl (h := ?_)) | (refine rg_x rfl (hy := rfl) (h := ?_)) | (refine rg_v rfl (h := ?_)) | (refine rg_s rfl ?_) | (refine rg_n rfl ?_)) | (guard_target =~ SOp _ _ _ _ _ _; first | (guard_target =~ SOp _ _ ⟨_, .build _ _, _, _, _, none⟩ _ _ _; first | (refine n_build rfl (by first | exact bd25 | fail) (hK := ?_))) | (guard_target =~ SOp _ _ ⟨_, .store _ _ _, _, _, _, none⟩ _ _ _; first | (refine n_store rfl (hK := ?_))) | (guard_target =~ SOp _ _ ⟨_, .call ⟨.value (.func 43), _, _⟩, _, _, _, none⟩ _ _ _; first | (refine n_call (f := 43) rfl Tryd.call43 (h := AEq.pure' (by first | ((repeat' (first | exact trivial | (first | exact arg_lit | exact arg_sl id id | exact arg_nil | exact arg_sl (by simp) id | exact arg_sl (by simp) (fun _ => rfl) | exact arg_row_m (by rfl) (by rfl) (fun _ => rfl) | exact arg_vw_m (by rfl) (by rfl) (fun _ => rfl) | exact arg_rn (by rfl) (by rfl) | exact arg_junk | exact arg_row_mm (by rfl) (by rfl) (fun _ => rfl)) | refine ⟨?_, ?_⟩)); done) | fail) (pget _ _ _ (by omega) _ (by omega) (by omega)) (hq := ?_)))) | (guard_target =~ SOp _ _ ⟨_, .convert _ _ _, _, _, _, none⟩ _ _ _; first | (refine n_string rfl (hK := ?_))) | (guard_target =~ SOp _ _ ⟨_, .alloc _, _, _, _, none⟩ _ _ _; first | (refine n_alloc rfl (by first | exact zv3 | exact zv4 | exact zv5 | exact zv9 | exact zv22 | exact zv25 | exact zv28 | fail) (hK := ?_))) | (guard_target =~ SOp _ _ ⟨_, .call ⟨.builtin .max, _, _⟩, _, _, _, none⟩ _ _ _; first | (refine n_max_l rfl (by (try simp (disch := omega) only [go_sem, seval, ↓reduceIte, hU]) <;> rfl) (by (try simp (disch := omega) only [go_sem, seval, ↓reduceIte, hU]) <;> rfl) (by (try simp only [List.length_map, List.length_append, List.length_cons, List.length_nil, List.length_replicate, List.length_take, List.length_drop, List.length_set]); omega) ?_))) | (guard_target =~ dg _ _ _ _ _ _ _; first | (guard_target =~ dg _ _ _ (⟨_, .move _, _, _, _, none⟩ :: _) _ _ _; first | (refine dg_v rfl (hk := ?_))) | (guard_target =~ dg _ _ _ (⟨_, .assign _, _, _, _, none⟩ :: _) _ _ _; first | (refine dg_a rfl (hk := ?_))) | (guard_target =~ dg _ _ _ (⟨_, .binOp _ _ _ _ _, _, _, _, none⟩ :: _) _ _ _; first | (refine dg_v rfl (hk := ?_))) | (guard_target =~ dg _ _ _ (⟨_, .call ⟨.builtin .len, _, _⟩, _, _, _, none⟩ :: _) _ _ _; first | (refine dg_v rfl (hk := ?_))) | (guard_target =~ dg _ _ _ (⟨_, .convert _ _ _, _, _, _, none⟩ :: _) _ _ _; first | (refine dg_v rfl (hk := ?_))) | (guard_target =~ dg _ _ _ (⟨_, .indexAddr _ _ _, _, _, _, none⟩ :: _) _ _ _; first | (refine dg_c (x := _) (h := ro_s (h := n_index rfl (hK := ro_end ⟨rfl, rfl⟩))) (hk := ?_))) | (guard_target =~ dg _ _ _ (⟨_, .load _ _, _, _, _, none⟩ :: _) _ _ _; first | (refine dg_v rfl (hk := ?_))) | (guard_target =~ dg _ _ _ (⟨_, .slice _ _ _ _ _, _, _, _, none⟩ :: _) _ _ _; first | (refine dg_c (x := _) (h := ro_s (h := n_slice rfl (hg := (fun _ => (by simp only [go_sem, seval, ↓reduceIte, hU] <;> rfl))) (hK := ro_end ⟨rfl, rfl⟩))) (hk := ?_))) | (guard_target =~ dg _ _ _ [] _ _ _; first | (refine dg_nil ?_))) | (guard_target =~ (_ ∨ _) ∧ _; first | ((refine end_q [] (by first | exact .inr rfl | exact .inl rfl | fail) (by rfl) (by rw [Tryd.results45]; exact Lf.resM3 (by (try simp (disch := omega) only [Lf.resOne, go_sem, seval, ↓reduceIte, hU]); rfl) (by (try simp (disch := omega) only [Lf.resOne, go_sem, seval, ↓reduceIte, hU]); rfl) (by (try simp (disch := omega) only [Lf.resOne, go_sem, seval, ↓reduceIte, hU]); rfl)) (by (try simp (disch := omega) only [go_sem, seval, ↓reduceIte, hU]) <;> rfl) (by (try simp (disch := omega) only [go_sem, seval, ↓reduceIte, hU]) <;> rfl) (ale_3 ?_ ?_ ?_) ?_) <;> (try (first | exact ale_eq (by with_reducible rfl) | exact ale_full | exact ale_sl (fun _ => rfl) | exact ale_sl (by simp) | exact ale_junk | exact ale_eq rfl | exact stq (by with_reducible rfl) | exact stq (by rfl) | exact stq (by simp (disch := omega) only [go_sem, seval, ↓reduceIte, hU]))))) | (refine hK _ _ ?_; clear hK K))
        all_goals trace_state
    · have ha := and128_hi hlo
      have hhi : hiB b = true := by rw [hiB_eq hx]; simp [hlo]
      by_cases h5 : (huM (bitsL (cutB b k0 n0)) 0 0 []).2 = 0
      · rw [slG_cod h1 h30 h40 hk hn hhi h5] at htot
        obtain ⟨rfl, rfl, rfl, rfl⟩ : t = (huM (bitsL (cutB b k0 n0)) 0 0 []).1 ∧ s = true ∧ k = (k0 : Int) + (n0 : Int) ∧ e = 0 := by simp only [Prod.mk.injEq] at htot; exact ⟨htot.1.symm, htot.2.1.symm, htot.2.2.1.symm, htot.2.2.2.symm⟩
        by_cases hm : most ≤ 0
        · have hmx : max most 0 = 0 := by omega
          rw [hmx] at h3
          refine acall_body Tryd.func45 rfl Tryd.ntmps45 (by simp) (fun hsc => ?_); simp only [Lf.enter, Nat.reduceAdd]; clear hsc
          have hU := And.intro @h1 ( And.intro @hk ( And.intro @hn ( And.intro @ha ( And.intro @hcb (@h5)))))
          repeat' (first | (guard_target =~ PWp _ _ _ _ _ _ _; first | (refine pwp_seq_k (fun K hK => ?_)) | (refine pwp_block ?_) | (refine pwp_rg_then ?_) | (refine pwp_draw mixed (by kernel_rfl) ?_) | (refine pwp_ret ?_) | (refine pwp_skip ?_) | ((refine pwp_cond_d (fun hcd => ?_) (fun hcd => ?_)) <;> (try simp only [hcP] at hcd) <;> (try (exfalso; first | omega | exact absurd hcd (by assumption) | exact absurd (by assumption) hcd)))) | (guard_target =~ rg _ _ _ _ _ _ _; first | (guard_target =~ rg _ _ _ [] _ _ _; first | (refine rg_end ?_)) | (refine rg_a rfl (h := ?_)) | (refine rg_x rfl (hy := rfl) (h := ?_)) | (refine rg_v rfl (h := ?_)) | (refine rg_s rfl ?_) | (refine rg_n rfl ?_)) | (guard_target =~ SOp _ _ _ _ _ _; first | (guard_target =~ SOp _ _ ⟨_, .build _ _, _, _, _, none⟩ _ _ _; first | (refine n_build rfl (by first | exact bd25 | fail) (hK := ?_))) | (guard_target =~ SOp _ _ ⟨_, .store _ _ _, _, _, _, none⟩ _ _ _; first | (refine n_store rfl (hK := ?_))) | (guard_target =~ SOp _ _ ⟨_, .call ⟨.value (.func 43), _, _⟩, _, _, _, none⟩ _ _ _; first | (refine n_call (f := 43) rfl Tryd.call43 (h := AEq.pure' (by first | ((repeat' (first | exact trivial | (first | exact arg_lit | exact arg_sl id id | exact arg_nil | exact arg_sl (by simp) id | exact arg_sl (by simp) (fun _ => rfl) | exact arg_row_m (by rfl) (by rfl) (fun _ => rfl) | exact arg_vw_m (by rfl) (by rfl) (fun _ => rfl) | exact arg_rn (by rfl) (by rfl) | exact arg_junk | exact arg_row_mm (by rfl) (by rfl) (fun _ => rfl)) | refine ⟨?_, ?_⟩)); done) | fail) (pget _ _ _ (by omega) _ (by omega) (by omega)) (hq := ?_)))) | (guard_target =~ SOp _ _ ⟨_, .call ⟨.value (.func 74), _, _⟩, _, _, _, none⟩ _ _ _; first | (refine n_call (f := 74) rfl Tryd.call74 (h := AEq.pure' (by first | ((repeat' (first | exact trivial | (first | exact arg_lit | exact arg_sl id id | exact arg_nil | exact arg_sl (by simp) id | exact arg_sl (by simp) (fun _ => rfl) | exact arg_row_m (by rfl) (by rfl) (fun _ => rfl) | exact arg_vw_m (by rfl) (by rfl) (fun _ => rfl) | exact arg_rn (by rfl) (by rfl) | exact arg_junk | exact arg_row_mm (by rfl) (by rfl) (fun _ => rfl)) | refine ⟨?_, ?_⟩)); done) | fail) (hdecode _ _ _ (by omega)) (hq := ?_)))) | (guard_target =~ SOp _ _ ⟨_, .convert _ _ _, _, _, _, none⟩ _ _ _; first | (refine n_string rfl (hK := ?_))) | (guard_target =~ SOp _ _ ⟨_, .alloc _, _, _, _, none⟩ _ _ _; first | (refine n_alloc rfl (by first | exact zv3 | exact zv4 | exact zv5 | exact zv9 | exact zv22 | exact zv25 | exact zv28 | fail) (hK := ?_))) | (guard_target =~ SOp _ _ ⟨_, .call ⟨.builtin .max, _, _⟩, _, _, _, none⟩ _ _ _; first | (refine n_max_r rfl (by (try simp (disch := omega) only [go_sem, seval, ↓reduceIte, hU]) <;> rfl) (by (try simp (disch := omega) only [go_sem, seval, ↓reduceIte, hU]) <;> rfl) (by (try simp only [List.length_map, List.length_append, List.length_cons, List.length_nil, List.length_replicate, List.length_take, List.length_drop, List.length_set]); omega) ?_))) | (guard_target =~ dg _ _ _ _ _ _ _; first | (guard_target =~ dg _ _ _ (⟨_, .move _, _, _, _, none⟩ :: _) _ _ _; first | (refine dg_v rfl (hk := ?_))) | (guard_target =~ dg _ _ _ (⟨_, .assign _, _, _, _, none⟩ :: _) _ _ _; first | (refine dg_a rfl (hk := ?_))) | (guard_target =~ dg _ _ _ (⟨_, .binOp _ _ _ _ _, _, _, _, none⟩ :: _) _ _ _; first | (refine dg_v rfl (hk := ?_))) | (guard_target =~ dg _ _ _ (⟨_, .call ⟨.builtin .len, _, _⟩, _, _, _, none⟩ :: _) _ _ _; first | (refine dg_v rfl (hk := ?_))) | (guard_target =~ dg _ _ _ (⟨_, .convert _ _ _, _, _, _, none⟩ :: _) _ _ _; first | (refine dg_v rfl (hk := ?_))) | (guard_target =~ dg _ _ _ (⟨_, .indexAddr _ _ _, _, _, _, none⟩ :: _) _ _ _; first | (refine dg_c (x := _) (h := ro_s (h := n_index rfl (hK := ro_end ⟨rfl, rfl⟩))) (hk := ?_))) | (guard_target =~ dg _ _ _ (⟨_, .load _ _, _, _, _, none⟩ :: _) _ _ _; first | (refine dg_v rfl (hk := ?_))) | (guard_target =~ dg _ _ _ (⟨_, .slice _ _ _ _ _, _, _, _, none⟩ :: _) _ _ _; first | (refine dg_c (x := _) (h := ro_s (h := n_slice rfl (hg := (fun _ => (by simp only [go_sem, seval, ↓reduceIte, hU] <;> rfl))) (hK := ro_end ⟨rfl, rfl⟩))) (hk := ?_))) | (guard_target =~ dg _ _ _ [] _ _ _; first | (refine dg_nil ?_))) | (guard_target =~ (_ ∨ _) ∧ _; first | ((refine end_q [] (by first | exact .inr rfl | exact .inl rfl | fail) (by rfl) (by rw [Tryd.results45]; exact Lf.resM3 (by (try simp (disch := omega) only [Lf.resOne, go_sem, seval, ↓reduceIte, hU]); rfl) (by (try simp (disch := omega) only [Lf.resOne, go_sem, seval, ↓reduceIte, hU]); rfl) (by (try simp (disch := omega) only [Lf.resOne, go_sem, seval, ↓reduceIte, hU]); rfl)) (by (try simp (disch := omega) only [go_sem, seval, ↓reduceIte, hU]) <;> rfl) (by (try simp (disch := omega) only [go_sem, seval, ↓reduceIte, hU]) <;> rfl) (ale_3 ?_ ?_ ?_) ?_) <;> (try (first | exact ale_eq (by with_reducible rfl) | exact ale_full | exact ale_sl (fun _ => rfl) | exact ale_sl (by simp) | exact ale_junk | exact ale_eq rfl | exact stq (by with_reducible rfl) | exact stq (by rfl) | exact stq (by simp (disch := omega) only [go_sem, seval, ↓reduceIte, hU]))))) | (refine hK _ _ ?_; clear hK K))
          all_goals trace_state
        · have hmx : max most 0 = most := by omega
          rw [hmx] at h3
          refine acall_body Tryd.func45 rfl Tryd.ntmps45 (by simp) (fun hsc => ?_); simp only [Lf.enter, Nat.reduceAdd]; clear hsc
          have hU := And.intro @h1 ( And.intro @hk ( And.intro @hn ( And.intro @ha ( And.intro @hcb (@h5)))))
          repeat' (first | (guard_target =~ PWp _ _ _ _ _ _ _; first | (refine pwp_seq_k (fun K hK => ?_)) | (refine pwp_block ?_) | (refine pwp_rg_then ?_) | (refine pwp_draw mixed (by kernel_rfl) ?_) | (refine pwp_ret ?_) | (refine pwp_skip ?_) | ((refine pwp_cond_d (fun hcd => ?_) (fun hcd => ?_)) <;> (try simp only [hcP] at hcd) <;> (try (exfalso; first | omega | exact absurd hcd (by assumption) | exact absurd (by assumption) hcd)))) | (guard_target =~ rg _ _ _ _ _ _ _; first | (guard_target =~ rg _ _ _ [] _ _ _; first | (refine rg_end ?_)) | (refine rg_a rfl (h := ?_)) | (refine rg_x rfl (hy := rfl) (h := ?_)) | (refine rg_v rfl (h := ?_)) | (refine rg_s rfl ?_) | (refine rg_n rfl ?_)) | (guard_target =~ SOp _ _ _ _ _ _; first | (guard_target =~ SOp _ _ ⟨_, .build _ _, _, _, _, none⟩ _ _ _; first | (refine n_build rfl (by first | exact bd25 | fail) (hK := ?_))) | (guard_target =~ SOp _ _ ⟨_, .store _ _ _, _, _, _, none⟩ _ _ _; first | (refine n_store rfl (hK := ?_))) | (guard_target =~ SOp _ _ ⟨_, .call ⟨.value (.func 43), _, _⟩, _, _, _, none⟩ _ _ _; first | (refine n_call (f := 43) rfl Tryd.call43 (h := AEq.pure' (by first | ((repeat' (first | exact trivial | (first | exact arg_lit | exact arg_sl id id | exact arg_nil | exact arg_sl (by simp) id | exact arg_sl (by simp) (fun _ => rfl) | exact arg_row_m (by rfl) (by rfl) (fun _ => rfl) | exact arg_vw_m (by rfl) (by rfl) (fun _ => rfl) | exact arg_rn (by rfl) (by rfl) | exact arg_junk | exact arg_row_mm (by rfl) (by rfl) (fun _ => rfl)) | refine ⟨?_, ?_⟩)); done) | fail) (pget _ _ _ (by omega) _ (by omega) (by omega)) (hq := ?_)))) | (guard_target =~ SOp _ _ ⟨_, .call ⟨.value (.func 74), _, _⟩, _, _, _, none⟩ _ _ _; first | (refine n_call (f := 74) rfl Tryd.call74 (h := AEq.pure' (by first | ((repeat' (first | exact trivial | (first | exact arg_lit | exact arg_sl id id | exact arg_nil | exact arg_sl (by simp) id | exact arg_sl (by simp) (fun _ => rfl) | exact arg_row_m (by rfl) (by rfl) (fun _ => rfl) | exact arg_vw_m (by rfl) (by rfl) (fun _ => rfl) | exact arg_rn (by rfl) (by rfl) | exact arg_junk | exact arg_row_mm (by rfl) (by rfl) (fun _ => rfl)) | refine ⟨?_, ?_⟩)); done) | fail) (hdecode _ _ _ (by omega)) (hq := ?_)))) | (guard_target =~ SOp _ _ ⟨_, .convert _ _ _, _, _, _, none⟩ _ _ _; first | (refine n_string rfl (hK := ?_))) | (guard_target =~ SOp _ _ ⟨_, .alloc _, _, _, _, none⟩ _ _ _; first | (refine n_alloc rfl (by first | exact zv3 | exact zv4 | exact zv5 | exact zv9 | exact zv22 | exact zv25 | exact zv28 | fail) (hK := ?_))) | (guard_target =~ SOp _ _ ⟨_, .call ⟨.builtin .max, _, _⟩, _, _, _, none⟩ _ _ _; first | (refine n_max_l rfl (by (try simp (disch := omega) only [go_sem, seval, ↓reduceIte, hU]) <;> rfl) (by (try simp (disch := omega) only [go_sem, seval, ↓reduceIte, hU]) <;> rfl) (by (try simp only [List.length_map, List.length_append, List.length_cons, List.length_nil, List.length_replicate, List.length_take, List.length_drop, List.length_set]); omega) ?_))) | (guard_target =~ dg _ _ _ _ _ _ _; first | (guard_target =~ dg _ _ _ (⟨_, .move _, _, _, _, none⟩ :: _) _ _ _; first | (refine dg_v rfl (hk := ?_))) | (guard_target =~ dg _ _ _ (⟨_, .assign _, _, _, _, none⟩ :: _) _ _ _; first | (refine dg_a rfl (hk := ?_))) | (guard_target =~ dg _ _ _ (⟨_, .binOp _ _ _ _ _, _, _, _, none⟩ :: _) _ _ _; first | (refine dg_v rfl (hk := ?_))) | (guard_target =~ dg _ _ _ (⟨_, .call ⟨.builtin .len, _, _⟩, _, _, _, none⟩ :: _) _ _ _; first | (refine dg_v rfl (hk := ?_))) | (guard_target =~ dg _ _ _ (⟨_, .convert _ _ _, _, _, _, none⟩ :: _) _ _ _; first | (refine dg_v rfl (hk := ?_))) | (guard_target =~ dg _ _ _ (⟨_, .indexAddr _ _ _, _, _, _, none⟩ :: _) _ _ _; first | (refine dg_c (x := _) (h := ro_s (h := n_index rfl (hK := ro_end ⟨rfl, rfl⟩))) (hk := ?_))) | (guard_target =~ dg _ _ _ (⟨_, .load _ _, _, _, _, none⟩ :: _) _ _ _; first | (refine dg_v rfl (hk := ?_))) | (guard_target =~ dg _ _ _ (⟨_, .slice _ _ _ _ _, _, _, _, none⟩ :: _) _ _ _; first | (refine dg_c (x := _) (h := ro_s (h := n_slice rfl (hg := (fun _ => (by simp only [go_sem, seval, ↓reduceIte, hU] <;> rfl))) (hK := ro_end ⟨rfl, rfl⟩))) (hk := ?_))) | (guard_target =~ dg _ _ _ [] _ _ _; first | (refine dg_nil ?_))) | (guard_target =~ (_ ∨ _) ∧ _; first | ((refine end_q [] (by first | exact .inr rfl | exact .inl rfl | fail) (by rfl) (by rw [Tryd.results45]; exact Lf.resM3 (by (try simp (disch := omega) only [Lf.resOne, go_sem, seval, ↓reduceIte, hU]); rfl) (by (try simp (disch := omega) only [Lf.resOne, go_sem, seval, ↓reduceIte, hU]); rfl) (by (try simp (disch := omega) only [Lf.resOne, go_sem, seval, ↓reduceIte, hU]); rfl)) (by (try simp (disch := omega) only [go_sem, seval, ↓reduceIte, hU]) <;> rfl) (by (try simp (disch := omega) only [go_sem, seval, ↓reduceIte, hU]) <;> rfl) (ale_3 ?_ ?_ ?_) ?_) <;> (try (first | exact ale_eq (by with_reducible rfl) | exact ale_full | exact ale_sl (fun _ => rfl) | exact ale_sl (by simp) | exact ale_junk | exact ale_eq rfl | exact stq (by with_reducible rfl) | exact stq (by rfl) | exact stq (by simp (disch := omega) only [go_sem, seval, ↓reduceIte, hU]))))) | (refine hK _ _ ?_; clear hK K))
          all_goals trace_state
      · rw [slG_bad h1 h30 h40 hk hn hhi h5] at htot
        obtain ⟨rfl, rfl, rfl, rfl⟩ : t = [] ∧ s = false ∧ k = 0 ∧ e = (huM (bitsL (cutB b k0 n0)) 0 0 []).2 := by simp only [Prod.mk.injEq] at htot; exact ⟨htot.1.symm, htot.2.1.symm, htot.2.2.1.symm, htot.2.2.2.symm⟩
        by_cases hm : most ≤ 0
        · have hmx : max most 0 = 0 := by omega
          rw [hmx] at h3
          refine acall_body Tryd.func45 rfl Tryd.ntmps45 (by simp) (fun hsc => ?_); simp only [Lf.enter, Nat.reduceAdd]; clear hsc
          have hU := And.intro @h1 ( And.intro @hk ( And.intro @hn ( And.intro @ha (@hcb))))
          repeat' (first | (guard_target =~ PWp _ _ _ _ _ _ _; first | (refine pwp_seq_k (fun K hK => ?_)) | (refine pwp_block ?_) | (refine pwp_rg_then ?_) | (refine pwp_draw mixed (by kernel_rfl) ?_) | (refine pwp_ret ?_) | (refine pwp_skip ?_) | ((refine pwp_cond_d (fun hcd => ?_) (fun hcd => ?_)) <;> (try simp only [hcP] at hcd) <;> (try (exfalso; first | omega | exact absurd hcd (by assumption) | exact absurd (by assumption) hcd)))) | (guard_target =~ rg _ _ _ _ _ _ _; first | (guard_target =~ rg _ _ _ [] _ _ _; first | (refine rg_end ?_)) | (refine rg_a rfl (h := ?_)) | (refine rg_x rfl (hy := rfl) (h := ?_)) | (refine rg_v rfl (h := ?_)) | (refine rg_s rfl ?_) | (refine rg_n rfl ?_)) | (guard_target =~ SOp _ _ _ _ _ _; first | (guard_target =~ SOp _ _ ⟨_, .build _ _, _, _, _, none⟩ _ _ _; first | (refine n_build rfl (by first | exact bd25 | fail) (hK := ?_))) | (guard_target =~ SOp _ _ ⟨_, .store _ _ _, _, _, _, none⟩ _ _ _; first | (refine n_store rfl (hK := ?_))) | (guard_target =~ SOp _ _ ⟨_, .call ⟨.value (.func 43), _, _⟩, _, _, _, none⟩ _ _ _; first | (refine n_call (f := 43) rfl Tryd.call43 (h := AEq.pure' (by first | ((repeat' (first | exact trivial | (first | exact arg_lit | exact arg_sl id id | exact arg_nil | exact arg_sl (by simp) id | exact arg_sl (by simp) (fun _ => rfl) | exact arg_row_m (by rfl) (by rfl) (fun _ => rfl) | exact arg_vw_m (by rfl) (by rfl) (fun _ => rfl) | exact arg_rn (by rfl) (by rfl) | exact arg_junk | exact arg_row_mm (by rfl) (by rfl) (fun _ => rfl)) | refine ⟨?_, ?_⟩)); done) | fail) (pget _ _ _ (by omega) _ (by omega) (by omega)) (hq := ?_)))) | (guard_target =~ SOp _ _ ⟨_, .call ⟨.value (.func 74), _, _⟩, _, _, _, none⟩ _ _ _; first | (refine n_call (f := 74) rfl Tryd.call74 (h := AEq.pure' (by first | ((repeat' (first | exact trivial | (first | exact arg_lit | exact arg_sl id id | exact arg_nil | exact arg_sl (by simp) id | exact arg_sl (by simp) (fun _ => rfl) | exact arg_row_m (by rfl) (by rfl) (fun _ => rfl) | exact arg_vw_m (by rfl) (by rfl) (fun _ => rfl) | exact arg_rn (by rfl) (by rfl) | exact arg_junk | exact arg_row_mm (by rfl) (by rfl) (fun _ => rfl)) | refine ⟨?_, ?_⟩)); done) | fail) (hdecode _ _ _ (by omega)) (hq := ?_)))) | (guard_target =~ SOp _ _ ⟨_, .alloc _, _, _, _, none⟩ _ _ _; first | (refine n_alloc rfl (by first | exact zv3 | exact zv4 | exact zv5 | exact zv9 | exact zv22 | exact zv25 | exact zv28 | fail) (hK := ?_))) | (guard_target =~ SOp _ _ ⟨_, .call ⟨.builtin .max, _, _⟩, _, _, _, none⟩ _ _ _; first | (refine n_max_r rfl (by (try simp (disch := omega) only [go_sem, seval, ↓reduceIte, hU]) <;> rfl) (by (try simp (disch := omega) only [go_sem, seval, ↓reduceIte, hU]) <;> rfl) (by (try simp only [List.length_map, List.length_append, List.length_cons, List.length_nil, List.length_replicate, List.length_take, List.length_drop, List.length_set]); omega) ?_))) | (guard_target =~ dg _ _ _ _ _ _ _; first | (guard_target =~ dg _ _ _ (⟨_, .move _, _, _, _, none⟩ :: _) _ _ _; first | (refine dg_v rfl (hk := ?_))) | (guard_target =~ dg _ _ _ (⟨_, .assign _, _, _, _, none⟩ :: _) _ _ _; first | (refine dg_a rfl (hk := ?_))) | (guard_target =~ dg _ _ _ (⟨_, .binOp _ _ _ _ _, _, _, _, none⟩ :: _) _ _ _; first | (refine dg_v rfl (hk := ?_))) | (guard_target =~ dg _ _ _ (⟨_, .call ⟨.builtin .len, _, _⟩, _, _, _, none⟩ :: _) _ _ _; first | (refine dg_v rfl (hk := ?_))) | (guard_target =~ dg _ _ _ (⟨_, .convert _ _ _, _, _, _, none⟩ :: _) _ _ _; first | (refine dg_v rfl (hk := ?_))) | (guard_target =~ dg _ _ _ (⟨_, .indexAddr _ _ _, _, _, _, none⟩ :: _) _ _ _; first | (refine dg_c (x := _) (h := ro_s (h := n_index rfl (hK := ro_end ⟨rfl, rfl⟩))) (hk := ?_))) | (guard_target =~ dg _ _ _ (⟨_, .load _ _, _, _, _, none⟩ :: _) _ _ _; first | (refine dg_v rfl (hk := ?_))) | (guard_target =~ dg _ _ _ (⟨_, .slice _ _ _ _ _, _, _, _, none⟩ :: _) _ _ _; first | (refine dg_c (x := _) (h := ro_s (h := n_slice rfl (hg := (fun _ => (by simp only [go_sem, seval, ↓reduceIte, hU] <;> rfl))) (hK := ro_end ⟨rfl, rfl⟩))) (hk := ?_))) | (guard_target =~ dg _ _ _ [] _ _ _; first | (refine dg_nil ?_))) | (guard_target =~ (_ ∨ _) ∧ _; first | ((refine end_q [] (by first | exact .inr rfl | exact .inl rfl | fail) (by rfl) (by rw [Tryd.results45]; exact Lf.resM3 (by (try simp (disch := omega) only [Lf.resOne, go_sem, seval, ↓reduceIte, hU]); rfl) (by (try simp (disch := omega) only [Lf.resOne, go_sem, seval, ↓reduceIte, hU]); rfl) (by (try simp (disch := omega) only [Lf.resOne, go_sem, seval, ↓reduceIte, hU]); rfl)) (by (try simp (disch := omega) only [go_sem, seval, ↓reduceIte, hU]) <;> rfl) (by (try simp (disch := omega) only [go_sem, seval, ↓reduceIte, hU]) <;> rfl) (ale_3 ?_ ?_ ?_) ?_) <;> (try (first | exact ale_eq (by with_reducible rfl) | exact ale_full | exact ale_sl (fun _ => rfl) | exact ale_sl (by simp) | exact ale_junk | exact ale_eq rfl | exact stq (by with_reducible rfl) | exact stq (by rfl) | exact stq (by simp (disch := omega) only [go_sem, seval, ↓reduceIte, hU]))))) | (refine hK _ _ ?_; clear hK K))
          all_goals trace_state
        · have hmx : max most 0 = most := by omega
          rw [hmx] at h3
          refine acall_body Tryd.func45 rfl Tryd.ntmps45 (by simp) (fun hsc => ?_); simp only [Lf.enter, Nat.reduceAdd]; clear hsc
          have hU := And.intro @h1 ( And.intro @hk ( And.intro @hn ( And.intro @ha (@hcb))))
          repeat' (first | (guard_target =~ PWp _ _ _ _ _ _ _; first | (refine pwp_seq_k (fun K hK => ?_)) | (refine pwp_block ?_) | (refine pwp_rg_then ?_) | (refine pwp_draw mixed (by kernel_rfl) ?_) | (refine pwp_ret ?_) | (refine pwp_skip ?_) | ((refine pwp_cond_d (fun hcd => ?_) (fun hcd => ?_)) <;> (try simp only [hcP] at hcd) <;> (try (exfalso; first | omega | exact absurd hcd (by assumption) | exact absurd (by assumption) hcd)))) | (guard_target =~ rg _ _ _ _ _ _ _; first | (guard_target =~ rg _ _ _ [] _ _ _; first | (refine rg_end ?_)) | (refine rg_a rfl (h := ?_)) | (refine rg_x rfl (hy := rfl) (h := ?_)) | (refine rg_v rfl (h := ?_)) | (refine rg_s rfl ?_) | (refine rg_n rfl ?_)) | (guard_target =~ SOp _ _ _ _ _ _; first | (guard_target =~ SOp _ _ ⟨_, .build _ _, _, _, _, none⟩ _ _ _; first | (refine n_build rfl (by first | exact bd25 | fail) (hK := ?_))) | (guard_target =~ SOp _ _ ⟨_, .store _ _ _, _, _, _, none⟩ _ _ _; first | (refine n_store rfl (hK := ?_))) | (guard_target =~ SOp _ _ ⟨_, .call ⟨.value (.func 43), _, _⟩, _, _, _, none⟩ _ _ _; first | (refine n_call (f := 43) rfl Tryd.call43 (h := AEq.pure' (by first | ((repeat' (first | exact trivial | (first | exact arg_lit | exact arg_sl id id | exact arg_nil | exact arg_sl (by simp) id | exact arg_sl (by simp) (fun _ => rfl) | exact arg_row_m (by rfl) (by rfl) (fun _ => rfl) | exact arg_vw_m (by rfl) (by rfl) (fun _ => rfl) | exact arg_rn (by rfl) (by rfl) | exact arg_junk | exact arg_row_mm (by rfl) (by rfl) (fun _ => rfl)) | refine ⟨?_, ?_⟩)); done) | fail) (pget _ _ _ (by omega) _ (by omega) (by omega)) (hq := ?_)))) | (guard_target =~ SOp _ _ ⟨_, .call ⟨.value (.func 74), _, _⟩, _, _, _, none⟩ _ _ _; first | (refine n_call (f := 74) rfl Tryd.call74 (h := AEq.pure' (by first | ((repeat' (first | exact trivial | (first | exact arg_lit | exact arg_sl id id | exact arg_nil | exact arg_sl (by simp) id | exact arg_sl (by simp) (fun _ => rfl) | exact arg_row_m (by rfl) (by rfl) (fun _ => rfl) | exact arg_vw_m (by rfl) (by rfl) (fun _ => rfl) | exact arg_rn (by rfl) (by rfl) | exact arg_junk | exact arg_row_mm (by rfl) (by rfl) (fun _ => rfl)) | refine ⟨?_, ?_⟩)); done) | fail) (hdecode _ _ _ (by omega)) (hq := ?_)))) | (guard_target =~ SOp _ _ ⟨_, .alloc _, _, _, _, none⟩ _ _ _; first | (refine n_alloc rfl (by first | exact zv3 | exact zv4 | exact zv5 | exact zv9 | exact zv22 | exact zv25 | exact zv28 | fail) (hK := ?_))) | (guard_target =~ SOp _ _ ⟨_, .call ⟨.builtin .max, _, _⟩, _, _, _, none⟩ _ _ _; first | (refine n_max_l rfl (by (try simp (disch := omega) only [go_sem, seval, ↓reduceIte, hU]) <;> rfl) (by (try simp (disch := omega) only [go_sem, seval, ↓reduceIte, hU]) <;> rfl) (by (try simp only [List.length_map, List.length_append, List.length_cons, List.length_nil, List.length_replicate, List.length_take, List.length_drop, List.length_set]); omega) ?_))) | (guard_target =~ dg _ _ _ _ _ _ _; first | (guard_target =~ dg _ _ _ (⟨_, .move _, _, _, _, none⟩ :: _) _ _ _; first | (refine dg_v rfl (hk := ?_))) | (guard_target =~ dg _ _ _ (⟨_, .assign _, _, _, _, none⟩ :: _) _ _ _; first | (refine dg_a rfl (hk := ?_))) | (guard_target =~ dg _ _ _ (⟨_, .binOp _ _ _ _ _, _, _, _, none⟩ :: _) _ _ _; first | (refine dg_v rfl (hk := ?_))) | (guard_target =~ dg _ _ _ (⟨_, .call ⟨.builtin .len, _, _⟩, _, _, _, none⟩ :: _) _ _ _; first | (refine dg_v rfl (hk := ?_))) | (guard_target =~ dg _ _ _ (⟨_, .convert _ _ _, _, _, _, none⟩ :: _) _ _ _; first | (refine dg_v rfl (hk := ?_))) | (guard_target =~ dg _ _ _ (⟨_, .indexAddr _ _ _, _, _, _, none⟩ :: _) _ _ _; first | (refine dg_c (x := _) (h := ro_s (h := n_index rfl (hK := ro_end ⟨rfl, rfl⟩))) (hk := ?_))) | (guard_target =~ dg _ _ _ (⟨_, .load _ _, _, _, _, none⟩ :: _) _ _ _; first | (refine dg_v rfl (hk := ?_))) | (guard_target =~ dg _ _ _ (⟨_, .slice _ _ _ _ _, _, _, _, none⟩ :: _) _ _ _; first | (refine dg_c (x := _) (h := ro_s (h := n_slice rfl (hg := (fun _ => (by simp only [go_sem, seval, ↓reduceIte, hU] <;> rfl))) (hK := ro_end ⟨rfl, rfl⟩))) (hk := ?_))) | (guard_target =~ dg _ _ _ [] _ _ _; first | (refine dg_nil ?_))) | (guard_target =~ (_ ∨ _) ∧ _; first | ((refine end_q [] (by first | exact .inr rfl | exact .inl rfl | fail) (by rfl) (by rw [Tryd.results45]; exact Lf.resM3 (by (try simp (disch := omega) only [Lf.resOne, go_sem, seval, ↓reduceIte, hU]); rfl) (by (try simp (disch := omega) only [Lf.resOne, go_sem, seval, ↓reduceIte, hU]); rfl) (by (try simp (disch := omega) only [Lf.resOne, go_sem, seval, ↓reduceIte, hU]); rfl)) (by (try simp (disch := omega) only [go_sem, seval, ↓reduceIte, hU]) <;> rfl) (by (try simp (disch := omega) only [go_sem, seval, ↓reduceIte, hU]) <;> rfl) (ale_3 ?_ ?_ ?_) ?_) <;> (try (first | exact ale_eq (by with_reducible rfl) | exact ale_full | exact ale_sl (fun _ => rfl) | exact ale_sl (by simp) | exact ale_junk | exact ale_eq rfl | exact stq (by with_reducible rfl) | exact stq (by rfl) | exact stq (by simp (disch := omega) only [go_sem, seval, ↓reduceIte, hU]))))) | (refine hK _ _ ?_; clear hK K))
          all_goals trace_state
end Go.Proofs.YtohbfcmmpaikhaaDoor

set_option linter.unusedVariables false
set_option linter.unusedSimpArgs false
namespace Go.Proofs.YtohbfcmmpaikhaaDoor
open Go Go.Lf Go.Proofs
attribute [local irreducible] Lf.rg Lf.ro Lf.PWp Lf.SOp Lf.ACall Lf.Scoped Lf.dg Lf.dw
set_option maxRecDepth 20000
set_option maxHeartbeats 4000000
attribute [local irreducible] pwI pfxP pgG huM bitsL rowB encL slG cutB
theorem sget (f q : Bool) (b : List UInt8) (hb : b.length ≤ 100000) (most : Int) : AEq Tryd.prog 45 [.sl f q (b.map byteA), i64 most] [] (.tu [.ag [.lit (.string ⟨(slG b most).1.toArray⟩), bl (slG b most).2.1], i64 (slG b most).2.2.1, i64 (slG b most).2.2.2]) [] := sget0 f q b hb most _ _ _ _ rfl
end Go.Proofs.YtohbfcmmpaikhaaDoor

set_option linter.unusedVariables false
set_option linter.unusedSimpArgs false
namespace Go.Proofs.YtohbfcmmpaikhaaDoor
open Go Go.Lf Go.Proofs
attribute [local irreducible] Lf.rg Lf.ro Lf.PWp Lf.SOp Lf.ACall Lf.Scoped Lf.dg Lf.dw
set_option maxRecDepth 20000
set_option maxHeartbeats 4000000
@[go_sem] theorem tl_glob {i : Nat} {r : List Operand} : tl (.global i :: r) = tl r := rfl
def kindM (x : Int) : Int := if 128 ≤ x then 1 else if 64 ≤ x then 2 else if 32 ≤ x then 5 else if 16 ≤ x then 4 else 3
def frI (k : Int) : Int := if k = 1 then 128 else if k = 2 then 64 else if k = 5 then 32 else if k = 4 then 16 else 0
def biI (k : Int) : Int := if k = 1 then 7 else if k = 2 then 6 else if k = 5 then 5 else 4
def txB (k : Int) : Bool := k == 2 || k == 3 || k == 4
def bM (x : Int) (k : Nat) : Int := if k ≤ 1 then 3 else if 128 ≤ x then 1 else if k = 2 then 3 else if 64 ≤ x then 2 else if k ≤ 4 then 3 else if k = 5 then (if 16 ≤ x then 4 else 3) else if 32 ≤ x then 5 else if 16 ≤ x then 4 else 3
theorem bM_6 (x : Int) : bM x 6 = kindM x := by
  unfold bM kindM
  simp
theorem kst (x : Int) (k : Nat) (h0 : 0 ≤ x) (h1 : x ≤ 255) (hk1 : 1 ≤ k) (hk : k ≤ 5) : (k = 1 ∧ bM x k = 3 ∧ (128 ≤ x ∧ x < 256) ∧ bM x (k + 1) = 1) ∨ (k = 1 ∧ bM x k = 3 ∧ (0 ≤ x ∧ x < 128) ∧ bM x (k + 1) = 3) ∨ (k = 2 ∧ bM x k = 1 ∧ (128 ≤ x ∧ x < 256) ∧ bM x (k + 1) = 1) ∨ (k = 2 ∧ bM x k = 3 ∧ (64 ≤ x ∧ x < 128) ∧ bM x (k + 1) = 2) ∨ (k = 2 ∧ bM x k = 3 ∧ (0 ≤ x ∧ x < 64) ∧ bM x (k + 1) = 3) ∨ (k = 3 ∧ bM x k = 1 ∧ (128 ≤ x ∧ x < 256) ∧ bM x (k + 1) = 1) ∨ (k = 3 ∧ bM x k = 2 ∧ (64 ≤ x ∧ x < 128) ∧ bM x (k + 1) = 2) ∨ (k = 3 ∧ bM x k = 3 ∧ (0 ≤ x ∧ x < 64) ∧ bM x (k + 1) = 3) ∨ (k = 4 ∧ bM x k = 1 ∧ (128 ≤ x ∧ x < 256) ∧ bM x (k + 1) = 1) ∨ (k = 4 ∧ bM x k = 2 ∧ (64 ≤ x ∧ x < 128) ∧ bM x (k + 1) = 2) ∨ (k = 4 ∧ bM x k = 3 ∧ (16 ≤ x ∧ x < 64) ∧ bM x (k + 1) = 4) ∨ (k = 4 ∧ bM x k = 3 ∧ (0 ≤ x ∧ x < 16) ∧ bM x (k + 1) = 3) ∨ (k = 5 ∧ bM x k = 1 ∧ (128 ≤ x ∧ x < 256) ∧ bM x (k + 1) = 1) ∨ (k = 5 ∧ bM x k = 2 ∧ (64 ≤ x ∧ x < 128) ∧ bM x (k + 1) = 2) ∨ (k = 5 ∧ bM x k = 4 ∧ (32 ≤ x ∧ x < 64) ∧ bM x (k + 1) = 5) ∨ (k = 5 ∧ bM x k = 4 ∧ (16 ≤ x ∧ x < 32) ∧ bM x (k + 1) = 4) ∨ (k = 5 ∧ bM x k = 3 ∧ (0 ≤ x ∧ x < 16) ∧ bM x (k + 1) = 3) := by
  have hk' : k = 1 ∨ k = 2 ∨ k = 3 ∨ k = 4 ∨ k = 5 := by omega
  unfold bM
  rcases hk' with rfl | rfl | rfl | rfl | rfl
  all_goals
    by_cases a : 128 ≤ x
    · simp [a]; try omega
    · by_cases b : 64 ≤ x
      · simp [a, b]; try omega
      · by_cases c : 32 ≤ x
        · have d : 16 ≤ x := by omega
          simp [a, b, c, d]; try omega
        · by_cases d : 16 ≤ x
          · simp [a, b, c, d]; try omega
          · simp [a, b, c, d]; try omega
theorem dleT {a b : Int} (h : a ≤ b) : decide (a ≤ b) = true := decide_eq_true h
theorem dleF {a b : Int} (h : ¬ a ≤ b) : decide (a ≤ b) = false := decide_eq_false h
attribute [local irreducible] bM kindM
theorem pkind (x : Int) (h0 : 0 ≤ x) (h1 : x ≤ 255) : AEq Tryd.prog 42 [.lit (.int .u8 x)] [] (i64 (kindM x)) [] := by
  refine acall_body Tryd.func42 rfl Tryd.ntmps42 (by simp) (fun hsc => ?_); simp only [Lf.enter, Nat.reduceAdd]; clear hsc
  have hU := True.intro
  repeat' (first | (guard_target =~ PWp _ _ _ _ _ _ _; first | (refine pwp_seq_k (fun K hK => ?_)) | (refine pwp_block ?_) | (refine pwp_rg_then ?_)) | (guard_target =~ rg _ _ _ _ _ _ _; first | (guard_target =~ rg _ _ _ [] _ _ _; first | (refine rg_end ?_)) | (refine rg_a rfl (h := ?_))) | (refine hK _ _ ?_; clear hK K))
  refine pwp_loop_e [3, 4, 5, 6, 7, 8, 9, 10, 11, 12, 13, 14, 15, 16, 17, 18, 19, 20, 21, 22, 23, 24, 25, 26, 27] (fun s : Nat × Int => [(4, i64 s.1), (3, i64 s.2)]) (fun s => []) (fun s => 1 ≤ s.1 ∧ s.1 ≤ 6 ∧ s.2 = bM x s.1) (fun s => 6 - s.1) (1, 3) ⟨by decide, by decide, by unfold bM; rfl⟩ ?_ rfl ?_
  · dsimp only
    (refine ⟨⟨_, (by (try simp (disch := omega) only [go_sem, seval, ↓reduceIte, hU]) <;> rfl), ?_⟩, ⟨_, (by (try simp (disch := omega) only [go_sem, seval, ↓reduceIte, hU]) <;> rfl), ?_⟩, trivial⟩ <;> (try (first | exact ale_eq (by with_reducible rfl) | exact ale_full | exact ale_sl (fun _ => rfl) | exact ale_sl (by simp) | exact ale_junk | exact ale_eq rfl)))
  · rintro ⟨k, b⟩ ⟨hk1, hk6, hb⟩
    dsimp only at hk1 hk6 hb ⊢
    subst hb
    simp only [mask, List.map_cons, List.map_nil, List.cons_append, List.nil_append]
    by_cases h6 : k = 6
    · subst h6
      rw [bM_6]
      repeat' (first | (guard_target =~ PWp _ _ _ _ _ _ _; first | (refine pwp_seq_k (fun K hK => ?_)) | (refine pwp_rg_then ?_) | (refine pwp_ret ?_) | (refine pwp_exit ?_) | ((refine pwp_cond_d (fun hcd => ?_) (fun hcd => ?_)) <;> (try simp only [hcP] at hcd) <;> (try (exfalso; first | omega | exact absurd hcd (by assumption) | exact absurd (by assumption) hcd)))) | (guard_target =~ rg _ _ _ _ _ _ _; first | (guard_target =~ rg _ _ _ [] _ _ _; first | (refine rg_end ?_)) | (refine rg_a rfl (h := ?_)) | (refine rg_v rfl (h := ?_))) | (guard_target =~ (_ ∨ _) ∧ _; first | ((refine end_d [] (by rw [Tryd.results42, Lf.res1]) (ale_1 ?_) ?_) <;> (try (first | exact ale_eq (by with_reducible rfl) | exact ale_full | exact ale_sl (fun _ => rfl) | exact ale_sl (by simp) | exact ale_junk | exact ale_eq rfl | exact stq (by with_reducible rfl) | exact stq (by rfl) | exact stq (by simp (disch := omega) only [go_sem, seval, ↓reduceIte, hU]))))) | (refine hK _ _ ?_; clear hK K) | (apply_assumption (exfalso := false) (symm := false)))
      all_goals trace_state
    rcases kst x k h0 h1 hk1 (by omega) with ⟨rfl, e, c, e2⟩ | ⟨rfl, e, c, e2⟩ | ⟨rfl, e, c, e2⟩ | ⟨rfl, e, c, e2⟩ | ⟨rfl, e, c, e2⟩ | ⟨rfl, e, c, e2⟩ | ⟨rfl, e, c, e2⟩ | ⟨rfl, e, c, e2⟩ | ⟨rfl, e, c, e2⟩ | ⟨rfl, e, c, e2⟩ | ⟨rfl, e, c, e2⟩ | ⟨rfl, e, c, e2⟩ | ⟨rfl, e, c, e2⟩ | ⟨rfl, e, c, e2⟩ | ⟨rfl, e, c, e2⟩ | ⟨rfl, e, c, e2⟩ | ⟨rfl, e, c, e2⟩
    all_goals rw [e]
    all_goals (have hU := And.intro @dleT (@dleF))
    all_goals (repeat' (first | (guard_target =~ PWp _ _ _ _ _ _ _; first | (refine pwp_seq_k (fun K hK => ?_)) | (refine pwp_block ?_) | (refine pwp_rg_then ?_) | (refine pwp_rg ?_) | (refine pwp_draw mixed (by kernel_rfl) ?_) | (refine pwp_skip ?_) | ((refine pwp_cond_d (fun hcd => ?_) (fun hcd => ?_)) <;> (try simp only [hcP] at hcd) <;> (try (exfalso; first | omega | exact absurd hcd (by assumption) | exact absurd (by assumption) hcd)))) | (guard_target =~ rg _ _ _ _ _ _ _; first | (guard_target =~ rg _ _ _ [] _ _ _; first | (refine rg_end ?_)) | (refine rg_a rfl (h := ?_)) | (refine rg_v rfl (h := ?_))) | (guard_target =~ dg _ _ _ _ _ _ _; first | (guard_target =~ dg _ _ _ (⟨_, .move _, _, _, _, none⟩ :: _) _ _ _; first | (refine dg_v rfl (hk := ?_))) | (guard_target =~ dg _ _ _ (⟨_, .binOp _ _ _ _ _, _, _, _, none⟩ :: _) _ _ _; first | (refine dg_v rfl (hk := ?_))) | (guard_target =~ dg _ _ _ (⟨_, .load _ _, _, _, _, some _⟩ :: _) _ _ _; first | (refine dg_gtp rfl (hk := ?_)) | (refine dg_gf rfl (hn := rfl) (hk := ?_))) | (guard_target =~ dg _ _ _ (⟨_, .indexAddr _ _ _, _, _, _, some _⟩ :: _) _ _ _; first | (refine dg_gtp rfl (hk := ?_)) | (refine dg_gf rfl (hn := rfl) (hk := ?_)) | (refine dg_c (x := _) (h := ro_gt (h := n_index_arr rfl (hK := ro_end ⟨rfl, rfl⟩))) (hk := ?_))) | (guard_target =~ dg _ _ _ (⟨_, .fieldAddr _ _ _, _, _, _, some _⟩ :: _) _ _ _; first | (refine dg_gtp rfl (hk := ?_)) | (refine dg_gf rfl (hn := rfl) (hk := ?_))) | (guard_target =~ dg _ _ _ (⟨_, .move _, _, _, _, some _⟩ :: _) _ _ _; first | (refine dg_gtp rfl (hk := ?_)) | (refine dg_gf rfl (hn := rfl) (hk := ?_))) | (guard_target =~ dg _ _ _ (⟨_, .fieldAddr _ _ _, _, _, _, none⟩ :: _) _ _ _; first | (refine dg_v rfl (hk := ?_))) | (guard_target =~ dg _ _ _ (⟨_, .pick _ _ _, _, _, _, none⟩ :: _) _ _ _; first | (refine dg_v rfl (hk := ?_))) | (guard_target =~ dg _ _ _ (⟨_, .load _ _, _, _, _, none⟩ :: _) _ _ _; first | (refine dg_v rfl (hk := ?_))) | (guard_target =~ dg _ _ _ (⟨_, .binOp _ _ _ _ _, _, _, _, some _⟩ :: _) _ _ _; first | (refine dg_gtp rfl (hk := ?_)) | (refine dg_gf rfl (hn := rfl) (hk := ?_))) | (guard_target =~ dg _ _ _ (⟨_, .indexAddr _ _ _, _, _, _, none⟩ :: _) _ _ _; first | (refine dg_c (x := _) (h := ro_s (h := n_index_arr rfl (hK := ro_end ⟨rfl, rfl⟩))) (hk := ?_))) | (guard_target =~ dg _ _ _ (⟨_, .convert _ _ _, _, _, _, none⟩ :: _) _ _ _; first | (refine dg_v rfl (hk := ?_))) | (guard_target =~ dg _ _ _ [] _ _ _; first | (refine dg_nil ?_))) | (refine hK _ _ ?_; clear hK K)))
    all_goals trace_state
    all_goals (have hU := True.intro)
    all_goals (refine ⟨(_, _), ⟨?_, ?_, e2.symm⟩, ?_, ?_, (by repeat' (first | exact agr_refl | refine agr_cons (by rfl) ?_)), (by first | rfl | (simp (disch := omega) only [go_sem, seval, ↓reduceIte, hU]; done) | (simp (disch := omega) only [go_sem, seval, ↓reduceIte, hU]; rfl))⟩)
    all_goals dsimp only
    all_goals first | omega | ((refine ⟨⟨_, (by (try simp (disch := omega) only [go_sem, seval, ↓reduceIte, hU]) <;> rfl), ?_⟩, ⟨_, (by (try simp (disch := omega) only [go_sem, seval, ↓reduceIte, hU]) <;> rfl), ?_⟩, trivial⟩ <;> (try (first | exact ale_eq (by with_reducible rfl) | exact ale_full | exact ale_sl (fun _ => rfl) | exact ale_sl (by simp) | exact ale_junk | exact ale_eq rfl)))) | trace_state
theorem ptexts (k : Int) : AEq Tryd.prog 44 [i64 k] [] (bl (txB k)) [] := by
  refine acall_body Tryd.func44 rfl Tryd.ntmps44 (by simp) (fun hsc => ?_); simp only [Lf.enter, Nat.reduceAdd]; clear hsc
  have hU := True.intro
  repeat' (first | (guard_target =~ PWp _ _ _ _ _ _ _; first | (refine pwp_seq_k (fun K hK => ?_)) | (refine pwp_rg_then ?_) | (refine pwp_ret ?_)) | (guard_target =~ rg _ _ _ _ _ _ _; first | (guard_target =~ rg _ _ _ (⟨_, .binOp _ _ _ _ _, _, _, _, some _⟩ :: _) _ _ _; first | (refine rg_gq rfl (h := ?_))) | (guard_target =~ rg _ _ _ (⟨_, .move _, _, _, _, some _⟩ :: _) _ _ _; first | (refine rg_gq rfl (h := ?_))) | (guard_target =~ rg _ _ _ [] _ _ _; first | (refine rg_end ?_)) | (refine rg_a rfl (h := ?_)) | (refine rg_v rfl (h := ?_))) | (guard_target =~ (_ ∨ _) ∧ _; first | ((refine end_d [] (by rw [Tryd.results44, Lf.res1]) (ale_1 ?_) ?_) <;> (try (first | exact ale_eq (by with_reducible rfl) | exact ale_full | exact ale_sl (fun _ => rfl) | exact ale_sl (by simp) | exact ale_junk | exact ale_eq rfl | exact stq (by with_reducible rfl) | exact stq (by rfl) | exact stq (by simp (disch := omega) only [go_sem, seval, ↓reduceIte, hU]))))) | (refine hK _ _ ?_; clear hK K))
  all_goals exact ale_eq rfl
end Go.Proofs.YtohbfcmmpaikhaaDoor

set_option linter.unusedVariables false
set_option linter.unusedSimpArgs false
namespace Go.Proofs.YtohbfcmmpaikhaaDoor
open Go Go.Lf Go.Proofs
attribute [local irreducible] Lf.rg Lf.ro Lf.PWp Lf.SOp Lf.ACall Lf.Scoped Lf.dg Lf.dw
set_option maxRecDepth 20000
set_option maxHeartbeats 4000000
def RP (k i : Int) (nm : List UInt8) (ns : Bool) (vl : List UInt8) (vs : Bool) (sz : Int) : Prop :=
  (1 ≤ k ∧ k ≤ 5) ∧ (0 ≤ i ∧ i ≤ 2147483647) ∧ (0 ≤ sz ∧ sz ≤ 2147483647) ∧ ((k = 5 ∧ i = 0 ∧ (nm = [] ∧ ns = false) ∧ (vl = [] ∧ vs = false)) ∨ (k = 1 ∧ sz = 0 ∧ 0 < i ∧ (nm = [] ∧ ns = false) ∧ (vl = [] ∧ vs = false)) ∨ (k ≠ 5 ∧ k ≠ 1 ∧ sz = 0 ∧ (i = 0 ∨ (nm = [] ∧ ns = false))))
instance (k i : Int) (nm : List UInt8) (ns : Bool) (vl : List UInt8) (vs : Bool) (sz : Int) : Decidable (RP k i nm ns vl vs sz) := by unfold RP; exact inferInstance
def rOk (k i : Int) (nm : List UInt8) (ns : Bool) (vl : List UInt8) (vs : Bool) (sz : Int) : Bool := decide (RP k i nm ns vl vs sz)
end Go.Proofs.YtohbfcmmpaikhaaDoor

set_option linter.unusedVariables false
set_option linter.unusedSimpArgs false
namespace Go.Proofs.YtohbfcmmpaikhaaDoor
open Go Go.Lf Go.Proofs
attribute [local irreducible] Lf.rg Lf.ro Lf.PWp Lf.SOp Lf.ACall Lf.Scoped Lf.dg Lf.dw
set_option maxRecDepth 20000
set_option maxHeartbeats 4000000
def rpB (k i : Int) (nm : List UInt8) (ns : Bool) (vl : List UInt8) (vs : Bool) (sz : Int) : List UInt8 :=
  pfxP (frI k) (biI k) (i + sz) ++ (if txB k = true then (if i = 0 then slP ns nm else []) ++ slP vs vl else [])
attribute [local irreducible] pfxP slP rOk rpB frI biI txB pwI
end Go.Proofs.YtohbfcmmpaikhaaDoor

set_option linter.unusedVariables false
set_option linter.unusedSimpArgs false
namespace Go.Proofs.YtohbfcmmpaikhaaDoor
open Go Go.Lf Go.Proofs
attribute [local irreducible] Lf.rg Lf.ro Lf.PWp Lf.SOp Lf.ACall Lf.Scoped Lf.dg Lf.dw
set_option maxRecDepth 20000
set_option maxHeartbeats 4000000
theorem slG_bd (b : List UInt8) (most : Int) : 0 ≤ (slG b most).2.2.1 ∧ (slG b most).2.2.1 ≤ (b.length : Int) := by
  have hbd := pgG_bd b (c := 7) (by decide) (by decide)
  rcases slG_cases b most with ⟨h1, h2⟩ | ⟨h1, h0, h3, h2⟩ | ⟨h1, h0, h3, h4, h2⟩ | ⟨h1, h0, h3, h4⟩
  · rw [h2]; dsimp only; omega
  · rw [h2]; dsimp only; omega
  · rw [h2]; dsimp only; omega
  · obtain ⟨k0, hk⟩ : ∃ j : Nat, (pgG b 7).2.1 = j := ⟨(pgG b 7).2.1.toNat, by omega⟩
    obtain ⟨n0, hn⟩ : ∃ j : Nat, (pgG b 7).1 = j := ⟨(pgG b 7).1.toNat, by omega⟩
    have h40 := h4
    rw [hk, hn] at h40
    cases hh : hiB b with
    | false => rw [slG_lit h1 h3 h4 hk hn hh]; dsimp only; omega
    | true =>
      by_cases h5 : (huM (bitsL (cutB b k0 n0)) 0 0 []).2 = 0
      · rw [slG_cod h1 h3 h4 hk hn hh h5]; dsimp only; omega
      · rw [slG_bad h1 h3 h4 hk hn hh h5]; dsimp only; omega
structure Rp where
  (k i : Int) (nm : List UInt8) (ns : Bool) (vl : List UInt8) (vs : Bool) (sz n e : Int)
def rpNo (e : Int) : Rp := ⟨0, 0, [], false, [], false, 0, 0, e⟩
def rgV (b : List UInt8) (k i : Int) (nm : List UInt8) (ns : Bool) (a : Nat) : Rp :=
  if (slG (b.drop a) (b.length : Int)).2.2.2 ≠ 0 then rpNo (slG (b.drop a) (b.length : Int)).2.2.2
  else ⟨k, i, nm, ns, (slG (b.drop a) (b.length : Int)).1, (slG (b.drop a) (b.length : Int)).2.1, 0, (a : Int) + (slG (b.drop a) (b.length : Int)).2.2.1, 0⟩
def rgN (b : List UInt8) (k : Int) (a : Nat) : Rp :=
  if (slG (b.drop a) (b.length : Int)).2.2.2 ≠ 0 then rpNo (slG (b.drop a) (b.length : Int)).2.2.2
  else rgV b k 0 (slG (b.drop a) (b.length : Int)).1 (slG (b.drop a) (b.length : Int)).2.1 (a + (slG (b.drop a) (b.length : Int)).2.2.1.toNat)
def rgK (b : List UInt8) (k : Int) (p : Int × Int × Int) : Rp :=
  if p.2.2 ≠ 0 then rpNo p.2.2
  else if k = 5 then ⟨5, 0, [], false, [], false, p.1, p.2.1, 0⟩
  else if k = 1 then (if p.1 = 0 then rpNo 12 else ⟨1, p.1, [], false, [], false, 0, p.2.1, 0⟩)
  else if p.1 = 0 then rgN b k p.2.1.toNat
  else rgV b k p.1 [] false p.2.1.toNat
def rgM (b : List UInt8) : Rp := match b[0]? with
  | none => rpNo 3
  | some x => rgK b (kindM x.toNat) (pgG b (biI (kindM x.toNat)))
theorem rgM_none {b : List UInt8} (h : b[0]? = none) : rgM b = rpNo 3 := by rw [rgM, h]
theorem rgM_some {b : List UInt8} {x : UInt8} {k : Int} {p : Int × Int × Int} (h : b[0]? = some x) (hk : kindM x.toNat = k) (hp : pgG b (biI k) = p) : rgM b = rgK b k p := by rw [rgM, h]; dsimp only; rw [hk, hp]
theorem rgK_e {b : List UInt8} {k n j e : Int} (h : e ≠ 0) : rgK b k (n, j, e) = rpNo e := by rw [rgK, if_pos h]
theorem rgK_5 {b : List UInt8} {n j : Int} : rgK b 5 (n, j, 0) = ⟨5, 0, [], false, [], false, n, j, 0⟩ := rfl
theorem rgK_10 {b : List UInt8} {j : Int} : rgK b 1 (0, j, 0) = rpNo 12 := rfl
theorem rgK_1 {b : List UInt8} {n j : Int} (h : ¬ n = 0) : rgK b 1 (n, j, 0) = ⟨1, n, [], false, [], false, 0, j, 0⟩ := by
  rw [rgK, if_neg (by simp), if_neg (by decide), if_pos rfl, if_neg h]
theorem rgK_n {b : List UInt8} {k : Int} {j : Nat} (h5 : k ≠ 5) (h1 : k ≠ 1) : rgK b k (0, j, 0) = rgN b k j := by
  rw [rgK, if_neg (by simp), if_neg h5, if_neg h1, if_pos rfl, Int.toNat_natCast]
theorem rgK_v {b : List UInt8} {k n : Int} {j : Nat} (h5 : k ≠ 5) (h1 : k ≠ 1) (h : ¬ n = 0) : rgK b k (n, j, 0) = rgV b k n [] false j := by
  rw [rgK, if_neg (by simp), if_neg h5, if_neg h1, if_neg h, Int.toNat_natCast]
theorem rgV_e {b : List UInt8} {k i : Int} {nm : List UInt8} {ns : Bool} {a : Nat} {t : List UInt8} {s : Bool} {j e : Int} (h : slG (b.drop a) (b.length : Int) = (t, s, j, e)) (he : e ≠ 0) : rgV b k i nm ns a = rpNo e := by
  rw [rgV, h, if_pos he]
theorem rgV_ok {b : List UInt8} {k i : Int} {nm : List UInt8} {ns : Bool} {a : Nat} {t : List UInt8} {s : Bool} {j : Int} (h : slG (b.drop a) (b.length : Int) = (t, s, j, 0)) : rgV b k i nm ns a = ⟨k, i, nm, ns, t, s, 0, (a : Int) + j, 0⟩ := by
  rw [rgV, h, if_neg (by simp)]
theorem rgN_e {b : List UInt8} {k : Int} {a : Nat} {t : List UInt8} {s : Bool} {j e : Int} (h : slG (b.drop a) (b.length : Int) = (t, s, j, e)) (he : e ≠ 0) : rgN b k a = rpNo e := by
  rw [rgN, h, if_pos he]
theorem rgN_ok {b : List UInt8} {k : Int} {a : Nat} {t : List UInt8} {s : Bool} {j : Nat} (h : slG (b.drop a) (b.length : Int) = (t, s, (j : Int), 0)) : rgN b k a = rgV b k 0 t s (a + j) := by
  rw [rgN, h, if_neg (by simp)]; dsimp only; rw [Int.toNat_natCast]
theorem kindM_in {x : Int} (h0 : 0 ≤ x) : kindM x = 1 ∨ kindM x = 2 ∨ kindM x = 3 ∨ kindM x = 4 ∨ kindM x = 5 := by
  unfold kindM
  split
  · exact .inl rfl
  split
  · exact .inr (.inl rfl)
  split
  · exact .inr (.inr (.inr (.inr rfl)))
  split
  · exact .inr (.inr (.inr (.inl rfl)))
  · exact .inr (.inr (.inl rfl))
theorem forms_at {k : Int} (h : k = 1 ∨ k = 2 ∨ k = 3 ∨ k = 4 ∨ k = 5) : ∃ tl, List.drop (k.toNat * 2) [AV.lit (.int .i64 0), AV.lit (.int .i64 0), AV.lit (.int .i64 128), AV.lit (.int .i64 7), AV.lit (.int .i64 64), AV.lit (.int .i64 6), AV.lit (.int .i64 0), AV.lit (.int .i64 4), AV.lit (.int .i64 16), AV.lit (.int .i64 4), AV.lit (.int .i64 32), AV.lit (.int .i64 5)] = i64 (frI k) :: i64 (biI k) :: tl := by
  rcases h with rfl | rfl | rfl | rfl | rfl
  all_goals exact ⟨_, rfl⟩
theorem biI_bd {k : Int} (h : k = 1 ∨ k = 2 ∨ k = 3 ∨ k = 4 ∨ k = 5) : 4 ≤ biI k ∧ biI k ≤ 7 := by
  rcases h with rfl | rfl | rfl | rfl | rfl
  all_goals decide
theorem biI_5 : biI 5 = 5 := by decide
theorem biI_1 : biI 1 = 7 := by decide
theorem txB_1 : txB 1 = false := by decide
theorem txB_m {k : Int} (h : k = 1 ∨ k = 2 ∨ k = 3 ∨ k = 4 ∨ k = 5) (h1 : k ≠ 1) (h5 : k ≠ 5) : txB k = true := by
  obtain rfl | rfl | rfl : k = 2 ∨ k = 3 ∨ k = 4 := by omega
  all_goals decide
attribute [local irreducible] pgG slG kindM frI biI txB
end Go.Proofs.YtohbfcmmpaikhaaDoor

