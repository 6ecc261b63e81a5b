import Derived.Test.YtohbfcmmpaikhaaDoorTy
import Derived.Test.YtohbfcmmpaikhaaDoorLc
import Derived.ScopeJumps
import Derived.Lib.ConvBytes
set_option linter.unusedVariables false
set_option linter.unusedSimpArgs false
namespace Go.Proofs.YtohbfcmmpaikhaaDoor
open Go Go.Lf Go.Proofs
attribute [local irreducible] Lf.rg Lf.ro Lf.PWp Lf.SOp Lf.ACall Lf.Scoped Lf.dg Lf.dw
set_option maxRecDepth 20000
set_option maxHeartbeats 4000000
theorem take_snoc {α : Type} {l : List α} {i : Nat} {x : α} (h : l[i]? = some x) : l.take (i + 1) = l.take i ++ [x] := by
  rw [List.take_add_one, h]; rfl
theorem clone_b (f q : Bool) (l : List UInt8) (h : l.length ≤ 100000000000000) : AEq Tryd.prog 122 [.sl f q (l.map byteA)] [] (.sl false false (l.map byteA)) [] := by
  refine acall_body Tryd.func122 rfl Tryd.ntmps122 (by simp) (fun hsc => ?_); simp only [Lf.enter, Nat.reduceAdd]; clear hsc
  have hU := True.intro
  repeat' (first | (guard_target =~ PWp _ _ _ _ _ _ _; first | (refine pwp_seq_k (fun K hK => ?_)) | (refine pwp_rg_then ?_) | (refine pwp_ret ?_) | (refine pwp_skip ?_) | ((refine pwp_cond_d (fun hcd => ?_) (fun hcd => ?_)) <;> (try simp only [hcP] at hcd) <;> (try exact cdT))) | (guard_target =~ rg _ _ _ _ _ _ _; first | (guard_target =~ rg _ _ _ [] _ _ _; first | (refine rg_end ?_)) | (refine rg_a rfl (h := ?_)) | (refine rg_v rfl (h := ?_)) | (refine rg_s rfl ?_)) | (guard_target =~ SOp _ _ _ _ _ _; first | (guard_target =~ SOp _ _ ⟨_, .binOp _ _ _ _ _, _, _, _, none⟩ _ _ _; first | (refine n_eqnil (ne := false) rfl (hx := ⟨_, sT, rfl⟩) (hK := (fun b hb => ?_)))) | (guard_target =~ SOp _ _ ⟨_, .buildSlice _ _ _, _, _, _, none⟩ _ _ _; first | (refine n_lit rfl (he := by first | exact eo4 | exact eo5 | exact eo22 | fail) (hK := ?_))) | (guard_target =~ SOp _ _ ⟨_, .call ⟨.builtin .append, _, _⟩, _, _, _, none⟩ _ _ _; first | (refine n_append_new rfl (he := by first | exact eo4 | exact eo5 | exact eo22 | fail) (hK := ?_)))) | (guard_target =~ (_ ∨ _) ∧ _; first | ((refine end_d [] (by rw [Tryd.results122, Lf.res1]) (ale_1 ?_) ?_) <;> (try (first | exact aleT | exact stq (by with_reducible rfl) | exact stq (by rfl) | exact stq (by simp (disch := omega) only [go_sem, seval, ↓reduceIte, hU]))))) | (refine hK _ _ ?_; clear hK K))
  · have : l = [] := by
      cases l with
      | nil => rfl
      | cons x l => simp_all
    subst this
    exact ale_sl (by simp)
end Go.Proofs.YtohbfcmmpaikhaaDoor

set_option linter.unusedVariables false
set_option linter.unusedSimpArgs false
namespace Go.Proofs.YtohbfcmmpaikhaaDoor
open Go Go.Lf Go.Proofs
attribute [local irreducible] Lf.rg Lf.ro Lf.PWp Lf.SOp Lf.ACall Lf.Scoped Lf.dg Lf.dw
set_option maxRecDepth 20000
set_option maxHeartbeats 4000000
def bits8 (x : UInt8) : List Int := [(x.toNat : Int) / 128 % 2, (x.toNat : Int) / 64 % 2, (x.toNat : Int) / 32 % 2, (x.toNat : Int) / 16 % 2, (x.toNat : Int) / 8 % 2, (x.toNat : Int) / 4 % 2, (x.toNat : Int) / 2 % 2, (x.toNat : Int) / 1 % 2]
def bitsL (b : List UInt8) : List Int := b.flatMap bits8
theorem bitsL_len (b : List UInt8) : (bitsL b).length = 8 * b.length := by
  induction b with
  | nil => rfl
  | cons x b ih => simp only [bitsL, List.flatMap_cons, List.length_append] at ih ⊢; rw [ih]; simp [bits8]; omega
theorem bitsL_get (b : List UInt8) (a : Nat) (x : UInt8) (h : b[a / 8]? = some x) : (bitsL b)[a]? = (bits8 x)[a % 8]? := by
  induction b generalizing a with
  | nil => simp at h
  | cons y b ih =>
    have e : bitsL (y :: b) = bits8 y ++ bitsL b := rfl
    rw [e]
    by_cases ha : a < 8
    · rw [List.getElem?_append_left (by simpa [bits8] using ha), Nat.mod_eq_of_lt ha]
      rw [Nat.div_eq_of_lt ha] at h
      simp at h
      rw [h]
    · rw [List.getElem?_append_right (by simp [bits8]; omega)]
      have h8 : (bits8 y).length = 8 := rfl
      rw [h8]
      have hd : a / 8 = (a - 8) / 8 + 1 := by omega
      rw [hd] at h
      simp only [List.getElem?_cons_succ] at h
      rw [ih (a - 8) h]
      congr 1; omega
theorem bits01 (b : List UInt8) : ∀ x ∈ bitsL b, x = 0 ∨ x = 1 := by
  intro x hx
  rw [bitsL, List.mem_flatMap] at hx
  obtain ⟨y, _, hx⟩ := hx
  simp only [bits8, List.mem_cons, List.not_mem_nil, or_false] at hx
  omega
def numBits (l : List Int) : Int := l.foldl (fun v x => 2 * v + x) 0
theorem numBits_snoc (l : List Int) (x : Int) : numBits (l ++ [x]) = 2 * numBits l + x := by simp [numBits]
theorem numBits_bd (l : List Int) (h : ∀ x ∈ l, x = 0 ∨ x = 1) : 0 ≤ numBits l ∧ numBits l < 2 ^ l.length := by
  have key : ∀ (l : List Int) (v : Int), (∀ x ∈ l, x = 0 ∨ x = 1) → 0 ≤ v → 0 ≤ l.foldl (fun v x => 2 * v + x) v ∧ l.foldl (fun v x => 2 * v + x) v < (v + 1) * 2 ^ l.length := by
    intro l
    induction l with
    | nil => intro v _ hv; simp; omega
    | cons x l ih =>
      intro v hx hv
      have h1 := hx x List.mem_cons_self
      have := ih (2 * v + x) (fun y hy => hx y (List.mem_cons_of_mem _ hy)) (by omega)
      simp only [List.foldl_cons, List.length_cons]
      refine ⟨this.1, Int.lt_of_lt_of_le this.2 ?_⟩
      rw [Int.pow_succ, Int.mul_comm (2 ^ l.length) 2, ← Int.mul_assoc]
      exact Int.mul_le_mul_of_nonneg_right (by omega) (Int.le_of_lt (Int.pow_pos (by decide)))
  have := key l 0 h (Int.le_refl 0)
  simpa [numBits] using this
theorem numBits_bd32 (l : List Int) (h : ∀ x ∈ l, x = 0 ∨ x = 1) (hl : l.length ≤ 32) : 0 ≤ numBits l ∧ numBits l ≤ 4294967295 := by
  have h1 := numBits_bd l h
  have h2 : (2 : Int) ^ l.length ≤ 2 ^ 32 := by
    rw [show (2 : Int) ^ l.length = ((2 ^ l.length : Nat) : Int) from by simp, show (2 : Int) ^ 32 = ((2 ^ 32 : Nat) : Int) from by simp]
    exact Int.ofNat_le.2 (Nat.pow_le_pow_right (by decide) hl)
  omega
theorem and1 (n : Nat) (h : n < 256) : iand .u8 (n : Int) 1 = (n : Int) % 2 := by
  show IntKind.u8.wrap ((BitVec.ofInt 8 (n : Int) &&& BitVec.ofInt 8 1).toNat : Int) = _
  have e : BitVec.ofInt 8 (n : Int) = BitVec.ofNat 8 n := rfl
  have e1 : BitVec.ofInt 8 1 = BitVec.ofNat 8 1 := rfl
  rw [e, e1, BitVec.toNat_and, BitVec.toNat_ofNat, BitVec.toNat_ofNat, Nat.mod_eq_of_lt h, show 1 % 2 ^ 8 = 1 from rfl, Nat.and_one_is_mod]
  have := wu8 (n := ((n % 2 : Nat) : Int)) (by omega)
  rw [this]; simp
theorem bit_val (b : List UInt8) (a : Int) (x : UInt8) (h0 : 0 ≤ a) (hx : b[(a / 8).toNat]? = some x) : IntKind.i64.wrap (iand IntKind.u8 (((x.toNat : Int)).fdiv (2 ^ (7 - a % 8).toNat)) 1) = (bitsL b).getD a.toNat 0 := by
  have hl := x.toNat_lt
  have e : (a / 8).toNat = a.toNat / 8 := by omega
  rw [e] at hx
  rw [List.getD_eq_getElem?_getD, bitsL_get b a.toNat x hx]
  have key : ∀ k : Nat, k < 8 → IntKind.i64.wrap (iand IntKind.u8 (((x.toNat : Int)).fdiv (2 ^ (7 - k))) 1) = ((bits8 x)[k]?).getD 0 := by
    intro k hk
    have hp : ((x.toNat : Int)).fdiv (2 ^ (7 - k)) = ((x.toNat / 2 ^ (7 - k) : Nat) : Int) := by
      rw [Int.fdiv_eq_ediv_of_nonneg _ (Int.le_of_lt (Int.pow_pos (by decide)))]
      simp
    have hq : x.toNat / 2 ^ (7 - k) < 256 := Nat.lt_of_le_of_lt (Nat.div_le_self _ _) hl
    rw [hp, and1 _ hq, w64 (by omega)]
    rcases (show k = 0 ∨ k = 1 ∨ k = 2 ∨ k = 3 ∨ k = 4 ∨ k = 5 ∨ k = 6 ∨ k = 7 by omega) with rfl | rfl | rfl | rfl | rfl | rfl | rfl | rfl <;> simp [bits8]
  have := key (a.toNat % 8) (by omega)
  rw [show (7 - a % 8).toNat = 7 - a.toNat % 8 from by omega]
  exact this
theorem br_of (f q : Bool) (l : List UInt8) (h : l.length ≤ 100000000000000) : AEq Tryd.prog 96 [.sl f q (l.map byteA)] [] (.ptr 0 0) [.box [.sl false false (l.map byteA), i64 0]] := by
  refine acall_body Tryd.func96 rfl Tryd.ntmps96 (by simp) (fun hsc => ?_); simp only [Lf.enter, Nat.reduceAdd]; clear hsc
  have hU := True.intro
  repeat' (first | (guard_target =~ PWp _ _ _ _ _ _ _; first | (refine pwp_seq_k (fun K hK => ?_)) | (refine pwp_rg_then ?_) | (refine pwp_ret ?_)) | (guard_target =~ rg _ _ _ _ _ _ _; first | (guard_target =~ rg _ _ _ [] _ _ _; first | (refine rg_end ?_)) | (refine rg_a rfl (h := ?_)) | (refine rg_v rfl (h := ?_)) | (refine rg_s rfl ?_)) | (guard_target =~ SOp _ _ _ _ _ _; first | (guard_target =~ SOp _ _ ⟨_, .call ⟨.value (.func 122), _, _⟩, _, _, _, none⟩ _ _ _; first | (refine n_call (f := 122) rfl Tryd.call122 (h := AEq.pure' agT (clone_b _ _ _ (by assumption)) (hq := ?_)))) | (guard_target =~ SOp _ _ ⟨_, .build _ _, _, _, _, none⟩ _ _ _; first | (refine n_build rfl (by first | exact bd173 | fail) (hK := ?_))) | (guard_target =~ SOp _ _ ⟨_, .box _ _, _, _, _, none⟩ _ _ _; first | (refine n_box rfl (hK := ?_)))) | (guard_target =~ (_ ∨ _) ∧ _; first | ((refine end_d [0] (by rw [Tryd.results96, Lf.res1]) (ale_1 ?_) ?_) <;> (try (first | exact aleT | exact stq (by with_reducible rfl) | exact stq (by rfl) | exact stq (by simp (disch := omega) only [go_sem, seval, ↓reduceIte, hU]))))) | (refine hK _ _ ?_; clear hK K))
theorem br_left (f : Bool) (b : List UInt8) (a : Int) (h0 : 0 ≤ a) (h1 : a ≤ 8 * b.length) (hb : b.length ≤ 100000000000000) : AEq Tryd.prog 123 [.ptr 0 0] [.box [.sl f false (b.map byteA), i64 a]] (i64 (8 * b.length - a)) [.box [.sl f false (b.map byteA), i64 a]] := by
  refine acall_body Tryd.func123 rfl Tryd.ntmps123 (by simp) (fun hsc => ?_); simp only [Lf.enter, Nat.reduceAdd]; clear hsc
  have hU := True.intro
  repeat' (first | (guard_target =~ PWp _ _ _ _ _ _ _; first | (refine pwp_seq_k (fun K hK => ?_)) | (refine pwp_rg_then ?_) | (refine pwp_draw mixed (by kernel_rfl) ?_) | (refine pwp_ret ?_) | (refine pwp_skip ?_) | ((refine pwp_cond_d (fun hcd => ?_) (fun hcd => ?_)) <;> (try simp only [hcP] at hcd) <;> (try exact cdT))) | (guard_target =~ rg _ _ _ _ _ _ _; first | (guard_target =~ rg _ _ _ [] _ _ _; first | (refine rg_end ?_)) | (refine rg_a rfl (h := ?_)) | (refine rg_v rfl (h := ?_))) | (guard_target =~ dg _ _ _ _ _ _ _; first | (guard_target =~ dg _ _ _ (⟨_, .binOp _ _ _ _ _, _, _, _, none⟩ :: _) _ _ _; first | (refine dg_v rfl (hk := ?_))) | (guard_target =~ dg _ _ _ (⟨_, .assign _, _, _, _, none⟩ :: _) _ _ _; first | (refine dg_a rfl (hk := ?_))) | (guard_target =~ dg _ _ _ (⟨_, .move _, _, _, _, none⟩ :: _) _ _ _; first | (refine dg_v rfl (hk := ?_))) | (guard_target =~ dg _ _ _ (⟨_, .nilCheck _, _, _, _, none⟩ :: _) _ _ _; first | (refine dg_v rfl (hk := ?_))) | (guard_target =~ dg _ _ _ (⟨_, .fieldAddr _ _ _, _, _, _, none⟩ :: _) _ _ _; first | (refine dg_v rfl (hk := ?_))) | (guard_target =~ dg _ _ _ (⟨_, .load _ _, _, _, _, none⟩ :: _) _ _ _; first | (refine dg_v rfl (hk := ?_))) | (guard_target =~ dg _ _ _ (⟨_, .call ⟨.builtin .len, _, _⟩, _, _, _, none⟩ :: _) _ _ _; first | (refine dg_v rfl (hk := ?_))) | (guard_target =~ dg _ _ _ [] _ _ _; first | (refine dg_nil ?_))) | (guard_target =~ (_ ∨ _) ∧ _; first | ((refine end_d [0] (by rw [Tryd.results123, Lf.res1]) (ale_1 ?_) ?_) <;> (try (first | exact aleT | exact stq (by with_reducible rfl) | exact stq (by rfl) | exact stq (by simp (disch := omega) only [go_sem, seval, ↓reduceIte, hU]))))) | (refine hK _ _ ?_; clear hK K))
theorem br_bit_no (f : Bool) (b : List UInt8) (a : Int) (h0 : 0 ≤ a) (h1 : a = 8 * b.length) (hb : b.length ≤ 100000000000000) : AEq Tryd.prog 97 [.ptr 0 0] [.box [.sl f false (b.map byteA), i64 a]] (.tu [i64 0, bl false]) [.box [.sl f false (b.map byteA), i64 a]] := by
  refine acall_body Tryd.func97 rfl Tryd.ntmps97 (by simp) (fun hsc => ?_); simp only [Lf.enter, Nat.reduceAdd]; clear hsc
  have hU := True.intro
  repeat' (first | (guard_target =~ PWp _ _ _ _ _ _ _; first | (refine pwp_seq_k (fun K hK => ?_)) | (refine pwp_rg_then ?_) | (refine pwp_ret ?_) | ((refine pwp_cond_d (fun hcd => ?_) (fun hcd => ?_)) <;> (try simp only [hcP] at hcd) <;> (try exact cdT))) | (guard_target =~ rg _ _ _ _ _ _ _; first | (guard_target =~ rg _ _ _ [] _ _ _; first | (refine rg_end ?_)) | (refine rg_a rfl (h := ?_)) | (refine rg_v rfl (h := ?_)) | (refine rg_s rfl ?_)) | (guard_target =~ SOp _ _ _ _ _ _; first | (guard_target =~ SOp _ _ ⟨_, .call ⟨.value (.func 123), _, _⟩, _, _, _, none⟩ _ _ _; first | (refine n_call (f := 123) rfl Tryd.call123 (h := AEq.sub' [_] (hc := br_left _ _ _ aoT aoT aoT) (hq := ?_))))) | (guard_target =~ (_ ∨ _) ∧ _; first | ((refine end_d [0] (by rw [Tryd.results97, Lf.res2]) (ale_2 ?_ ?_) ?_) <;> (try (first | exact aleT | exact stq (by with_reducible rfl) | exact stq (by rfl) | exact stq (by simp (disch := omega) only [go_sem, seval, ↓reduceIte, hU]))))) | (refine hK _ _ ?_; clear hK K))
theorem br_bit (f : Bool) (b : List UInt8) (a : Int) (h0 : 0 ≤ a) (h1 : a < 8 * b.length) (hb : b.length ≤ 100000000000000) : AEq Tryd.prog 97 [.ptr 0 0] [.box [.sl f false (b.map byteA), i64 a]] (.tu [i64 ((bitsL b).getD a.toNat 0), bl true]) [.box [.sl f false (b.map byteA), i64 (a + 1)]] := by
  obtain ⟨x, hx⟩ : ∃ x, b[(a / 8).toNat]? = some x := ⟨b[(a / 8).toNat], List.getElem?_eq_getElem (by omega)⟩
  have hv := bit_val b a x h0 hx
  refine acall_body Tryd.func97 rfl Tryd.ntmps97 (by simp) (fun hsc => ?_); simp only [Lf.enter, Nat.reduceAdd]; clear hsc
  have hU := True.intro
  repeat' (first | (guard_target =~ PWp _ _ _ _ _ _ _; first | (refine pwp_seq_k (fun K hK => ?_)) | (refine pwp_rg_then ?_) | (refine pwp_draw mixed (by kernel_rfl) ?_) | (refine pwp_ret ?_) | (refine pwp_skip ?_) | ((refine pwp_cond_d (fun hcd => ?_) (fun hcd => ?_)) <;> (try simp only [hcP] at hcd) <;> (try exact cdT))) | (guard_target =~ rg _ _ _ _ _ _ _; first | (guard_target =~ rg _ _ _ [] _ _ _; first | (refine rg_end ?_)) | (refine rg_a rfl (h := ?_)) | (refine rg_v rfl (h := ?_)) | (refine rg_s rfl ?_) | (refine rg_n rfl ?_)) | (guard_target =~ SOp _ _ _ _ _ _; first | (guard_target =~ SOp _ _ ⟨_, .store _ _ _, _, _, _, none⟩ _ _ _; first | (refine n_store rfl (hK := ?_))) | (guard_target =~ SOp _ _ ⟨_, .call ⟨.value (.func 123), _, _⟩, _, _, _, none⟩ _ _ _; first | (refine n_call (f := 123) rfl Tryd.call123 (h := AEq.sub' [_] (hc := br_left _ _ _ aoT aoT aoT) (hq := ?_))))) | (guard_target =~ dg _ _ _ _ _ _ _; first | (guard_target =~ dg _ _ _ (⟨_, .binOp _ _ _ _ _, _, _, _, none⟩ :: _) _ _ _; first | (refine dg_v rfl (hk := ?_))) | (guard_target =~ dg _ _ _ (⟨_, .assign _, _, _, _, none⟩ :: _) _ _ _; first | (refine dg_a rfl (hk := ?_))) | (guard_target =~ dg _ _ _ (⟨_, .move _, _, _, _, none⟩ :: _) _ _ _; first | (refine dg_v rfl (hk := ?_))) | (guard_target =~ dg _ _ _ (⟨_, .nilCheck _, _, _, _, none⟩ :: _) _ _ _; first | (refine dg_v rfl (hk := ?_))) | (guard_target =~ dg _ _ _ (⟨_, .fieldAddr _ _ _, _, _, _, none⟩ :: _) _ _ _; first | (refine dg_v rfl (hk := ?_))) | (guard_target =~ dg _ _ _ (⟨_, .load _ _, _, _, _, none⟩ :: _) _ _ _; first | (refine dg_v rfl (hk := ?_))) | (guard_target =~ dg _ _ _ (⟨_, .convert _ _ _, _, _, _, none⟩ :: _) _ _ _; first | (refine dg_v rfl (hk := ?_))) | (guard_target =~ dg _ _ _ (⟨_, .indexAddr _ _ _, _, _, _, none⟩ :: _) _ _ _; first | (refine dg_c (x := _) (h := ro_s (h := n_index rfl (hK := ro_end ⟨rfl, rfl⟩))) (hk := ?_))) | (guard_target =~ dg _ _ _ [] _ _ _; first | (refine dg_nil ?_))) | (guard_target =~ (_ ∨ _) ∧ _; first | ((refine end_d [0] (by rw [Tryd.results97, Lf.res2]) (ale_2 ?_ ?_) ?_) <;> (try (first | exact aleT | exact stq (by with_reducible rfl) | exact stq (by rfl) | exact stq (by simp (disch := omega) only [go_sem, seval, ↓reduceIte, hU]))))) | (refine hK _ _ ?_; clear hK K))
  exact ale_i hv
end Go.Proofs.YtohbfcmmpaikhaaDoor

set_option linter.unusedVariables false
set_option linter.unusedSimpArgs false
namespace Go.Proofs.YtohbfcmmpaikhaaDoor
open Go Go.Lf Go.Proofs
attribute [local irreducible] Lf.rg Lf.ro Lf.PWp Lf.SOp Lf.ACall Lf.Scoped Lf.dg Lf.dw
set_option maxRecDepth 20000
set_option maxHeartbeats 4000000
def clrB (y : UInt8) (j : Nat) : UInt8 := UInt8.ofNat (iandn .u8 (y.toNat : Int) (128 / 2 ^ j)).toNat
def pushB (bs : List UInt8) (k : Nat) (x : Int) : List UInt8 :=
  if x = 0 then (if k % 8 = 0 then bs ++ [255] else bs).set (k / 8) (clrB ((if k % 8 = 0 then bs ++ [255] else bs).getD (k / 8) 0) (k % 8)) else (if k % 8 = 0 then bs ++ [255] else bs)
def rowP (L : List Int) : List UInt8 × Nat := L.foldl (fun p x => (pushB p.1 p.2 x, p.2 + 1)) ([], 0)
def rowB (L : List Int) : List UInt8 := (rowP L).1
def msb (v : Int) : Nat → List Int
  | 0 => []
  | m + 1 => (v / 2 ^ m % 2) :: msb v m
def rpE (v n : Int) : Int := if n < 0 ∨ 32 < n then 1 else if v < 0 ∨ 2 ^ n.toNat ≤ v then 5 else 0
def rpL (L : List Int) (v n : Int) : List Int := if rpE v n = 0 then L ++ msb v n.toNat else L
end Go.Proofs.YtohbfcmmpaikhaaDoor

set_option linter.unusedVariables false
set_option linter.unusedSimpArgs false
namespace Go.Proofs.YtohbfcmmpaikhaaDoor
open Go Go.Lf Go.Proofs
attribute [local irreducible] Lf.rg Lf.ro Lf.PWp Lf.SOp Lf.ACall Lf.Scoped Lf.dg Lf.dw
set_option maxRecDepth 20000
set_option maxHeartbeats 4000000
theorem or_bit (v x : Int) (h0 : 0 ≤ v) (h1 : v ≤ 4294967296) (hx : x = 0 ∨ x = 1) : ior .i64 (v * 2) x = 2 * v + x := by
  obtain ⟨k, rfl⟩ := Int.eq_ofNat_of_zero_le h0
  have key : ((k : Int) * (2 : Int)) = ((k <<< 1 : Nat) : Int) := by rw [Nat.shiftLeft_eq]; omega
  rw [show (k : Int) * (2 : Int) = ((k <<< 1 : Nat) : Int) from key]
  have hk : k <<< 1 < 2 ^ 64 := by rw [Nat.shiftLeft_eq]; omega
  show IntKind.i64.wrap ((BitVec.ofInt 64 ((k <<< 1 : Nat) : Int) ||| BitVec.ofInt 64 x).toNat : Int) = _
  have e : BitVec.ofInt 64 ((k <<< 1 : Nat) : Int) = BitVec.ofNat 64 (k <<< 1) := rfl
  rcases hx with rfl | rfl
  · rw [show BitVec.ofInt 64 0 = BitVec.ofNat 64 0 from rfl, e, BitVec.toNat_or, BitVec.toNat_ofNat, BitVec.toNat_ofNat, Nat.mod_eq_of_lt hk]
    simp only [Nat.zero_mod, Nat.or_zero]
    rw [w64 (by rw [Nat.shiftLeft_eq]; omega), Nat.shiftLeft_eq]; omega
  · rw [show BitVec.ofInt 64 1 = BitVec.ofNat 64 1 from rfl, e, BitVec.toNat_or, BitVec.toNat_ofNat, BitVec.toNat_ofNat, Nat.mod_eq_of_lt hk]
    have h2 : k <<< 1 ||| 1 % 2 ^ 64 = k <<< 1 + 1 := Nat.shiftLeft_add_eq_or_of_lt (b := 1) (i := 1) (by decide) k ▸ rfl
    rw [h2, w64 (by rw [Nat.shiftLeft_eq]; omega), Nat.shiftLeft_eq]; omega
def chunk (L : List Int) (c : Nat) : List Int := (List.range 8).map fun j => L.getD (8 * c + j) 1
def packL (L : List Int) : List UInt8 := (List.range ((L.length + 7) / 8)).map fun c => UInt8.ofNat (numBits (chunk L c)).toNat
end Go.Proofs.YtohbfcmmpaikhaaDoor

set_option linter.unusedVariables false
set_option linter.unusedSimpArgs false
namespace Go.Proofs.YtohbfcmmpaikhaaDoor
open Go Go.Lf Go.Proofs
attribute [local irreducible] Lf.rg Lf.ro Lf.PWp Lf.SOp Lf.ACall Lf.Scoped Lf.dg Lf.dw
set_option maxRecDepth 20000
set_option maxHeartbeats 4000000
def dP (k : Nat) : Int := [(128 : Int), 64, 32, 16, 8, 4, 2, 1, 0].getD k 0
theorem dP_step : ∀ k, k < 8 → 1 ≤ dP k ∧ dP k ≤ 128 ∧ dP k / 2 = dP (k + 1) := by decide
theorem dP_bit (x : UInt8) (k : Nat) (h : k < 8) : (bits8 x)[k]? = some ((x.toNat : Int) / dP k % 2) := by
  rcases (show k = 0 ∨ k = 1 ∨ k = 2 ∨ k = 3 ∨ k = 4 ∨ k = 5 ∨ k = 6 ∨ k = 7 by omega) with rfl | rfl | rfl | rfl | rfl | rfl | rfl | rfl <;> rfl
theorem div_bd5 (n p : Int) (h : 0 ≤ n) (hp : 0 < p) : 0 ≤ n / p ∧ n / p ≤ n := ⟨Int.ediv_nonneg h (by omega), Int.ediv_le_self _ h⟩
theorem bitsL_snoc (b : List UInt8) (x : UInt8) : bitsL (b ++ [x]) = bitsL b ++ bits8 x := by simp [bitsL]
theorem rbits (f q : Bool) (b : List UInt8) (hb : b.length ≤ 100000000000) : AEq Tryd.prog 99 [.sl f q (b.map byteA)] [] (.sl false false ((bitsL b).map intA)) [] := by
  refine acall_body Tryd.func99 rfl Tryd.ntmps99 (by simp) (fun hsc => ?_); simp only [Lf.enter, Nat.reduceAdd]; clear hsc
  have hU := True.intro
  repeat' (first | (guard_target =~ PWp _ _ _ _ _ _ _; first | (refine pwp_seq_k (fun K hK => ?_)) | (refine pwp_block ?_) | (refine pwp_rg_then ?_)) | (guard_target =~ rg _ _ _ _ _ _ _; first | (guard_target =~ rg _ _ _ [] _ _ _; first | (refine rg_end ?_)) | (refine rg_a rfl (h := ?_))) | (refine hK _ _ ?_; clear hK K))
  refine pwp_row 3 3 1 (by decide) (by rfl) rfl rfl ?_
  refine pwp_loop_e [3, 4, 5, 6, 7, 8, 9, 10, 11, 12, 13, 14, 15, 16, 17, 18, 19, 20, 21, 22, 23, 24, 25, 26, 27, 28] (fun s : Nat × Nat => [(3, .row 0 s.2), (4, i64 s.1)]) (fun s => [.row s.2 3 1 ((bitsL (b.take s.1)).map intA)]) (fun s => s.1 ≤ b.length) (fun s => b.length - s.1) (0, 0) (Nat.zero_le _) ?_ rfl ?_
  · (refine ⟨⟨_, sT, ?_⟩, ⟨_, sT, ?_⟩, trivial⟩ <;> (try (first | exact aleT)))
  · rintro ⟨i, s⟩ hi
    simp only [mask, List.map_cons, List.map_nil, List.cons_append, List.nil_append]
    dsimp only at hi ⊢
    by_cases hlt : i < b.length
    · obtain ⟨x, hx⟩ : ∃ x, b[i]? = some x := ⟨b[i], List.getElem?_eq_getElem hlt⟩
      have hxl := x.toNat_lt
      have hts := take_snoc hx
      have hbl := bitsL_len (b.take i)
      rw [List.length_take] at hbl
      repeat' (first | (guard_target =~ PWp _ _ _ _ _ _ _; first | (refine pwp_seq_k (fun K hK => ?_)) | (refine pwp_block ?_) | (refine pwp_rg_then ?_) | (refine pwp_skip ?_) | ((refine pwp_cond_d (fun hcd => ?_) (fun hcd => ?_)) <;> (try simp only [hcP] at hcd) <;> (try exact cdT))) | (guard_target =~ rg _ _ _ _ _ _ _; first | (guard_target =~ rg _ _ _ [] _ _ _; first | (refine rg_end ?_)) | (refine rg_a rfl (h := ?_)) | (refine rg_v rfl (h := ?_)) | (refine rg_s rfl ?_)) | (guard_target =~ SOp _ _ _ _ _ _; first | (guard_target =~ SOp _ _ ⟨_, .indexAddr _ _ _, _, _, _, none⟩ _ _ _; first | (refine n_index rfl (hK := ?_)))) | (refine hK _ _ ?_; clear hK K))
      refine pwp_loop_e [3, 6, 18, 19, 20, 21, 22, 23, 24, 25, 26, 27, 28] (fun t : Nat × Nat => [(3, .row 0 t.2), (6, i64 (dP t.1))]) (fun t => [.row t.2 3 1 ((bitsL (b.take i) ++ (bits8 x).take t.1).map intA)]) (fun t => t.1 ≤ 8) (fun t => 8 - t.1) (0, s) (by omega) ?_ (by first | (simp; done) | fail) ?_
      · (refine ⟨⟨_, sT, ?_⟩, ⟨_, sT, ?_⟩, trivial⟩ <;> (try (first | exact aleT)))
      · rintro ⟨k, t⟩ hk
        simp only [mask, List.map_cons, List.map_nil, List.cons_append, List.nil_append]
        dsimp only at hk ⊢
        by_cases hk8 : k < 8
        · have hd := dP_step k hk8
          have hq := div_bd5 (x.toNat : Int) (dP k) (by omega) (by omega)
          have hts2 := take_snoc (dP_bit x k hk8)
          repeat' (first | (guard_target =~ PWp _ _ _ _ _ _ _; first | (refine pwp_seq_k (fun K hK => ?_)) | (refine pwp_block ?_) | (refine pwp_rg_then ?_) | (refine pwp_rg ?_) | (refine pwp_skip ?_) | ((refine pwp_cond_d (fun hcd => ?_) (fun hcd => ?_)) <;> (try simp only [hcP] at hcd) <;> (try exact cdT))) | (guard_target =~ rg _ _ _ _ _ _ _; first | (guard_target =~ rg _ _ _ [] _ _ _; first | (refine rg_end ?_)) | (refine rg_a rfl (h := ?_)) | (refine rg_v rfl (h := ?_)) | (refine rg_s rfl ?_)) | (guard_target =~ SOp _ _ _ _ _ _; first | (guard_target =~ SOp _ _ ⟨_, .call ⟨.builtin .append, _, _⟩, _, _, _, none⟩ _ _ _; first | (refine n_append_row rfl (he := by first | exact eo3 | exact eo4 | exact eo5 | exact eo22 | exact eo53 | fail) (hK := ?_))) | (guard_target =~ SOp _ _ ⟨_, .buildSlice _ _ _, _, _, _, none⟩ _ _ _; first | (refine n_lit rfl (he := by first | exact eo3 | exact eo4 | exact eo5 | exact eo22 | exact eo53 | fail) (hK := ?_)))) | (refine hK _ _ ?_; clear hK K) | (dsimp only [Lf.thenQ, Lf.blockQ]))
          refine ⟨(k + 1, t + 1), by dsimp only; omega, by dsimp only; omega, ?_, (by repeat' (first | exact agr_refl | refine agr_cons (by rfl) ?_)), by first | (dsimp only; rw [hts2]; simp [intA]; done) | fail⟩
          (refine ⟨⟨_, sT, ?_⟩, ⟨_, sT, ?_⟩, trivial⟩ <;> (try (first | exact aleT)))
          all_goals exact ale_i (by dsimp only; omega)
        · have h8 : k = 8 := by omega
          subst h8
          have hd : dP 8 = 0 := rfl
          have hfin : bitsL (b.take i) ++ (bits8 x).take 8 = bitsL (b.take (i + 1)) := by rw [hts, bitsL_snoc]; rfl
          rw [hfin]
          repeat' (first | (guard_target =~ PWp _ _ _ _ _ _ _; first | (refine pwp_seq_k (fun K hK => ?_)) | (refine pwp_rg_then ?_) | (refine pwp_exit ?_) | ((refine pwp_cond_d (fun hcd => ?_) (fun hcd => ?_)) <;> (try simp only [hcP] at hcd) <;> (try exact cdT))) | (guard_target =~ rg _ _ _ _ _ _ _; first | (guard_target =~ rg _ _ _ [] _ _ _; first | (refine rg_end ?_)) | (refine rg_a rfl (h := ?_)) | (refine rg_v rfl (h := ?_))) | (refine hK _ _ ?_; clear hK K) | (apply_assumption (exfalso := false) (symm := false)))
          refine ⟨(i + 1, t), by dsimp only; omega, by dsimp only; omega, ?_, (by repeat' (first | exact agr_refl | refine agr_cons (by rfl) ?_)), (by first | rfl | (simp (disch := omega) only [go_sem, seval, ↓reduceIte, hU]; done) | (simp (disch := omega) only [go_sem, seval, ↓reduceIte, hU]; rfl))⟩
          (refine ⟨⟨_, sT, ?_⟩, ⟨_, sT, ?_⟩, trivial⟩ <;> (try (first | exact aleT)))
    · repeat' (first | (guard_target =~ PWp _ _ _ _ _ _ _; first | (refine pwp_seq_k (fun K hK => ?_)) | (refine pwp_rg_then ?_) | (refine pwp_ret ?_) | (refine pwp_exit ?_) | ((refine pwp_cond_d (fun hcd => ?_) (fun hcd => ?_)) <;> (try simp only [hcP] at hcd) <;> (try exact cdT))) | (guard_target =~ rg _ _ _ _ _ _ _; first | (guard_target =~ rg _ _ _ [] _ _ _; first | (refine rg_end ?_)) | (refine rg_a rfl (h := ?_)) | (refine rg_v rfl (h := ?_))) | (guard_target =~ (_ ∨ _) ∧ _; first | ((refine end_d [] (by rw [Tryd.results99, Lf.res1]) (ale_1 ?_) ?_) <;> (try (first | exact aleT | exact stq (by with_reducible rfl) | exact stq (by rfl) | exact stq (by simp (disch := omega) only [go_sem, seval, ↓reduceIte, hU]))))) | (refine hK _ _ ?_; clear hK K) | (apply_assumption (exfalso := false) (symm := false)))
      exact ale_eq (by rw [List.take_of_length_le (by omega)])
end Go.Proofs.YtohbfcmmpaikhaaDoor

set_option linter.unusedVariables false
set_option linter.unusedSimpArgs false
namespace Go.Lf
open Go
end Go.Lf
namespace Go.Proofs.YtohbfcmmpaikhaaDoor
open Go Go.Lf Go.Proofs
attribute [local irreducible] Lf.rg Lf.ro Lf.PWp Lf.SOp Lf.ACall Lf.Scoped Lf.dg Lf.dw
set_option maxRecDepth 20000
set_option maxHeartbeats 4000000
def lenT : List UInt8 := [73, 83, 88, 88, 88, 88, 88, 88, 88, 84, 90, 88, 88, 90, 88, 88, 88, 88, 88, 88, 88, 88, 90, 88, 88, 88, 88, 88, 88, 88, 88, 88, 66, 70, 70, 72, 73, 66, 68, 71, 70, 70, 68, 71, 68, 66, 66, 66, 65, 65, 65, 66, 66, 66, 66, 66, 66, 66, 67, 68, 75, 66, 72, 70, 73, 66, 67, 67, 67, 67, 67, 67, 67, 67, 67, 67, 67, 67, 67, 67, 67, 67, 67, 67, 67, 67, 67, 67, 68, 67, 68, 73, 79, 73, 74, 66, 75, 65, 66, 65, 66, 65, 66, 66, 66, 65, 67, 67, 66, 66, 66, 65, 66, 67, 66, 65, 65, 66, 67, 67, 67, 67, 67, 75, 71, 74, 73, 88, 80, 82, 80, 80, 82, 82, 82, 83, 82, 83, 83, 83, 83, 83, 84, 83, 84, 84, 82, 83, 84, 83, 83, 83, 83, 81, 82, 83, 82, 83, 83, 84, 82, 81, 80, 82, 82, 83, 83, 81, 83, 82, 82, 84, 81, 82, 83, 83, 81, 81, 82, 81, 83, 82, 83, 83, 80, 82, 82, 82, 83, 82, 82, 83, 86, 86, 80, 79, 82, 83, 82, 85, 86, 86, 86, 87, 87, 86, 84, 85, 79, 81, 86, 87, 87, 86, 87, 84, 81, 81, 86, 86, 88, 87, 87, 87, 80, 84, 80, 81, 82, 81, 81, 83, 82, 82, 85, 85, 84, 84, 86, 83, 86, 87, 86, 86, 87, 87, 87, 87, 87, 88, 87, 87, 87, 87, 87, 86, 90]
theorem lenT_len : lenT.length = 257 := by decide +kernel
theorem lenT_bd : ∀ i : Fin 257, 65 ≤ (lenT.getD i.val 0).toNat ∧ (lenT.getD i.val 0).toNat ≤ 90 := by decide +kernel
def szI (s : Int) : Int := ((lenT.getD s.toNat 0).toNat : Int) - 60
theorem szI_bd {s : Int} (h0 : 0 ≤ s) (h1 : s ≤ 256) : 5 ≤ szI s ∧ szI s ≤ 30 := by
  have := lenT_bd ⟨s.toNat, by omega⟩
  unfold szI
  dsimp only at this
  omega
theorem lenT_ix {s : Int} (h0 : 0 ≤ s) (h1 : s ≤ 256) : aindex Tryd.prog 9 (.lit (.string ({ data := (((73 :: 83 :: 88 :: 88 :: 88 :: 88 :: 88 :: 88 :: 88 :: 84 :: 90 :: 88 :: 88 :: 90 :: 88 :: 88 :: 88 :: 88 :: 88 :: 88 :: 88 :: 88 :: 90 :: 88 :: 88 :: 88 :: 88 :: 88 :: 88 :: 88 :: 88 :: 88 :: 66 :: 70 :: 70 :: 72 :: 73 :: 66 :: 68 :: 71 :: 70 :: 70 :: 68 :: 71 :: 68 :: 66 :: 66 :: 66 :: 65 :: 65 :: 65 :: 66 :: 66 :: 66 :: 66 :: 66 :: 66 :: 66 :: 67 :: 68 :: 75 :: 66 :: 72 :: 70 :: []).append (73 :: 66 :: 67 :: 67 :: 67 :: 67 :: 67 :: 67 :: 67 :: 67 :: 67 :: 67 :: 67 :: 67 :: 67 :: 67 :: 67 :: 67 :: 67 :: 67 :: 67 :: 67 :: 67 :: 67 :: 68 :: 67 :: 68 :: 73 :: 79 :: 73 :: 74 :: 66 :: 75 :: 65 :: 66 :: 65 :: 66 :: 65 :: 66 :: 66 :: 66 :: 65 :: 67 :: 67 :: 66 :: 66 :: 66 :: 65 :: 66 :: 67 :: 66 :: 65 :: 65 :: 66 :: 67 :: 67 :: 67 :: 67 :: 67 :: 75 :: 71 :: 74 :: 73 :: 88 :: [])).append ((80 :: 82 :: 80 :: 80 :: 82 :: 82 :: 82 :: 83 :: 82 :: 83 :: 83 :: 83 :: 83 :: 83 :: 84 :: 83 :: 84 :: 84 :: 82 :: 83 :: 84 :: 83 :: 83 :: 83 :: 83 :: 81 :: 82 :: 83 :: 82 :: 83 :: 83 :: 84 :: 82 :: 81 :: 80 :: 82 :: 82 :: 83 :: 83 :: 81 :: 83 :: 82 :: 82 :: 84 :: 81 :: 82 :: 83 :: 83 :: 81 :: 81 :: 82 :: 81 :: 83 :: 82 :: 83 :: 83 :: 80 :: 82 :: 82 :: 82 :: 83 :: 82 :: 82 :: 83 :: []).append ((86 :: 86 :: 80 :: 79 :: 82 :: 83 :: 82 :: 85 :: 86 :: 86 :: 86 :: 87 :: 87 :: 86 :: 84 :: 85 :: 79 :: 81 :: 86 :: 87 :: 87 :: 86 :: 87 :: 84 :: 81 :: 81 :: 86 :: 86 :: 88 :: 87 :: 87 :: 87 :: []).append (80 :: 84 :: 80 :: 81 :: 82 :: 81 :: 81 :: 83 :: 82 :: 82 :: 85 :: 85 :: 84 :: 84 :: 86 :: 83 :: 86 :: 87 :: 86 :: 86 :: 87 :: 87 :: 87 :: 87 :: 87 :: 88 :: 87 :: 87 :: 87 :: 87 :: 87 :: 86 :: 90 :: [])))).toArray }))) (.lit (.int .i64 s)) = some (.lit (.int .u8 ((lenT.getD s.toNat 0).toNat : Nat))) := by
  have hd : ({ data := (((73 :: 83 :: 88 :: 88 :: 88 :: 88 :: 88 :: 88 :: 88 :: 84 :: 90 :: 88 :: 88 :: 90 :: 88 :: 88 :: 88 :: 88 :: 88 :: 88 :: 88 :: 88 :: 90 :: 88 :: 88 :: 88 :: 88 :: 88 :: 88 :: 88 :: 88 :: 88 :: 66 :: 70 :: 70 :: 72 :: 73 :: 66 :: 68 :: 71 :: 70 :: 70 :: 68 :: 71 :: 68 :: 66 :: 66 :: 66 :: 65 :: 65 :: 65 :: 66 :: 66 :: 66 :: 66 :: 66 :: 66 :: 66 :: 67 :: 68 :: 75 :: 66 :: 72 :: 70 :: []).append (73 :: 66 :: 67 :: 67 :: 67 :: 67 :: 67 :: 67 :: 67 :: 67 :: 67 :: 67 :: 67 :: 67 :: 67 :: 67 :: 67 :: 67 :: 67 :: 67 :: 67 :: 67 :: 67 :: 67 :: 68 :: 67 :: 68 :: 73 :: 79 :: 73 :: 74 :: 66 :: 75 :: 65 :: 66 :: 65 :: 66 :: 65 :: 66 :: 66 :: 66 :: 65 :: 67 :: 67 :: 66 :: 66 :: 66 :: 65 :: 66 :: 67 :: 66 :: 65 :: 65 :: 66 :: 67 :: 67 :: 67 :: 67 :: 67 :: 75 :: 71 :: 74 :: 73 :: 88 :: [])).append ((80 :: 82 :: 80 :: 80 :: 82 :: 82 :: 82 :: 83 :: 82 :: 83 :: 83 :: 83 :: 83 :: 83 :: 84 :: 83 :: 84 :: 84 :: 82 :: 83 :: 84 :: 83 :: 83 :: 83 :: 83 :: 81 :: 82 :: 83 :: 82 :: 83 :: 83 :: 84 :: 82 :: 81 :: 80 :: 82 :: 82 :: 83 :: 83 :: 81 :: 83 :: 82 :: 82 :: 84 :: 81 :: 82 :: 83 :: 83 :: 81 :: 81 :: 82 :: 81 :: 83 :: 82 :: 83 :: 83 :: 80 :: 82 :: 82 :: 82 :: 83 :: 82 :: 82 :: 83 :: []).append ((86 :: 86 :: 80 :: 79 :: 82 :: 83 :: 82 :: 85 :: 86 :: 86 :: 86 :: 87 :: 87 :: 86 :: 84 :: 85 :: 79 :: 81 :: 86 :: 87 :: 87 :: 86 :: 87 :: 84 :: 81 :: 81 :: 86 :: 86 :: 88 :: 87 :: 87 :: 87 :: []).append (80 :: 84 :: 80 :: 81 :: 82 :: 81 :: 81 :: 83 :: 82 :: 82 :: 85 :: 85 :: 84 :: 84 :: 86 :: 83 :: 86 :: 87 :: 86 :: 86 :: 87 :: 87 :: 87 :: 87 :: 87 :: 88 :: 87 :: 87 :: 87 :: 87 :: 87 :: 86 :: 90 :: [])))).toArray } : ByteArray).data = lenT.toArray := by kernel_rfl
  generalize ({ data := (((73 :: 83 :: 88 :: 88 :: 88 :: 88 :: 88 :: 88 :: 88 :: 84 :: 90 :: 88 :: 88 :: 90 :: 88 :: 88 :: 88 :: 88 :: 88 :: 88 :: 88 :: 88 :: 90 :: 88 :: 88 :: 88 :: 88 :: 88 :: 88 :: 88 :: 88 :: 88 :: 66 :: 70 :: 70 :: 72 :: 73 :: 66 :: 68 :: 71 :: 70 :: 70 :: 68 :: 71 :: 68 :: 66 :: 66 :: 66 :: 65 :: 65 :: 65 :: 66 :: 66 :: 66 :: 66 :: 66 :: 66 :: 66 :: 67 :: 68 :: 75 :: 66 :: 72 :: 70 :: []).append (73 :: 66 :: 67 :: 67 :: 67 :: 67 :: 67 :: 67 :: 67 :: 67 :: 67 :: 67 :: 67 :: 67 :: 67 :: 67 :: 67 :: 67 :: 67 :: 67 :: 67 :: 67 :: 67 :: 67 :: 68 :: 67 :: 68 :: 73 :: 79 :: 73 :: 74 :: 66 :: 75 :: 65 :: 66 :: 65 :: 66 :: 65 :: 66 :: 66 :: 66 :: 65 :: 67 :: 67 :: 66 :: 66 :: 66 :: 65 :: 66 :: 67 :: 66 :: 65 :: 65 :: 66 :: 67 :: 67 :: 67 :: 67 :: 67 :: 75 :: 71 :: 74 :: 73 :: 88 :: [])).append ((80 :: 82 :: 80 :: 80 :: 82 :: 82 :: 82 :: 83 :: 82 :: 83 :: 83 :: 83 :: 83 :: 83 :: 84 :: 83 :: 84 :: 84 :: 82 :: 83 :: 84 :: 83 :: 83 :: 83 :: 83 :: 81 :: 82 :: 83 :: 82 :: 83 :: 83 :: 84 :: 82 :: 81 :: 80 :: 82 :: 82 :: 83 :: 83 :: 81 :: 83 :: 82 :: 82 :: 84 :: 81 :: 82 :: 83 :: 83 :: 81 :: 81 :: 82 :: 81 :: 83 :: 82 :: 83 :: 83 :: 80 :: 82 :: 82 :: 82 :: 83 :: 82 :: 82 :: 83 :: []).append ((86 :: 86 :: 80 :: 79 :: 82 :: 83 :: 82 :: 85 :: 86 :: 86 :: 86 :: 87 :: 87 :: 86 :: 84 :: 85 :: 79 :: 81 :: 86 :: 87 :: 87 :: 86 :: 87 :: 84 :: 81 :: 81 :: 86 :: 86 :: 88 :: 87 :: 87 :: 87 :: []).append (80 :: 84 :: 80 :: 81 :: 82 :: 81 :: 81 :: 83 :: 82 :: 82 :: 85 :: 85 :: 84 :: 84 :: 86 :: 83 :: 86 :: 87 :: 86 :: 86 :: 87 :: 87 :: 87 :: 87 :: 87 :: 88 :: 87 :: 87 :: 87 :: 87 :: 87 :: 86 :: 90 :: [])))).toArray } : ByteArray) = str at hd ⊢
  unfold aindex
  rw [show Tryd.prog.underlying 9 = some .string from by rfl]
  dsimp only
  have hs : str.size = lenT.length := by rw [show str.size = str.data.size from rfl, hd]; simp
  have hj : s.toNat < lenT.length := by rw [lenT_len]; omega
  rw [if_pos ⟨h0, by rw [hs, lenT_len]; omega⟩, hd]
  congr 4
  simp [Array.getD, List.getD, hj]
theorem csize (s : Int) (h0 : 0 ≤ s) (h1 : s ≤ 256) : AEq Tryd.prog 121 [i64 s] [] (i64 (szI s)) [] := by
  have hb := lenT_bd ⟨s.toNat, by omega⟩
  dsimp only at hb
  have hsz : szI s = ((lenT.getD s.toNat 0).toNat : Int) - 60 := rfl
  rw [hsz]
  have hix := lenT_ix h0 h1
  obtain ⟨x, hx⟩ : ∃ x, lenT.getD s.toNat 0 = x := ⟨_, rfl⟩
  rw [hx] at hb hix ⊢
  simp only [go_sem, seval, ↓reduceIte] at hix
  refine acall_body Tryd.func121 rfl Tryd.ntmps121 (by simp) (fun hsc => ?_); simp only [Lf.enter, Nat.reduceAdd]; clear hsc
  have hU := @hix
  repeat' (first | (guard_target =~ PWp _ _ _ _ _ _ _; first | (refine pwp_seq_k (fun K hK => ?_)) | (refine pwp_rg_then ?_) | (refine pwp_ret ?_)) | (guard_target =~ rg _ _ _ _ _ _ _; first | (guard_target =~ rg _ _ _ [] _ _ _; first | (refine rg_end ?_)) | (refine rg_a rfl (h := ?_)) | (refine rg_v rfl (h := ?_))) | (guard_target =~ (_ ∨ _) ∧ _; first | ((refine end_d [] (by rw [Tryd.results121, Lf.res1]) (ale_1 ?_) ?_) <;> (try (first | exact aleT | exact stq (by with_reducible rfl) | exact stq (by rfl) | exact stq (by simp (disch := omega) only [go_sem, seval, ↓reduceIte, hU]))))) | (refine hK _ _ ?_; clear hK K))
  all_goals exact ale_i (by omega)
end Go.Proofs.YtohbfcmmpaikhaaDoor

set_option linter.unusedVariables false
set_option linter.unusedSimpArgs false
namespace Go.Proofs.YtohbfcmmpaikhaaDoor
open Go Go.Lf Go.Proofs
attribute [local irreducible] Lf.rg Lf.ro Lf.PWp Lf.SOp Lf.ACall Lf.Scoped Lf.dg Lf.dw
set_option maxRecDepth 20000
set_option maxHeartbeats 4000000
structure Bk where
  (codes : List Int) (o : AV) (first count base : List Int)
def nA (n : Int) : AV := i64 n
def bkA (b : Bk) : List AV := bl true :: (b.codes.map nA ++ b.o :: (b.first.map nA ++ (b.count.map nA ++ b.base.map nA)))
structure WfB (b : Bk) : Prop where
  c : b.codes.length = 257
  f : b.first.length = 31
  n : b.count.length = 31
  b : b.base.length = 31
theorem bkA_len {b : Bk} (h : WfB b) : (bkA b).length = 352 := by
  obtain ⟨h1, h2, h3, h4⟩ := h
  unfold bkA; simp [h1, h2, h3, h4]
theorem put_app {α : Type} (a c : List AV) (k : Nat) (v : AV) : putCells (a ++ c) (a.length + k) [v] = a ++ putCells c k [v] := by
  unfold putCells
  rw [List.take_append, List.drop_append, List.take_of_length_le (by omega), show a.length + k - a.length = k from by omega, List.drop_of_length_le (by simp; omega), List.nil_append]
  simp only [List.append_assoc, List.length_cons, List.length_nil]
  congr 4; omega
theorem put_map (l : List Int) (k : Nat) (r : List AV) (v : Int) (h : k < l.length) : putCells (l.map nA ++ r) k [nA v] = (l.set k v).map nA ++ r := by
  unfold putCells
  rw [List.take_append_of_le_length (by simp; omega), List.drop_append_of_le_length (by simp; omega), List.map_set, List.set_eq_take_append_cons_drop, if_pos (by simpa using h)]
  simp
theorem bk_count {b : Bk} (h : WfB b) {n : Nat} (hn : n < 31) (v : Int) : putCells (bkA b) (290 + n) [nA v] = bkA { b with count := b.count.set n v } := by
  obtain ⟨h1, h2, h3, h4⟩ := h
  have e : bkA b = (bl true :: (b.codes.map nA ++ b.o :: b.first.map nA)) ++ (b.count.map nA ++ b.base.map nA) := by unfold bkA; simp
  have hl : (bl true :: (b.codes.map nA ++ b.o :: b.first.map nA)).length = 290 := by simp [h1, h2]
  rw [e, ← hl, put_app (α := Nat), put_map _ _ _ _ (by omega)]
  unfold bkA; simp
theorem bk_count_at {b : Bk} (h : WfB b) {n : Nat} {v : Int} (hv : b.count[n]? = some v) : (bkA b)[290 + n]? = some (nA v) := by
  obtain ⟨h1, h2, h3, h4⟩ := h
  have e : bkA b = (bl true :: (b.codes.map nA ++ b.o :: b.first.map nA)) ++ (b.count.map nA ++ b.base.map nA) := by unfold bkA; simp
  have hl : (bl true :: (b.codes.map nA ++ b.o :: b.first.map nA)).length = 290 := by simp [h1, h2]
  have hn : n < b.count.length := (List.getElem?_eq_some_iff.1 hv).1
  rw [e, ← hl, List.getElem?_append_right (by omega), show ∀ m : Nat, m + n - m = n from fun m => by omega, List.getElem?_append_left (by simpa using hn), List.getElem?_map, hv]; rfl
def cntN (k : Nat) (n : Nat) : Int := (((List.range k).filter (fun s : Nat => decide (szI (s : Int) = (n : Int)))).length : Int)
theorem cntN_bd {k n : Nat} (h : k ≤ 257) : 0 ≤ cntN k n ∧ cntN k n ≤ 257 := by
  unfold cntN
  have := List.length_filter_le (fun s : Nat => decide (szI (s : Int) = (n : Int))) (List.range k)
  rw [List.length_range] at this
  omega
def cntL (k : Nat) : List Int := (List.range 31).map (cntN k)
theorem cntN_succ (k n : Nat) : cntN (k + 1) n = cntN k n + if szI (k : Int) = n then 1 else 0 := by
  unfold cntN
  rw [List.range_succ, List.filter_append, List.length_append]
  by_cases h : szI (k : Int) = n
  · simp [h]
  · simp [h]
theorem cntL_set (k n : Nat) (hn : n < 31) (h : szI (k : Int) = n) : (cntL k).set n (cntN k n + 1) = cntL (k + 1) := by
  apply List.ext_getElem?
  intro i
  unfold cntL
  by_cases hi : i < 31
  · by_cases e : i = n
    · subst e
      rw [List.getElem?_set_self (by simpa using hi), List.getElem?_map, List.getElem?_range hi, Option.map_some, cntN_succ, if_pos h]
    · rw [List.getElem?_set_ne (fun c => e c.symm), List.getElem?_map, List.getElem?_map, List.getElem?_range hi, Option.map_some, Option.map_some, cntN_succ, if_neg (by rw [h]; omega), Int.add_zero]
  · rw [List.getElem?_eq_none (by simp; omega), List.getElem?_eq_none (by simp; omega)]
def z257 : List Int := List.replicate 257 0
def z31 : List Int := List.replicate 31 0
def b1 (k : Nat) : Bk := ⟨z257, .sl true false [], z31, cntL k, z31⟩
theorem b1_wf (k : Nat) : WfB (b1 k) := ⟨by simp [b1, z257], by simp [b1, z31], by simp [b1, cntL], by simp [b1, z31]⟩
theorem bk_codes {b : Bk} (h : WfB b) {n : Nat} (hn : n < 257) (v : Int) : putCells (bkA b) (1 + n) [nA v] = bkA { b with codes := b.codes.set n v } := by
  obtain ⟨h1, h2, h3, h4⟩ := h
  have e : bkA b = [bl true] ++ (b.codes.map nA ++ (b.o :: (b.first.map nA ++ (b.count.map nA ++ b.base.map nA)))) := by unfold bkA; simp
  have hl : ([bl true] : List AV).length = 1 := rfl
  rw [e, ← hl, put_app (α := Nat), put_map _ _ _ _ (by omega)]
  unfold bkA; simp
theorem bk_o {b : Bk} (h : WfB b) (x : AV) : putCells (bkA b) 258 [x] = bkA { b with o := x } := by
  obtain ⟨h1, h2, h3, h4⟩ := h
  have e : bkA b = (bl true :: b.codes.map nA) ++ (b.o :: (b.first.map nA ++ (b.count.map nA ++ b.base.map nA))) := by unfold bkA; simp
  have hl : (bl true :: b.codes.map nA).length = 258 := by simp [h1]
  rw [e, show (258 : Nat) = (bl true :: b.codes.map nA).length + 0 from by rw [hl], put_app (α := Nat)]
  unfold bkA putCells; simp
theorem bk_o_at {b : Bk} (h : WfB b) : (bkA b)[258]? = some b.o := by
  obtain ⟨h1, h2, h3, h4⟩ := h
  have e : bkA b = (bl true :: b.codes.map nA) ++ (b.o :: (b.first.map nA ++ (b.count.map nA ++ b.base.map nA))) := by unfold bkA; simp
  have hl : (bl true :: b.codes.map nA).length = 258 := by simp [h1]
  rw [e, List.getElem?_append_right (by omega), hl]; rfl
theorem bk_set_o {b : Bk} (h : WfB b) {x : AV} : (bkA b).set 258 x = bkA { b with o := x } := by
  have h1 := h.c
  have hl : (b.codes.map nA).length = 257 := by simp [h1]
  unfold bkA
  rw [List.set_cons_succ, List.set_append_right _ _ (by omega), hl]; rfl
theorem bk_first {b : Bk} (h : WfB b) {n : Nat} (hn : n < 31) (v : Int) : putCells (bkA b) (259 + n) [nA v] = bkA { b with first := b.first.set n v } := by
  obtain ⟨h1, h2, h3, h4⟩ := h
  have e : bkA b = (bl true :: (b.codes.map nA ++ [b.o])) ++ (b.first.map nA ++ (b.count.map nA ++ b.base.map nA)) := by unfold bkA; simp
  have hl : (bl true :: (b.codes.map nA ++ [b.o])).length = 259 := by simp [h1]
  rw [e, ← hl, put_app (α := Nat), put_map _ _ _ _ (by omega)]
  unfold bkA; simp
theorem bk_base {b : Bk} (h : WfB b) {n : Nat} (hn : n < 31) (v : Int) : putCells (bkA b) (321 + n) [nA v] = bkA { b with base := b.base.set n v } := by
  obtain ⟨h1, h2, h3, h4⟩ := h
  have e : bkA b = (bl true :: (b.codes.map nA ++ b.o :: (b.first.map nA ++ b.count.map nA))) ++ (b.base.map nA ++ []) := by unfold bkA; simp
  have hl : (bl true :: (b.codes.map nA ++ b.o :: (b.first.map nA ++ b.count.map nA))).length = 321 := by simp [h1, h2, h3]
  rw [e, ← hl, put_app (α := Nat), put_map _ _ _ _ (by omega)]
  unfold bkA; simp
theorem rset {N : Nat} {f g : Nat → Int} {n : Nat} {v : Int} (hn : n < N) (hv : g n = v) (hg : ∀ i : Nat, ¬ i = n → f i = g i) : ((List.range N).map f).set n v = (List.range N).map g := by
  apply List.ext_getElem?
  intro i
  by_cases hi : i < N
  · by_cases e : i = n
    · subst e
      rw [List.getElem?_set_self (by simpa using hi), List.getElem?_map, List.getElem?_range hi, Option.map_some, hv]
    · rw [List.getElem?_set_ne (fun c => e c.symm), List.getElem?_map, List.getElem?_map, List.getElem?_range hi, Option.map_some, Option.map_some, hg i e]
  · rw [List.getElem?_eq_none (by simp; omega), List.getElem?_eq_none (by simp; omega)]
def codeN : Nat → Int
  | 0 => 0
  | n + 1 => codeN n * 2 + cntN 257 n
theorem codeN_bd : ∀ n : Fin 32, 0 ≤ codeN n.val ∧ codeN n.val ≤ 4294967296 := by decide +kernel
def symK (n k : Nat) : List Nat := (List.range k).filter (fun s : Nat => decide (szI (s : Int) = (n : Int)))
def ordN : Nat → List Nat
  | 0 => []
  | n + 1 => ordN n ++ symK n 257
theorem ordN_len : ∀ n : Fin 32, (ordN n.val).length ≤ 257 := by decide +kernel
theorem symK_succ (n k : Nat) : symK n (k + 1) = symK n k ++ if szI (k : Int) = n then [k] else [] := by
  unfold symK
  rw [List.range_succ, List.filter_append]
  by_cases h : szI (k : Int) = n
  · simp [h]
  · simp [h]
theorem symK_le (n k : Nat) : (symK n k).length ≤ k := by
  unfold symK
  have := List.length_filter_le (fun s : Nat => decide (szI (s : Int) = (n : Int))) (List.range k)
  rwa [List.length_range] at this
def csI (s : Nat) : Int := codeN (szI (s : Int)).toNat * 2 + cntN s (szI (s : Int)).toNat
def codesL (n k : Nat) : List Int := (List.range 257).map fun s : Nat => if szI (s : Int) < n ∨ (szI (s : Int) = n ∧ s < k) then csI s else 0
def firstL (n : Nat) : List Int := (List.range 31).map fun i : Nat => if 1 ≤ i ∧ i < n then codeN i * 2 else 0
def baseL (n : Nat) : List Int := (List.range 31).map fun i : Nat => if 1 ≤ i ∧ i < n then ((ordN i).length : Int) else 0
@[go_sem] def natA (s : Nat) : List AV := [i64 (s : Int)]
theorem symK_0 (n : Nat) : symK n 0 = [] := rfl
theorem cntN_0 (n : Nat) : cntN 0 n = 0 := rfl
theorem cntN_le {k n : Nat} (h : k ≤ 257) : 0 ≤ cntN k n ∧ cntN k n ≤ 257 := cntN_bd h
@[go_sem] theorem purl_nat (l : List Nat) : purl (l.map natA).flatten = true := purl_map (fun a => by simp [natA, purl, pur]) l
@[go_sem] theorem fz_mapnat {κ : List Nat} {σ : Sto} (l : List Nat) : List.map (fzl κ σ) (l.map natA) = l.map natA := fz_mapg (fun _ => rfl) l
def b2 (n k st m m2 : Nat) : Bk := ⟨codesL n k, .row 1 st, firstL m, cntL 257, baseL m2⟩
theorem b2_wf (n k st m m2 : Nat) : WfB (b2 n k st m m2) := ⟨by simp [b2, codesL], by simp [b2, firstL], by simp [b2, cntL], by simp [b2, baseL]⟩
@[go_sem] theorem fz_b2 {σ : Sto} (n k st m m2 : Nat) : fzl [0, 1] σ (bkA (b2 n k st m m2)) = bkA (b2 n k st m m2) := by
  rw [fzl_map]
  unfold bkA b2
  have h : ∀ l : List Int, (l.map nA).map (fz [0, 1] σ) = l.map nA := by
    intro l; rw [List.map_map]; exact List.map_congr_left (fun _ _ => rfl)
  simp only [List.map_cons, List.map_append, h]
  rfl
theorem firstL_set {n : Nat} (h1 : 1 ≤ n) (h : n < 31) : (firstL n).set n (codeN n * 2) = firstL (n + 1) := by
  unfold firstL
  refine rset h (if_pos ⟨h1, by omega⟩) (fun i hi => ?_)
  by_cases c : 1 ≤ i ∧ i < n
  · rw [if_pos c, if_pos ⟨c.1, by omega⟩]
  · rw [if_neg c, if_neg (by omega)]
theorem baseL_set {n : Nat} (h1 : 1 ≤ n) (h : n < 31) : (baseL n).set n ((ordN n).length : Int) = baseL (n + 1) := by
  unfold baseL
  refine rset h (if_pos ⟨h1, by omega⟩) (fun i hi => ?_)
  by_cases c : 1 ≤ i ∧ i < n
  · rw [if_pos c, if_pos ⟨c.1, by omega⟩]
  · rw [if_neg c, if_neg (by omega)]
theorem codesL_set {n k : Nat} (hk : k < 257) (h : szI (k : Int) = n) : (codesL n k).set k (codeN n * 2 + cntN k n) = codesL n (k + 1) := by
  unfold codesL
  refine rset hk ?_ (fun i hi => ?_)
  · rw [if_pos (.inr ⟨h, by omega⟩)]
    unfold csI
    rw [h]; rfl
  · by_cases c : szI (i : Int) < n ∨ (szI (i : Int) = n ∧ i < k)
    · rw [if_pos c, if_pos (by omega)]
    · rw [if_neg c, if_neg (by omega)]
theorem codesL_not {n k : Nat} (h : ¬ szI (k : Int) = n) : codesL n (k + 1) = codesL n k := by
  unfold codesL
  apply List.map_congr_left
  intro i _
  by_cases e : i = k
  · subst e
    by_cases c : szI (i : Int) < n
    · rw [if_pos (.inl c), if_pos (.inl c)]
    · rw [if_neg (by omega), if_neg (by omega)]
  · by_cases c : szI (i : Int) < n ∨ (szI (i : Int) = n ∧ i < k)
    · rw [if_pos c, if_pos (by omega)]
    · rw [if_neg c, if_neg (by omega)]
theorem codesL_next (n : Nat) : codesL n 257 = codesL (n + 1) 0 := by
  unfold codesL
  apply List.map_congr_left
  intro i hi
  have hi : i < 257 := by simpa using hi
  by_cases c : szI (i : Int) < n ∨ (szI (i : Int) = n ∧ i < 257)
  · rw [if_pos c, if_pos (by omega)]
  · rw [if_neg c, if_neg (by omega)]
theorem codesL_one : codesL 1 0 = z257 := by decide +kernel
theorem firstL_one : firstL 1 = z31 := by decide +kernel
theorem baseL_one : baseL 1 = z31 := by decide +kernel
theorem ordN_one : ordN 1 = [] := by decide +kernel
theorem codeN_succ (n : Nat) : codeN (n + 1) = codeN n * 2 + cntN 257 n := rfl
theorem ordN_succ (n : Nat) : ordN (n + 1) = ordN n ++ symK n 257 := rfl
theorem ordN_31 : (ordN 31).length = 257 := by decide +kernel
theorem codeN_one : codeN 1 = 0 := by decide +kernel
attribute [local irreducible] bkA cntN codeN ordN symK codesL firstL baseL cntL
set_option maxRecDepth 20000 in
set_option maxHeartbeats 40000000 in
theorem cmake : AEq Tryd.prog 95 [] [] (.ptr 0 0) [.box (bkA (b2 31 0 257 31 31)), .row 257 3 1 ((ordN 31).map natA)] := by
  refine acall_body Tryd.func95 rfl Tryd.ntmps95 (by simp) (fun hsc => ?_); simp only [Lf.enter, Nat.reduceAdd]; clear hsc
  have hU := True.intro
  repeat' (first | (guard_target =~ PWp _ _ _ _ _ _ _; first | (refine pwp_seq_k (fun K hK => ?_)) | (refine pwp_block ?_) | (refine pwp_rg_then ?_)) | (guard_target =~ rg _ _ _ _ _ _ _; first | (guard_target =~ rg _ _ _ [] _ _ _; first | (refine rg_end ?_)) | (refine rg_a rfl (h := ?_)) | (refine rg_v rfl (h := ?_)) | (refine rg_s rfl ?_)) | (guard_target =~ SOp _ _ _ _ _ _; first | (guard_target =~ SOp _ _ ⟨_, .box _ _, _, _, _, none⟩ _ _ _; first | (refine n_box rfl (hK := ?_))) | (guard_target =~ SOp _ _ ⟨_, .build _ _, _, _, _, none⟩ _ _ _; first | (refine n_build rfl (by first | exact bd168 | exact bd169 | exact bd171 | fail) (hK := ?_)))) | (refine hK _ _ ?_; clear hK K))
  refine pwp_loop_e [2, 8, 9, 10, 11, 12, 13, 14, 15, 16, 17, 18, 19, 20, 21, 22] (fun k : Nat => [(8, i64 k)]) (fun k => [.box (bkA (b1 k))]) (fun k => k ≤ 257) (fun k => 257 - k) 0 (Nat.zero_le _) ?_ (by with_unfolding_all rfl) ?_
  · (refine ⟨⟨_, sT, ?_⟩, trivial⟩ <;> (try (first | exact aleT)))
  · rintro k hk
    simp only [mask, List.map_cons, List.map_nil, List.cons_append, List.nil_append]
    by_cases hlt : k < 257
    · have hsb := szI_bd (s := (k : Int)) (by omega) (by omega)
      obtain ⟨n, hn⟩ : ∃ n : Nat, szI (k : Int) = n := ⟨(szI (k : Int)).toNat, by omega⟩
      have hn31 : n < 31 := by omega
      have hcl : (cntL k)[n]? = some (cntN k n) := by unfold cntL; rw [List.getElem?_map, List.getElem?_range hn31]; rfl
      have hget : (bkA (b1 k))[290 + n * 1]? = some (i64 (cntN k n)) := by rw [Nat.mul_one]; exact bk_count_at (b1_wf k) hcl
      have hput : List.take (290 + n * 1) (bkA (b1 k)) ++ [i64 (cntN k n + 1)] ++ List.drop (290 + n * 1 + 1) (bkA (b1 k)) = bkA (b1 (k + 1)) := by
        rw [Nat.mul_one]
        refine (show _ = putCells (bkA (b1 k)) (290 + n) [nA (cntN k n + 1)] from rfl).trans ((bk_count (b1_wf k) hn31 (cntN k n + 1)).trans ?_)
        show bkA ⟨z257, .sl true false [], z31, (cntL k).set n (cntN k n + 1), z31⟩ = _
        rw [cntL_set k n hn31 hn]; rfl
      have hlen := bkA_len (b1_wf k)
      have hcb : 0 ≤ cntN k n ∧ cntN k n ≤ 257 := cntN_bd (by omega)
      have hle : (290 + n * 1 + 1 ≤ 352) = True := by simp; omega
      have hle2 : (290 + n * 1 + (0 + 1) ≤ 352) = True := by simp; omega
      have hU := And.intro @hn ( And.intro @hget ( And.intro @hput ( And.intro @hlen ( And.intro @hle (@hle2)))))
      repeat' (first | (guard_target =~ PWp _ _ _ _ _ _ _; first | (refine pwp_draw_ord_end (id := 5) [0, 1, 2, 3, 4, 5, 6, 7, 8, 9, 10, 11] [11] mixed (by kernel_rfl) (by kernel_rfl) ?_) | (refine pwp_seq_k (fun K hK => ?_)) | (refine pwp_block ?_) | (refine pwp_rg_then ?_) | (refine pwp_skip ?_) | ((refine pwp_cond_d (fun hcd => ?_) (fun hcd => ?_)) <;> (try simp only [hcP] at hcd) <;> (try exact cdT))) | (guard_target =~ rg _ _ _ _ _ _ _; first | (guard_target =~ rg _ _ _ [] _ _ _; first | (refine rg_end ?_)) | (refine rg_a rfl (h := ?_)) | (refine rg_v rfl (h := ?_))) | (guard_target =~ dw _ _ _ _ _ _ _ _ _ _; first | ((first | guard_target =~ dw _ _ _ _ _ (0 :: _) _ _ _ _ | guard_target =~ dw _ _ _ _ _ (1 :: _) _ _ _ _ | guard_target =~ dw _ _ _ _ _ (2 :: _) _ _ _ _); first | (refine dw_p rfl rfl (h := (fun τ => ro_v rfl (h := ro_end ⟨rfl, rfl⟩))) (hk := ?_)) | (refine dw_c rfl rfl (h := ro_v rfl (h := ro_end ⟨rfl, rfl⟩)) (hk := ?_))) | (guard_target =~ dw _ _ _ _ _ (2 :: _) _ _ _ _; first | (refine dw_p rfl rfl (h := (fun τ => ro_s (h := n_call (f := 121) rfl Tryd.call121 (h := AEq.pure' agT (csize _ (by omega) (by omega)) (hq := ro_end ⟨rfl, rfl⟩))))) (hk := ?_))) | ((first | guard_target =~ dw _ _ _ _ _ (3 :: _) _ _ _ _ | guard_target =~ dw _ _ _ _ _ (7 :: _) _ _ _ _ | guard_target =~ dw _ _ _ _ _ (8 :: _) _ _ _ _); first | (refine dw_p rfl rfl (h := (fun τ => ro_v rfl (h := ro_end ⟨rfl, rfl⟩))) (hk := ?_)) | (refine dw_c rfl rfl (h := ro_v rfl (h := ro_end ⟨rfl, rfl⟩)) (hk := ?_))) | ((first | guard_target =~ dw _ _ _ _ _ (4 :: _) _ _ _ _ | guard_target =~ dw _ _ _ _ _ (8 :: _) _ _ _ _ | guard_target =~ dw _ _ _ _ _ (9 :: _) _ _ _ _); first | (refine dw_p rfl rfl (h := (fun τ => ro_v rfl (h := ro_end ⟨rfl, rfl⟩))) (hk := ?_)) | (refine dw_c rfl rfl (h := ro_v rfl (h := ro_end ⟨rfl, rfl⟩)) (hk := ?_))) | ((first | guard_target =~ dw _ _ _ _ _ (5 :: _) _ _ _ _ | guard_target =~ dw _ _ _ _ _ (9 :: _) _ _ _ _ | guard_target =~ dw _ _ _ _ _ (10 :: _) _ _ _ _); first | (refine dw_c rfl rfl (h := ro_s (h := n_index_arr rfl (hK := ro_end ⟨rfl, rfl⟩))) (hk := ?_))) | ((first | guard_target =~ dw _ _ _ _ _ (5 :: _) _ _ _ _ | guard_target =~ dw _ _ _ _ _ (6 :: _) _ _ _ _); first | (refine dw_p rfl rfl (h := (fun τ => ro_v rfl (h := ro_end ⟨rfl, rfl⟩))) (hk := ?_)) | (refine dw_c rfl rfl (h := ro_v rfl (h := ro_end ⟨rfl, rfl⟩)) (hk := ?_))) | (guard_target =~ dw _ _ _ _ _ (7 :: _) _ _ _ _; first | (refine dw_p rfl rfl (h := (fun τ => ro_v rfl (h := ro_end ⟨rfl, rfl⟩))) (hk := ?_)) | (refine dw_c rfl rfl (h := ro_v rfl (h := ro_end ⟨rfl, rfl⟩)) (hk := ?_))) | ((first | guard_target =~ dw _ _ _ _ _ (10 :: _) _ _ _ _ | guard_target =~ dw _ _ _ _ _ (11 :: _) _ _ _ _); first | (refine dw_wn rfl rfl (h := ro_n (h := n_store rfl (hK := ro_end ⟨rfl, rfl⟩))) (hk := ?_))) | (guard_target =~ dw _ _ _ _ _ (6 :: _) _ _ _ _; first | (refine dw_p rfl rfl (h := (fun τ => ro_v rfl (h := ro_end ⟨rfl, rfl⟩))) (hk := ?_)) | (refine dw_c rfl rfl (h := ro_v rfl (h := ro_end ⟨rfl, rfl⟩)) (hk := ?_))) | (guard_target =~ dw _ _ _ _ _ [] _ _ _ _; first | (refine dw_nil ?_))) | (refine hK _ _ ?_; clear hK K))
      refine ⟨k + 1, by omega, by omega, ?_, (by repeat' (first | exact agr_refl | refine agr_cons (by rfl) ?_)), (by first | rfl | (simp (disch := omega) only [go_sem, seval, ↓reduceIte, hU]; done) | (simp (disch := omega) only [go_sem, seval, ↓reduceIte, hU]; rfl))⟩
      (refine ⟨⟨_, sT, ?_⟩, trivial⟩ <;> (try (first | exact aleT)))
    · have hk7 : k = 257 := by omega
      subst hk7
      repeat' (first | (guard_target =~ PWp _ _ _ _ _ _ _; first | (refine pwp_seq_k (fun K hK => ?_)) | (refine pwp_block ?_) | (refine pwp_rg_then ?_) | (refine pwp_exit ?_) | ((refine pwp_cond_d (fun hcd => ?_) (fun hcd => ?_)) <;> (try simp only [hcP] at hcd) <;> (try exact cdT))) | (guard_target =~ rg _ _ _ _ _ _ _; first | (guard_target =~ rg _ _ _ [] _ _ _; first | (refine rg_end ?_)) | (refine rg_a rfl (h := ?_)) | (refine rg_v rfl (h := ?_))) | (refine hK _ _ ?_; clear hK K) | (apply_assumption (exfalso := false) (symm := false)))
      refine pwp_rowc (σ2 := [.box (bkA (b2 1 0 0 1 1)), .row 0 3 1 ((ordN 1).map natA)]) 0 258 3 1 (by decide) rfl (bk_o_at (b1_wf 257)) ?_ ?_
      · show [Ob.box ((bkA (b1 257)).set 258 (.row 1 0)), Ob.row 0 3 1 []] = _
        rw [bk_set_o (b1_wf 257), ordN_one]
        unfold b2 b1
        rw [codesL_one, firstL_one, baseL_one]
        rfl
      refine pwp_loop_e [3, 4, 5, 23, 24, 25, 26, 27, 28, 29, 30, 31, 32, 33, 34, 35, 36, 37, 38, 39, 40, 41, 42, 43, 44, 45, 46, 47, 48, 49, 50, 51, 52, 53, 54, 55, 56, 57, 58, 59, 60, 61, 62, 63, 64, 65, 66, 67, 68, 69, 70] (fun n : Nat => [(4, i64 n), (3, i64 (codeN n))]) (fun n => [.box (bkA (b2 n 0 (ordN n).length n n)), .row (ordN n).length 3 1 ((ordN n).map natA)]) (fun n => 1 ≤ n ∧ n ≤ 31) (fun n => 31 - n) 1 ⟨by decide, by decide⟩ ?_ (by rw [ordN_one]; rfl) ?_
      · (refine ⟨⟨_, sT, ?_⟩, ⟨_, sT, ?_⟩, trivial⟩ <;> (try (first | exact aleT)))
        all_goals exact ale_i codeN_one.symm
      · rintro n ⟨h1, h31⟩
        simp only [mask, List.map_cons, List.map_nil, List.cons_append, List.nil_append]
        by_cases hlt2 : n < 31
        · have hcb := codeN_bd ⟨n, by omega⟩
          have hcb2 := codeN_bd ⟨n + 1, by omega⟩
          have hol := ordN_len ⟨n, by omega⟩
          dsimp only at hcb hcb2 hol
          have hlen := bkA_len (b2_wf n 0 (ordN n).length n n)
          have hlen1 := bkA_len (b2_wf n 0 (ordN n).length (n + 1) n)
          have hfst : List.take (259 + n * 1) (bkA (b2 n 0 (ordN n).length n n)) ++ [i64 (codeN n * 2)] ++ List.drop (259 + n * 1 + 1) (bkA (b2 n 0 (ordN n).length n n)) = bkA (b2 n 0 (ordN n).length (n + 1) n) := by
            rw [Nat.mul_one]
            refine (show _ = putCells (bkA (b2 n 0 (ordN n).length n n)) (259 + n) [nA (codeN n * 2)] from rfl).trans ((bk_first (b2_wf n 0 (ordN n).length n n) hlt2 (codeN n * 2)).trans ?_)
            show bkA ⟨codesL n 0, .row 1 (ordN n).length, (firstL n).set n (codeN n * 2), cntL 257, baseL n⟩ = _
            rw [firstL_set h1 hlt2]; rfl
          have hbse : List.take (321 + n * 1) (bkA (b2 n 0 (ordN n).length (n + 1) n)) ++ [i64 ((ordN n).length : Int)] ++ List.drop (321 + n * 1 + 1) (bkA (b2 n 0 (ordN n).length (n + 1) n)) = bkA (b2 n 0 (ordN n).length (n + 1) (n + 1)) := by
            rw [Nat.mul_one]
            refine (show _ = putCells (bkA (b2 n 0 (ordN n).length (n + 1) n)) (321 + n) [nA ((ordN n).length : Int)] from rfl).trans ((bk_base (b2_wf n 0 (ordN n).length (n + 1) n) hlt2 ((ordN n).length : Int)).trans ?_)
            show bkA ⟨codesL n 0, .row 1 (ordN n).length, firstL (n + 1), cntL 257, (baseL n).set n ((ordN n).length : Int)⟩ = _
            rw [baseL_set h1 hlt2]; rfl
          have hor := bk_o_at (b2_wf n 0 (ordN n).length (n + 1) n)
          have hor1 : (bkA (b2 n 0 (ordN n).length (n + 1) n))[258]? = some (.row 1 (ordN n).length) := hor
          have hle1 : (259 + n * 1 + 1 ≤ 352) = True := by simp; omega
          have hle2 : (259 + n * 1 + (0 + 1) ≤ 352) = True := by simp; omega
          have hle3 : (321 + n * 1 + 1 ≤ 352) = True := by simp; omega
          have hle4 : (321 + n * 1 + (0 + 1) ≤ 352) = True := by simp; omega
          have hU := And.intro @hlen ( And.intro @hlen1 ( And.intro @hfst ( And.intro @hbse ( And.intro @hor1 ( And.intro @hle1 ( And.intro @hle2 ( And.intro @hle3 (@hle4))))))))
          repeat' (first | (guard_target =~ PWp _ _ _ _ _ _ _; first | (refine pwp_draw_ord (id := 13) [0, 1, 2, 3, 4, 5, 6, 7, 8, 9, 10] [10] mixed (by kernel_rfl) (by kernel_rfl) ?_) | (refine pwp_seq_k (fun K hK => ?_)) | (refine pwp_block ?_) | (refine pwp_rg_then ?_) | (refine pwp_skip ?_) | ((refine pwp_cond_d (fun hcd => ?_) (fun hcd => ?_)) <;> (try simp only [hcP] at hcd) <;> (try exact cdT))) | (guard_target =~ rg _ _ _ _ _ _ _; first | (guard_target =~ rg _ _ _ [] _ _ _; first | (refine rg_end ?_)) | (refine rg_a rfl (h := ?_)) | (refine rg_v rfl (h := ?_)) | (refine rg_s rfl ?_) | (refine rg_n rfl ?_)) | (guard_target =~ SOp _ _ _ _ _ _; first | (guard_target =~ SOp _ _ ⟨_, .store _ _ _, _, _, _, none⟩ _ _ _; first | (refine n_store rfl (hK := ?_))) | (guard_target =~ SOp _ _ ⟨_, .indexAddr _ _ _, _, _, _, none⟩ _ _ _; first | (refine n_index_arr rfl (hK := ?_)))) | (guard_target =~ dw _ _ _ _ _ _ _ _ _ _; first | ((first | guard_target =~ dw _ _ _ _ _ (0 :: _) _ _ _ _ | guard_target =~ dw _ _ _ _ _ (1 :: _) _ _ _ _ | guard_target =~ dw _ _ _ _ _ (2 :: _) _ _ _ _); first | (refine dw_p rfl rfl (h := (fun τ => ro_v rfl (h := ro_end ⟨rfl, rfl⟩))) (hk := ?_)) | (refine dw_c rfl rfl (h := ro_v rfl (h := ro_end ⟨rfl, rfl⟩)) (hk := ?_))) | ((first | guard_target =~ dw _ _ _ _ _ (3 :: _) _ _ _ _ | guard_target =~ dw _ _ _ _ _ (7 :: _) _ _ _ _ | guard_target =~ dw _ _ _ _ _ (8 :: _) _ _ _ _); first | (refine dw_p rfl rfl (h := (fun τ => ro_v rfl (h := ro_end ⟨rfl, rfl⟩))) (hk := ?_)) | (refine dw_c rfl rfl (h := ro_v rfl (h := ro_end ⟨rfl, rfl⟩)) (hk := ?_))) | ((first | guard_target =~ dw _ _ _ _ _ (4 :: _) _ _ _ _ | guard_target =~ dw _ _ _ _ _ (8 :: _) _ _ _ _ | guard_target =~ dw _ _ _ _ _ (9 :: _) _ _ _ _); first | (refine dw_p rfl rfl (h := (fun τ => ro_v rfl (h := ro_end ⟨rfl, rfl⟩))) (hk := ?_)) | (refine dw_c rfl rfl (h := ro_v rfl (h := ro_end ⟨rfl, rfl⟩)) (hk := ?_))) | ((first | guard_target =~ dw _ _ _ _ _ (5 :: _) _ _ _ _ | guard_target =~ dw _ _ _ _ _ (9 :: _) _ _ _ _ | guard_target =~ dw _ _ _ _ _ (10 :: _) _ _ _ _); first | (refine dw_c rfl rfl (h := ro_s (h := n_index_arr rfl (hK := ro_end ⟨rfl, rfl⟩))) (hk := ?_))) | ((first | guard_target =~ dw _ _ _ _ _ (5 :: _) _ _ _ _ | guard_target =~ dw _ _ _ _ _ (6 :: _) _ _ _ _); first | (refine dw_p rfl rfl (h := (fun τ => ro_v rfl (h := ro_end ⟨rfl, rfl⟩))) (hk := ?_)) | (refine dw_c rfl rfl (h := ro_v rfl (h := ro_end ⟨rfl, rfl⟩)) (hk := ?_))) | (guard_target =~ dw _ _ _ _ _ (7 :: _) _ _ _ _; first | (refine dw_p rfl rfl (h := (fun τ => ro_v rfl (h := ro_end ⟨rfl, rfl⟩))) (hk := ?_)) | (refine dw_c rfl rfl (h := ro_v rfl (h := ro_end ⟨rfl, rfl⟩)) (hk := ?_))) | ((first | guard_target =~ dw _ _ _ _ _ (10 :: _) _ _ _ _ | guard_target =~ dw _ _ _ _ _ (11 :: _) _ _ _ _); first | (refine dw_wn rfl rfl (h := ro_n (h := n_store rfl (hK := ro_end ⟨rfl, rfl⟩))) (hk := ?_))) | (guard_target =~ dw _ _ _ _ _ (6 :: _) _ _ _ _; first | (refine dw_p rfl rfl (h := (fun τ => ro_v rfl (h := ro_end ⟨rfl, rfl⟩))) (hk := ?_)) | (refine dw_c rfl rfl (h := ro_v rfl (h := ro_end ⟨rfl, rfl⟩)) (hk := ?_))) | (guard_target =~ dw _ _ _ _ _ [] _ _ _ _; first | (refine dw_nil ?_))) | (refine hK _ _ ?_; clear hK K))
          refine pwp_loop_e [3, 5, 45, 46, 47, 48, 49, 50, 51, 52, 53, 54, 55, 56, 57, 58, 59, 60, 61, 62, 63, 64, 65, 66, 67, 68, 69, 70] (fun k : Nat => [(45, i64 k), (3, i64 (codeN n * 2 + cntN k n))]) (fun k => [.box (bkA (b2 n k ((ordN n).length + (symK n k).length) (n + 1) (n + 1))), .row ((ordN n).length + (symK n k).length) 3 1 ((ordN n ++ symK n k).map natA)]) (fun k => k ≤ 257) (fun k => 257 - k) 0 (Nat.zero_le _) ?_ (by rw [symK_0, List.append_nil]; rfl) ?_
          · (refine ⟨⟨_, sT, ?_⟩, ⟨_, sT, ?_⟩, trivial⟩ <;> (try (first | exact aleT)))
            all_goals exact ale_i (by rw [cntN_0, Int.add_zero])
          · rintro k hk
            simp only [mask, List.map_cons, List.map_nil, List.cons_append, List.nil_append]
            by_cases hlt3 : k < 257
            · have hsb := szI_bd (s := (k : Int)) (by omega) (by omega)
              have hsl := symK_le n k
              have hck := cntN_le (k := k) (n := n) (by omega)
              by_cases hsz : szI (k : Int) = (n : Int)
              · obtain ⟨st, hst⟩ : ∃ st, (ordN n).length + (symK n k).length = st := ⟨_, rfl⟩
                rw [hst]
                have hlenk := bkA_len (b2_wf n k st (n + 1) (n + 1))
                have hlenk1 := bkA_len (b2_wf n k (st + 1) (n + 1) (n + 1))
                have hork : (bkA (b2 n k st (n + 1) (n + 1)))[258]? = some (.row 1 st) := bk_o_at (b2_wf n k st (n + 1) (n + 1))
                have hap : List.map natA (ordN n ++ symK n k) ++ [[AV.lit (.int .i64 (k : Int))]] = List.map natA (ordN n ++ symK n (k + 1)) := by
                  rw [symK_succ, if_pos hsz, ← List.append_assoc, List.map_append (l₁ := ordN n ++ symK n k)]; rfl
                have hpo : List.take 258 (bkA (b2 n k st (n + 1) (n + 1))) ++ [.row 1 (st + 1)] ++ List.drop 259 (bkA (b2 n k st (n + 1) (n + 1))) = bkA (b2 n k (st + 1) (n + 1) (n + 1)) :=
                  (show _ = putCells (bkA (b2 n k st (n + 1) (n + 1))) 258 [.row 1 (st + 1)] from rfl).trans (bk_o (b2_wf n k st (n + 1) (n + 1)) (.row 1 (st + 1)))
                have hpc : List.take (1 + k * 1) (bkA (b2 n k (st + 1) (n + 1) (n + 1))) ++ [i64 (codeN n * 2 + cntN k n)] ++ List.drop (1 + k * 1 + 1) (bkA (b2 n k (st + 1) (n + 1) (n + 1))) = bkA (b2 n (k + 1) (st + 1) (n + 1) (n + 1)) := by
                  rw [Nat.mul_one]
                  refine (show _ = putCells (bkA (b2 n k (st + 1) (n + 1) (n + 1))) (1 + k) [nA (codeN n * 2 + cntN k n)] from rfl).trans ((bk_codes (b2_wf n k (st + 1) (n + 1) (n + 1)) hlt3 (codeN n * 2 + cntN k n)).trans ?_)
                  show bkA ⟨(codesL n k).set k (codeN n * 2 + cntN k n), .row 1 (st + 1), firstL (n + 1), cntL 257, baseL (n + 1)⟩ = _
                  rw [codesL_set hlt3 hsz]; rfl
                have hlk1 : (1 + k * 1 + 1 ≤ 352) = True := by simp; omega
                have hlk2 : (1 + k * 1 + (0 + 1) ≤ 352) = True := by simp; omega
                have hol2 : (ordN n ++ symK n k).length = st := by rw [List.length_append]; exact hst
                have hU := And.intro @hsz ( And.intro @hlenk ( And.intro @hlenk1 ( And.intro @hork ( And.intro @hap ( And.intro @hpo ( And.intro @hpc ( And.intro @hlk1 (@hlk2))))))))
                repeat' (first | (guard_target =~ PWp _ _ _ _ _ _ _; first | (refine pwp_seq_k (fun K hK => ?_)) | (refine pwp_block ?_) | (refine pwp_rg_then ?_) | (refine pwp_rg ?_) | (refine pwp_skip ?_) | ((refine pwp_cond_d (fun hcd => ?_) (fun hcd => ?_)) <;> (try simp only [hcP] at hcd) <;> (try exact cdT))) | (guard_target =~ rg _ _ _ _ _ _ _; first | (guard_target =~ rg _ _ _ [] _ _ _; first | (refine rg_end ?_)) | (refine rg_a rfl (h := ?_)) | (refine rg_v rfl (h := ?_)) | (refine rg_s rfl ?_) | (refine rg_n rfl ?_)) | (guard_target =~ SOp _ _ _ _ _ _; first | (guard_target =~ SOp _ _ ⟨_, .store _ _ _, _, _, _, none⟩ _ _ _; first | (refine n_store rfl (hK := ?_))) | (guard_target =~ SOp _ _ ⟨_, .indexAddr _ _ _, _, _, _, none⟩ _ _ _; first | (refine n_index_arr rfl (hK := ?_))) | (guard_target =~ SOp _ _ ⟨_, .call ⟨.value (.func 121), _, _⟩, _, _, _, none⟩ _ _ _; first | (refine n_call (f := 121) rfl Tryd.call121 (h := AEq.pure' agT (csize _ (by omega) (by omega)) (hq := ?_)))) | (guard_target =~ SOp _ _ ⟨_, .call ⟨.builtin .append, _, _⟩, _, _, _, none⟩ _ _ _; first | (refine n_append_row rfl (he := by first | exact eo3 | exact eo4 | exact eo53 | exact eo148 | exact eo168 | exact eo169 | exact eo171 | fail) (hK := ?_))) | (guard_target =~ SOp _ _ ⟨_, .buildSlice _ _ _, _, _, _, none⟩ _ _ _; first | (refine n_lit rfl (he := by first | exact eo3 | exact eo4 | exact eo53 | exact eo148 | exact eo168 | exact eo169 | exact eo171 | fail) (hK := ?_)))) | (refine hK _ _ ?_; clear hK K))
                refine ⟨k + 1, by omega, by omega, ?_, (by repeat' (first | exact agr_refl | refine agr_cons (by rfl) ?_)), ?_⟩
                · (refine ⟨⟨_, sT, ?_⟩, ⟨_, sT, ?_⟩, trivial⟩ <;> (try (first | exact aleT)))
                  all_goals exact ale_i (by rw [cntN_succ, if_pos hsz, Int.add_assoc])
                · rw [symK_succ, if_pos hsz, List.length_append, ← Nat.add_assoc, hst]
                  simp only [hap, hpo, hpc, go_sem]
              · have hbn : ∀ st : Nat, b2 n (k + 1) st (n + 1) (n + 1) = b2 n k st (n + 1) (n + 1) := fun st => by unfold b2; rw [codesL_not hsz]
                have hU := True.intro
                repeat' (first | (guard_target =~ PWp _ _ _ _ _ _ _; first | (refine pwp_seq_k (fun K hK => ?_)) | (refine pwp_block ?_) | (refine pwp_rg_then ?_) | (refine pwp_skip ?_) | ((refine pwp_cond_d (fun hcd => ?_) (fun hcd => ?_)) <;> (try simp only [hcP] at hcd) <;> (try exact cdT))) | (guard_target =~ rg _ _ _ _ _ _ _; first | (guard_target =~ rg _ _ _ [] _ _ _; first | (refine rg_end ?_)) | (refine rg_a rfl (h := ?_)) | (refine rg_v rfl (h := ?_)) | (refine rg_s rfl ?_)) | (guard_target =~ SOp _ _ _ _ _ _; first | (guard_target =~ SOp _ _ ⟨_, .call ⟨.value (.func 121), _, _⟩, _, _, _, none⟩ _ _ _; first | (refine n_call (f := 121) rfl Tryd.call121 (h := AEq.pure' agT (csize _ (by omega) (by omega)) (hq := ?_))))) | (refine hK _ _ ?_; clear hK K))
                refine ⟨k + 1, by omega, by omega, ?_, (by repeat' (first | exact agr_refl | refine agr_cons (by rfl) ?_)), ?_⟩
                · (refine ⟨⟨_, sT, ?_⟩, ⟨_, sT, ?_⟩, trivial⟩ <;> (try (first | exact aleT)))
                  all_goals exact ale_i (by rw [cntN_succ, if_neg hsz, Int.add_zero])
                · rw [symK_succ, if_neg hsz, List.append_nil, hbn]
            · have hk7 : k = 257 := by omega
              subst hk7
              have hU := True.intro
              repeat' (first | (guard_target =~ PWp _ _ _ _ _ _ _; first | (refine pwp_seq_k (fun K hK => ?_)) | (refine pwp_rg_then ?_) | (refine pwp_exit ?_) | ((refine pwp_cond_d (fun hcd => ?_) (fun hcd => ?_)) <;> (try simp only [hcP] at hcd) <;> (try exact cdT))) | (guard_target =~ rg _ _ _ _ _ _ _; first | (guard_target =~ rg _ _ _ [] _ _ _; first | (refine rg_end ?_)) | (refine rg_a rfl (h := ?_)) | (refine rg_v rfl (h := ?_))) | (refine hK _ _ ?_; clear hK K) | (apply_assumption (exfalso := false) (symm := false)))
              refine ⟨n + 1, ⟨by omega, by omega⟩, by omega, ?_, (by repeat' (first | exact agr_refl | refine agr_cons (by rfl) ?_)), ?_⟩
              · (refine ⟨⟨_, sT, ?_⟩, ⟨_, sT, ?_⟩, trivial⟩ <;> (try (first | exact aleT)))
                all_goals exact ale_i (codeN_succ n).symm
              · have hb3 : ∀ st : Nat, b2 (n + 1) 0 st (n + 1) (n + 1) = b2 n 257 st (n + 1) (n + 1) := fun st => by unfold b2; rw [codesL_next]
                rw [ordN_succ, List.length_append, hb3]
        · have hn31 : n = 31 := by omega
          subst hn31
          have hol31 := ordN_31
          have hU := @hol31
          repeat' (first | (guard_target =~ PWp _ _ _ _ _ _ _; first | (refine pwp_seq_k (fun K hK => ?_)) | (refine pwp_rg_then ?_) | (refine pwp_ret ?_) | (refine pwp_exit ?_) | ((refine pwp_cond_d (fun hcd => ?_) (fun hcd => ?_)) <;> (try simp only [hcP] at hcd) <;> (try exact cdT))) | (guard_target =~ rg _ _ _ _ _ _ _; first | (guard_target =~ rg _ _ _ [] _ _ _; first | (refine rg_end ?_)) | (refine rg_a rfl (h := ?_)) | (refine rg_v rfl (h := ?_))) | (guard_target =~ (_ ∨ _) ∧ _; first | ((refine end_d [0, 1] (by rw [Tryd.results95, Lf.res1]) (ale_1 ?_) ?_) <;> (try (first | exact aleT | exact stq (by with_reducible rfl) | exact stq (by rfl) | exact stq (by simp (disch := omega) only [go_sem, seval, ↓reduceIte, hU]))))) | (refine hK _ _ ?_; clear hK K) | (apply_assumption (exfalso := false) (symm := false)))
end Go.Proofs.YtohbfcmmpaikhaaDoor

set_option linter.unusedVariables false
set_option linter.unusedSimpArgs false
namespace Go.Proofs.YtohbfcmmpaikhaaDoor
open Go Go.Lf Go.Proofs
attribute [local irreducible] Lf.rg Lf.ro Lf.PWp Lf.SOp Lf.ACall Lf.Scoped Lf.dg Lf.dw
set_option maxRecDepth 20000
set_option maxHeartbeats 4000000
def bkB : List AV := bkA (b2 31 0 257 31 31)
def ordB : List Nat := ordN 31
def fstI (n : Nat) : Int := codeN n * 2
def bseI (n : Nat) : Int := ((ordN n).length : Int)
theorem ordB_len : ordB.length = 257 := ordN_31
theorem bkB_0 : bkB[0]? = some (bl true) := by unfold bkB bkA; rfl
theorem bkB_ord : bkB[258]? = some (.row 1 257) := bk_o_at (b2_wf 31 0 257 31 31)
theorem bkB_first {n : Nat} (h1 : 1 ≤ n) (hn : n ≤ 30) : bkB[259 + n]? = some (i64 (fstI n)) := by
  have e : bkB = (bl true :: ((codesL 31 0).map nA ++ [.row 1 257])) ++ ((firstL 31).map nA ++ ((cntL 257).map nA ++ (baseL 31).map nA)) := by unfold bkB bkA b2; simp
  have hl : (bl true :: ((codesL 31 0).map nA ++ [AV.row 1 257])).length = 259 := by simp [codesL]
  rw [e, List.getElem?_append_right (by omega), hl, show 259 + n - 259 = n from by omega, List.getElem?_append_left (by simp [firstL]; omega), List.getElem?_map]
  have hc : (firstL 31)[n]? = some (fstI n) := by
    unfold firstL
    rw [List.getElem?_map, List.getElem?_range (by omega), Option.map_some, if_pos ⟨h1, by omega⟩]; rfl
  rw [hc]; rfl
theorem bkB_count {n : Nat} (hn : n ≤ 30) : bkB[290 + n]? = some (i64 (cntN 257 n)) := by
  refine bk_count_at (b2_wf 31 0 257 31 31) ?_
  show (cntL 257)[n]? = _
  unfold cntL
  rw [List.getElem?_map, List.getElem?_range (by omega)]; rfl
theorem bkB_base {n : Nat} (h1 : 1 ≤ n) (hn : n ≤ 30) : bkB[321 + n]? = some (i64 (bseI n)) := by
  have e : bkB = (bl true :: ((codesL 31 0).map nA ++ .row 1 257 :: ((firstL 31).map nA ++ (cntL 257).map nA))) ++ (baseL 31).map nA := by unfold bkB bkA b2; simp
  have hl : (bl true :: ((codesL 31 0).map nA ++ .row 1 257 :: ((firstL 31).map nA ++ (cntL 257).map nA))).length = 321 := by simp [codesL, firstL, cntL]
  rw [e, List.getElem?_append_right (by omega), hl, show 321 + n - 321 = n from by omega, List.getElem?_map]
  have hc : (baseL 31)[n]? = some (bseI n) := by
    unfold baseL
    rw [List.getElem?_map, List.getElem?_range (by omega), Option.map_some, if_pos ⟨h1, by omega⟩]; rfl
  rw [hc]; rfl
@[go_sem] theorem fz_bkB {σ : Sto} : fzl [0, 1] σ bkB = bkB := fz_b2 31 0 257 31 31
theorem cbook : AEq Tryd.prog 95 [] [] (.ptr 0 0) [.box bkB, .row 257 3 1 (ordB.map natA)] := cmake
def findY (c n : Int) : Bool := decide (1 ≤ n ∧ n ≤ 30 ∧ fstI n.toNat ≤ c ∧ c - fstI n.toNat < cntN 257 n.toNat)
def findS (c n : Int) : Int := (ordB.getD (bseI n.toNat + (c - fstI n.toNat)).toNat 0 : Nat)
theorem tab_bd : ∀ n : Fin 31, 0 ≤ fstI n.val ∧ fstI n.val ≤ 4294967296 ∧ 0 ≤ bseI n.val ∧ 0 ≤ cntN 257 n.val ∧ bseI n.val + cntN 257 n.val ≤ 257 := by decide +kernel
theorem rnl_all (f : Nat → Nat) : ∀ xs, rnl f xs = xs.map (rn f)
  | [] => rfl
  | x :: xs => by rw [rnl, rnl_all f xs]; rfl
theorem scpl_all (n : Nat) : ∀ xs, scpl n xs = xs.all (scp n)
  | [] => rfl
  | x :: xs => by rw [scpl, scpl_all n xs]; rfl
theorem nbl_all : ∀ xs, nbl xs = xs.all nb
  | [] => rfl
  | x :: xs => by rw [nbl, nbl_all xs]; rfl
@[go_sem] theorem rnl_bkB (L : Nat) : rnl (ix [0, 1] L) bkB = bkB := by
  rw [rnl_all]
  unfold bkB bkA b2
  have h : ∀ l : List Int, (l.map nA).map (rn (ix [0, 1] L)) = l.map nA := by
    intro l; rw [List.map_map]; exact List.map_congr_left (fun _ _ => rfl)
  simp only [List.map_cons, List.map_append, h]
  rfl
theorem scpl_bkB : scpl 2 bkB = true := by
  rw [scpl_all]
  unfold bkB bkA b2
  have h : ∀ l : List Int, (l.map nA).all (scp 2) = true := by
    intro l; rw [List.all_map]; exact List.all_eq_true.2 (fun _ _ => rfl)
  simp only [List.all_cons, List.all_append, h]
  rfl
@[go_sem] theorem nbl_bkB : nbl bkB = true := by
  rw [nbl_all]
  unfold bkB bkA b2
  have h : ∀ l : List Int, (l.map nA).all nb = true := by
    intro l; rw [List.all_map]; exact List.all_eq_true.2 (fun _ _ => rfl)
  simp only [List.all_cons, List.all_append, h]
  rfl
theorem sub_bk (σ : Sto) : SubOk [0, 1] [.box bkB, .row 257 3 1 (ordB.map natA)] (.box bkB :: .row 257 3 1 (ordB.map natA) :: σ) := by
  refine SubOk.mk' (by decide) ⟨?_, scpl_bkB, rfl, purl_nat ordB, trivial⟩
  show some (Ob.box bkB) = some (Ob.box (rnl _ bkB))
  rw [rnl_bkB]
theorem okP_bk : ([.box bkB, .row 257 3 1 (ordB.map natA)] : Sto).all okP = true := by
  have h1 := nbl_bkB
  have h2 := purl_nat ordB
  simp only [List.all_cons, List.all_nil, okP, h1, h2, Bool.and_self]
attribute [local irreducible] bkB cntN ordB fstI bseI csI
theorem bhas (s : Int) : AEq Tryd.prog 124 [.ptr 0 0, i64 s] [.box bkB, .row 257 3 1 (ordB.map natA)] (bl (decide (0 ≤ s) && decide (s ≤ 256))) [.box bkB, .row 257 3 1 (ordB.map natA)] := by
  have h0 := bkB_0
  refine acall_body Tryd.func124 rfl Tryd.ntmps124 (by simp) (fun hsc => ?_); simp only [Lf.enter, Nat.reduceAdd]; clear hsc
  have hU := @h0
  repeat' (first | (guard_target =~ PWp _ _ _ _ _ _ _; first | (refine pwp_seq_k (fun K hK => ?_)) | (refine pwp_rg_then ?_) | (refine pwp_ret ?_)) | (guard_target =~ rg _ _ _ _ _ _ _; first | (guard_target =~ rg _ _ _ (⟨_, .move _, _, _, _, some _⟩ :: _) _ _ _; first | (refine rg_gtp rfl (h := ?_)) | (refine rg_gq rfl (h := ?_))) | (guard_target =~ rg _ _ _ (⟨_, .binOp _ _ _ _ _, _, _, _, some _⟩ :: _) _ _ _; first | (refine rg_gtp rfl (h := ?_)) | (refine rg_gq rfl (h := ?_))) | (guard_target =~ rg _ _ _ (⟨_, .nilCheck _, _, _, _, some _⟩ :: _) _ _ _; first | (refine rg_gtp rfl (h := ?_)) | (refine rg_gq rfl (h := ?_))) | (guard_target =~ rg _ _ _ (⟨_, .fieldAddr _ _ _, _, _, _, some _⟩ :: _) _ _ _; first | (refine rg_gtp rfl (h := ?_)) | (refine rg_gq rfl (h := ?_))) | (guard_target =~ rg _ _ _ (⟨_, .load _ _, _, _, _, some _⟩ :: _) _ _ _; first | (refine rg_gtp rfl (h := ?_)) | (refine rg_gq rfl (h := ?_))) | (guard_target =~ rg _ _ _ [] _ _ _; first | (refine rg_end ?_)) | (refine rg_a rfl (h := ?_)) | (refine rg_v rfl (h := ?_))) | (guard_target =~ (_ ∨ _) ∧ _; first | ((refine end_d [0, 1] (by rw [Tryd.results124, Lf.res1]) (ale_1 ?_) ?_) <;> (try (first | exact aleT | exact stq (by with_reducible rfl) | exact stq (by rfl) | exact stq (by simp (disch := omega) only [go_sem, seval, ↓reduceIte, hU]))))) | (refine hK _ _ ?_; clear hK K))
end Go.Proofs.YtohbfcmmpaikhaaDoor

set_option linter.unusedVariables false
set_option linter.unusedSimpArgs false
namespace Go.Proofs.YtohbfcmmpaikhaaDoor
open Go Go.Lf Go.Proofs
attribute [local irreducible] Lf.rg Lf.ro Lf.PWp Lf.SOp Lf.ACall Lf.Scoped Lf.dg Lf.dw
set_option maxRecDepth 20000
set_option maxHeartbeats 4000000
theorem findY_n {c n : Int} (h : ¬ (1 ≤ n ∧ n ≤ 30 ∧ fstI n.toNat ≤ c ∧ c - fstI n.toNat < cntN 257 n.toNat)) : findY c n = false := decide_eq_false h
theorem findY_y {c n : Int} (h : 1 ≤ n ∧ n ≤ 30 ∧ fstI n.toNat ≤ c ∧ c - fstI n.toNat < cntN 257 n.toNat) : findY c n = true := decide_eq_true h
def findR (c n : Int) : Int := if findY c n = true then findS c n else 0
attribute [local irreducible] bkB cntN ordB fstI bseI csI
theorem bfind (c n : Int) (h0 : 0 ≤ c) (h1 : c ≤ 4294967296) : AEq Tryd.prog 98 [.ptr 0 0, i64 c, i64 n] [.box bkB, .row 257 3 1 (ordB.map natA)] (.tu [i64 (findR c n), bl (findY c n)]) [.box bkB, .row 257 3 1 (ordB.map natA)] := by
  by_cases hn : 1 ≤ n ∧ n ≤ 30
  · obtain ⟨hn1, hn2⟩ := hn
    obtain ⟨m, rfl⟩ : ∃ m : Nat, n = m := ⟨n.toNat, by omega⟩
    have hm1 : 1 ≤ m := by omega
    have hm2 : m ≤ 30 := by omega
    obtain ⟨t1, t2, t3, t4, t5⟩ := tab_bd ⟨m, by omega⟩
    dsimp only at t1 t2 t3 t4 t5
    have hf : bkB[259 + m * 1]? = some (i64 (fstI m)) := by rw [Nat.mul_one]; exact bkB_first hm1 hm2
    have hcn : bkB[290 + m * 1]? = some (i64 (cntN 257 m)) := by rw [Nat.mul_one]; exact bkB_count hm2
    have hbs : bkB[321 + m * 1]? = some (i64 (bseI m)) := by rw [Nat.mul_one]; exact bkB_base hm1 hm2
    have ho := bkB_ord
    have hol := ordB_len
    by_cases hc1 : c < fstI m
    · have hY := findY_n (c := c) (n := (m : Int)) (by rw [Int.toNat_natCast]; omega)
      have hR : findR c m = 0 := by unfold findR; rw [hY]; rfl
      rw [hY, hR]
      refine acall_body Tryd.func98 rfl Tryd.ntmps98 (by simp) (fun hsc => ?_); simp only [Lf.enter, Nat.reduceAdd]; clear hsc
      have hU := And.intro @hf ( And.intro @hcn ( And.intro @hbs (@ho)))
      repeat' (first | (guard_target =~ PWp _ _ _ _ _ _ _; first | (refine pwp_seq_k (fun K hK => ?_)) | (refine pwp_rg_then ?_) | (refine pwp_ret ?_) | (refine pwp_skip ?_) | ((refine pwp_cond_d (fun hcd => ?_) (fun hcd => ?_)) <;> (try simp only [hcP] at hcd) <;> (try exact cdT))) | (guard_target =~ rg _ _ _ _ _ _ _; first | (guard_target =~ rg _ _ _ (⟨_, .binOp _ _ _ _ _, _, _, _, some _⟩ :: _) _ _ _; first | (refine rg_gtp rfl (h := ?_)) | (refine rg_gq rfl (h := ?_))) | (guard_target =~ rg _ _ _ (⟨_, .move _, _, _, _, some _⟩ :: _) _ _ _; first | (refine rg_gtp rfl (h := ?_)) | (refine rg_gq rfl (h := ?_))) | (guard_target =~ rg _ _ _ [] _ _ _; first | (refine rg_end ?_)) | (refine rg_a rfl (h := ?_)) | (refine rg_v rfl (h := ?_)) | (refine rg_s rfl ?_)) | (guard_target =~ SOp _ _ _ _ _ _; first | (guard_target =~ SOp _ _ ⟨_, .indexAddr _ _ _, _, _, _, none⟩ _ _ _; first | (refine n_index_arr rfl (hK := ?_))) | (guard_target =~ SOp _ _ ⟨_, .call ⟨.value (.func 124), _, _⟩, _, _, _, none⟩ _ _ _; first | (refine n_call (f := 124) rfl Tryd.call124 (h := AEq.sub' [0, 1] (by refine ⟨?_, ?_, trivial⟩ <;> (first | exact arg_lit | exact arg_rn (by rfl) (by rfl))) (by exact sub_bk _) (bhas _) (ho := by exact okP_bk) (hq := ?_))))) | (guard_target =~ (_ ∨ _) ∧ _; first | ((refine end_d [0, 1] (by rw [Tryd.results98, Lf.res2]) (ale_2 ?_ ?_) ?_) <;> (try (first | exact aleT | exact stq (by with_reducible rfl) | exact stq (by rfl) | exact stq (by simp (disch := omega) only [go_sem, seval, ↓reduceIte, hU]))))) | (refine hK _ _ ?_; clear hK K))
    by_cases hc2 : c - fstI m < cntN 257 m
    · have hY := findY_y (c := c) (n := (m : Int)) (by rw [Int.toNat_natCast]; omega)
      obtain ⟨i, hi⟩ : ∃ i : Nat, bseI m + (c - fstI m) = i := ⟨(bseI m + (c - fstI m)).toNat, by omega⟩
      have hil : i < ordB.length := by rw [hol]; omega
      obtain ⟨s, hs⟩ : ∃ s, ordB[i]? = some s := ⟨ordB[i], List.getElem?_eq_getElem hil⟩
      have hR : findR c m = (s : Int) := by
        unfold findR findS
        rw [if_pos hY, Int.toNat_natCast, hi, Int.toNat_natCast, List.getD_eq_getElem?_getD, hs]; rfl
      rw [hY, hR]
      have hm3 : (List.map natA ordB)[i]? = some (natA s) := by rw [List.getElem?_map, hs]; rfl
      refine acall_body Tryd.func98 rfl Tryd.ntmps98 (by simp) (fun hsc => ?_); simp only [Lf.enter, Nat.reduceAdd]; clear hsc
      have hU := And.intro @hf ( And.intro @hcn ( And.intro @hbs ( And.intro @ho ( And.intro @hi ( And.intro @hs (@hm3))))))
      repeat' (first | (guard_target =~ PWp _ _ _ _ _ _ _; first | (refine pwp_seq_k (fun K hK => ?_)) | (refine pwp_rg_then ?_) | (refine pwp_draw mixed (by kernel_rfl) ?_) | (refine pwp_ret ?_) | (refine pwp_skip ?_) | ((refine pwp_cond_d (fun hcd => ?_) (fun hcd => ?_)) <;> (try simp only [hcP] at hcd) <;> (try exact cdT))) | (guard_target =~ rg _ _ _ _ _ _ _; first | (guard_target =~ rg _ _ _ (⟨_, .binOp _ _ _ _ _, _, _, _, some _⟩ :: _) _ _ _; first | (refine rg_gtp rfl (h := ?_)) | (refine rg_gq rfl (h := ?_))) | (guard_target =~ rg _ _ _ (⟨_, .move _, _, _, _, some _⟩ :: _) _ _ _; first | (refine rg_gtp rfl (h := ?_)) | (refine rg_gq rfl (h := ?_))) | (guard_target =~ rg _ _ _ [] _ _ _; first | (refine rg_end ?_)) | (refine rg_a rfl (h := ?_)) | (refine rg_v rfl (h := ?_)) | (refine rg_s rfl ?_)) | (guard_target =~ SOp _ _ _ _ _ _; first | (guard_target =~ SOp _ _ ⟨_, .indexAddr _ _ _, _, _, _, none⟩ _ _ _; first | (refine n_index_arr rfl (hK := ?_))) | (guard_target =~ SOp _ _ ⟨_, .call ⟨.value (.func 124), _, _⟩, _, _, _, none⟩ _ _ _; first | (refine n_call (f := 124) rfl Tryd.call124 (h := AEq.sub' [0, 1] (by refine ⟨?_, ?_, trivial⟩ <;> (first | exact arg_lit | exact arg_rn (by rfl) (by rfl))) (by exact sub_bk _) (bhas _) (ho := by exact okP_bk) (hq := ?_))))) | (guard_target =~ dg _ _ _ _ _ _ _; first | (guard_target =~ dg _ _ _ (⟨_, .move _, _, _, _, none⟩ :: _) _ _ _; first | (refine dg_v rfl (hk := ?_))) | (guard_target =~ dg _ _ _ (⟨_, .assign _, _, _, _, none⟩ :: _) _ _ _; first | (refine dg_a rfl (hk := ?_))) | (guard_target =~ dg _ _ _ (⟨_, .load _ _, _, _, _, none⟩ :: _) _ _ _; first | (refine dg_v rfl (hk := ?_))) | (guard_target =~ dg _ _ _ (⟨_, .nilCheck _, _, _, _, none⟩ :: _) _ _ _; first | (refine dg_v rfl (hk := ?_))) | (guard_target =~ dg _ _ _ (⟨_, .fieldAddr _ _ _, _, _, _, none⟩ :: _) _ _ _; first | (refine dg_v rfl (hk := ?_))) | (guard_target =~ dg _ _ _ (⟨_, .indexAddr _ _ _, _, _, _, none⟩ :: _) _ _ _; first | (refine dg_c (x := _) (h := ro_s (h := n_index_row rfl (hK := ro_end ⟨rfl, rfl⟩))) (hk := ?_)) | (refine dg_c (x := _) (h := ro_s (h := n_index_arr rfl (hK := ro_end ⟨rfl, rfl⟩))) (hk := ?_))) | (guard_target =~ dg _ _ _ (⟨_, .binOp _ _ _ _ _, _, _, _, none⟩ :: _) _ _ _; first | (refine dg_v rfl (hk := ?_))) | (guard_target =~ dg _ _ _ (⟨_, .pick _ _ _, _, _, _, none⟩ :: _) _ _ _; first | (refine dg_v rfl (hk := ?_))) | (guard_target =~ dg _ _ _ (⟨_, .unOp _ _ _, _, _, _, none⟩ :: _) _ _ _; first | (refine dg_v rfl (hk := ?_))) | (guard_target =~ dg _ _ _ [] _ _ _; first | (refine dg_nil ?_))) | (guard_target =~ (_ ∨ _) ∧ _; first | ((refine end_d [0, 1] (by rw [Tryd.results98, Lf.res2]) (ale_2 ?_ ?_) ?_) <;> (try (first | exact aleT | exact stq (by with_reducible rfl) | exact stq (by rfl) | exact stq (by simp (disch := omega) only [go_sem, seval, ↓reduceIte, hU]))))) | (refine hK _ _ ?_; clear hK K))
    · have hY := findY_n (c := c) (n := (m : Int)) (by rw [Int.toNat_natCast]; omega)
      have hR : findR c m = 0 := by unfold findR; rw [hY]; rfl
      rw [hY, hR]
      refine acall_body Tryd.func98 rfl Tryd.ntmps98 (by simp) (fun hsc => ?_); simp only [Lf.enter, Nat.reduceAdd]; clear hsc
      have hU := And.intro @hf ( And.intro @hcn ( And.intro @hbs (@ho)))
      repeat' (first | (guard_target =~ PWp _ _ _ _ _ _ _; first | (refine pwp_seq_k (fun K hK => ?_)) | (refine pwp_rg_then ?_) | (refine pwp_ret ?_) | (refine pwp_skip ?_) | ((refine pwp_cond_d (fun hcd => ?_) (fun hcd => ?_)) <;> (try simp only [hcP] at hcd) <;> (try exact cdT))) | (guard_target =~ rg _ _ _ _ _ _ _; first | (guard_target =~ rg _ _ _ (⟨_, .binOp _ _ _ _ _, _, _, _, some _⟩ :: _) _ _ _; first | (refine rg_gtp rfl (h := ?_)) | (refine rg_gq rfl (h := ?_))) | (guard_target =~ rg _ _ _ (⟨_, .move _, _, _, _, some _⟩ :: _) _ _ _; first | (refine rg_gtp rfl (h := ?_)) | (refine rg_gq rfl (h := ?_))) | (guard_target =~ rg _ _ _ [] _ _ _; first | (refine rg_end ?_)) | (refine rg_a rfl (h := ?_)) | (refine rg_v rfl (h := ?_)) | (refine rg_s rfl ?_)) | (guard_target =~ SOp _ _ _ _ _ _; first | (guard_target =~ SOp _ _ ⟨_, .indexAddr _ _ _, _, _, _, none⟩ _ _ _; first | (refine n_index_arr rfl (hK := ?_))) | (guard_target =~ SOp _ _ ⟨_, .call ⟨.value (.func 124), _, _⟩, _, _, _, none⟩ _ _ _; first | (refine n_call (f := 124) rfl Tryd.call124 (h := AEq.sub' [0, 1] (by refine ⟨?_, ?_, trivial⟩ <;> (first | exact arg_lit | exact arg_rn (by rfl) (by rfl))) (by exact sub_bk _) (bhas _) (ho := by exact okP_bk) (hq := ?_))))) | (guard_target =~ (_ ∨ _) ∧ _; first | ((refine end_d [0, 1] (by rw [Tryd.results98, Lf.res2]) (ale_2 ?_ ?_) ?_) <;> (try (first | exact aleT | exact stq (by with_reducible rfl) | exact stq (by rfl) | exact stq (by simp (disch := omega) only [go_sem, seval, ↓reduceIte, hU]))))) | (refine hK _ _ ?_; clear hK K))
  · have hY := findY_n (c := c) (n := n) (by omega)
    have hR : findR c n = 0 := by unfold findR; rw [hY]; rfl
    rw [hY, hR]
    refine acall_body Tryd.func98 rfl Tryd.ntmps98 (by simp) (fun hsc => ?_); simp only [Lf.enter, Nat.reduceAdd]; clear hsc
    have hU := True.intro
    repeat' (first | (guard_target =~ PWp _ _ _ _ _ _ _; first | (refine pwp_seq_k (fun K hK => ?_)) | (refine pwp_rg_then ?_) | (refine pwp_ret ?_) | ((refine pwp_cond_d (fun hcd => ?_) (fun hcd => ?_)) <;> (try simp only [hcP] at hcd) <;> (try exact cdT))) | (guard_target =~ rg _ _ _ _ _ _ _; first | (guard_target =~ rg _ _ _ (⟨_, .binOp _ _ _ _ _, _, _, _, some _⟩ :: _) _ _ _; first | (refine rg_gtp rfl (h := ?_)) | (refine rg_gq rfl (h := ?_))) | (guard_target =~ rg _ _ _ (⟨_, .move _, _, _, _, some _⟩ :: _) _ _ _; first | (refine rg_gtp rfl (h := ?_)) | (refine rg_gq rfl (h := ?_))) | (guard_target =~ rg _ _ _ [] _ _ _; first | (refine rg_end ?_)) | (refine rg_a rfl (h := ?_)) | (refine rg_v rfl (h := ?_)) | (refine rg_s rfl ?_)) | (guard_target =~ SOp _ _ _ _ _ _; first | (guard_target =~ SOp _ _ ⟨_, .call ⟨.value (.func 124), _, _⟩, _, _, _, none⟩ _ _ _; first | (refine n_call (f := 124) rfl Tryd.call124 (h := AEq.sub' [0, 1] (by refine ⟨?_, ?_, trivial⟩ <;> (first | exact arg_lit | exact arg_rn (by rfl) (by rfl))) (by exact sub_bk _) (bhas _) (ho := by exact okP_bk) (hq := ?_))))) | (guard_target =~ (_ ∨ _) ∧ _; first | ((refine end_d [0, 1] (by rw [Tryd.results98, Lf.res2]) (ale_2 ?_ ?_) ?_) <;> (try (first | exact aleT | exact stq (by with_reducible rfl) | exact stq (by rfl) | exact stq (by simp (disch := omega) only [go_sem, seval, ↓reduceIte, hU]))))) | (refine hK _ _ ?_; clear hK K))
end Go.Proofs.YtohbfcmmpaikhaaDoor

set_option linter.unusedVariables false
set_option linter.unusedSimpArgs false
namespace Go.Proofs.YtohbfcmmpaikhaaDoor
open Go Go.Lf Go.Proofs
attribute [local irreducible] Lf.rg Lf.ro Lf.PWp Lf.SOp Lf.ACall Lf.Scoped Lf.dg Lf.dw
set_option maxRecDepth 20000
set_option maxHeartbeats 4000000
theorem n_append_none {P : Program} {N : Nat} {o : Oper} {Γ : Env} {σ : Sto} {K : AV → Sto → Prop} {x y : Operand} {t e sz bt : Nat} {z : Value} {f q : Bool} {xs ys : List (List AV)} {X Y : AV}
    (ho : o.op = .call { callee := .builtin .append, args := #[x, y], argTypes := #[t, t] }) (ht : P.underlying t = some (.slice e)) (he : EO P e sz bt z)
    (hx : ev Γ x = .sl f q xs) (hY : ev Γ y = Y) (hy : rd σ Y = some ys) (hys : ys = []) (hX : AV.sl f q xs = X) (hK : K X σ) : SOp P N o Γ σ K := by
  subst hY; subst hX; subst hys
  refine SOp.pure (.sl f q xs) (fun ρ w a hf hr => ?_) hK
  have hX := hf.ev x
  rw [hx] at hX
  obtain ⟨ay, cy, vy, ey, ly, my, ny, sy, ry, oy, Vy⟩ := rd_src hr (hf.ev y) hy
  have hX' := hX
  simp only [VR] at hX'
  obtain ⟨ax, cap, sz', e1, e2, _⟩ := hX'
  refine ⟨.slice ax xs.length cap, ?_, ?_⟩
  · apply exec_append ho
    rw [e1, ey]
    exact run_append_zero ht he _ _ _ e2 _ _
  · rw [← e1]; exact hX
end Go.Proofs.YtohbfcmmpaikhaaDoor

set_option linter.unusedVariables false
set_option linter.unusedSimpArgs false
namespace Go.Proofs.YtohbfcmmpaikhaaDoor
open Go Go.Lf Go.Proofs
attribute [local irreducible] Lf.rg Lf.ro Lf.PWp Lf.SOp Lf.ACall Lf.Scoped Lf.dg Lf.dw
set_option maxRecDepth 20000
set_option maxHeartbeats 4000000
def tR0 : List Int := [13, 23, 28, 28, 28, 28, 28, 28, 28, 24, 30, 28, 28, 30, 28, 28]
def tR1 : List Int := [28, 28, 28, 28, 28, 28, 30, 28, 28, 28, 28, 28, 28, 28, 28, 28]
def tR2 : List Int := [6, 10, 10, 12, 13, 6, 8, 11, 10, 10, 8, 11, 8, 6, 6, 6]
def tR3 : List Int := [5, 5, 5, 6, 6, 6, 6, 6, 6, 6, 7, 8, 15, 6, 12, 10]
def tR4 : List Int := [13, 6, 7, 7, 7, 7, 7, 7, 7, 7, 7, 7, 7, 7, 7, 7]
def tR5 : List Int := [7, 7, 7, 7, 7, 7, 7, 7, 8, 7, 8, 13, 19, 13, 14, 6]
def tR6 : List Int := [15, 5, 6, 5, 6, 5, 6, 6, 6, 5, 7, 7, 6, 6, 6, 5]
def tR7 : List Int := [6, 7, 6, 5, 5, 6, 7, 7, 7, 7, 7, 15, 11, 14, 13, 28]
def tR8 : List Int := [20, 22, 20, 20, 22, 22, 22, 23, 22, 23, 23, 23, 23, 23, 24, 23]
def tR9 : List Int := [24, 24, 22, 23, 24, 23, 23, 23, 23, 21, 22, 23, 22, 23, 23, 24]
def tR10 : List Int := [22, 21, 20, 22, 22, 23, 23, 21, 23, 22, 22, 24, 21, 22, 23, 23]
def tR11 : List Int := [21, 21, 22, 21, 23, 22, 23, 23, 20, 22, 22, 22, 23, 22, 22, 23]
def tR12 : List Int := [26, 26, 20, 19, 22, 23, 22, 25, 26, 26, 26, 27, 27, 26, 24, 25]
def tR13 : List Int := [19, 21, 26, 27, 27, 26, 27, 24, 21, 21, 26, 26, 28, 27, 27, 27]
def tR14 : List Int := [20, 24, 20, 21, 22, 21, 21, 23, 22, 22, 25, 25, 24, 24, 26, 23]
def tR15 : List Int := [26, 27, 26, 26, 27, 27, 27, 27, 27, 28, 27, 27, 27, 27, 27, 26]
def tR16 : List Int := [30]
def rowL : Nat → List Int
  | 0 => tR0
  | 1 => tR1
  | 2 => tR2
  | 3 => tR3
  | 4 => tR4
  | 5 => tR5
  | 6 => tR6
  | 7 => tR7
  | 8 => tR8
  | 9 => tR9
  | 10 => tR10
  | 11 => tR11
  | 12 => tR12
  | 13 => tR13
  | 14 => tR14
  | 15 => tR15
  | _ => tR16
def lensT : List Int := (List.range 257).map fun s : Nat => szI (s : Int)
theorem lensT_row : ∀ i : Fin 17, lensT.take (16 * i.val) ++ rowL i.val = lensT.take (16 * (i.val + 1)) := by decide +kernel
theorem lensT_all : lensT.take (16 * 17) = lensT := by decide +kernel
theorem lensT_len : lensT.length = 257 := by simp [lensT]
theorem lensT_at {s : Nat} (h : s < 257) : lensT[s]? = some (szI (s : Int)) := by
  unfold lensT; rw [List.getElem?_map, List.getElem?_range h]; rfl
theorem rowL_len : ∀ i : Fin 17, (rowL i.val).length ≤ 16 ∧ (rowL i.val).map intA ≠ [] := by
  intro i; exact ⟨by revert i; decide +kernel, by intro h; have h2 := congrArg List.length h; rw [List.length_map] at h2; revert h2; revert i; decide +kernel⟩
theorem rrow_n (k : Nat) (hk : k ≤ 16) : AEq Tryd.prog 126 [i64 (k : Int)] [] (.sl true false ((rowL k).map intA)) [] := by
  obtain rfl | rfl | rfl | rfl | rfl | rfl | rfl | rfl | rfl | rfl | rfl | rfl | rfl | rfl | rfl | rfl | rfl : k = 0 ∨ k = 1 ∨ k = 2 ∨ k = 3 ∨ k = 4 ∨ k = 5 ∨ k = 6 ∨ k = 7 ∨ k = 8 ∨ k = 9 ∨ k = 10 ∨ k = 11 ∨ k = 12 ∨ k = 13 ∨ k = 14 ∨ k = 15 ∨ k = 16 := by omega
  all_goals (refine acall_body Tryd.func126 rfl Tryd.ntmps126 (by simp) (fun hsc => ?_); simp only [Lf.enter, Nat.reduceAdd]; clear hsc)
  all_goals (have hU := True.intro)
  all_goals (repeat' (first | (guard_target =~ PWp _ _ _ _ _ _ _; first | (refine pwp_seq_k (fun K hK => ?_)) | (refine pwp_block ?_) | (refine pwp_rg_then ?_) | (refine pwp_ret ?_) | (refine pwp_skip ?_) | ((refine pwp_cond_d (fun hcd => ?_) (fun hcd => ?_)) <;> (try simp only [hcP] at hcd) <;> (try exact cdT))) | (guard_target =~ rg _ _ _ _ _ _ _; first | (guard_target =~ rg _ _ _ [] _ _ _; first | (refine rg_end ?_)) | (refine rg_a rfl (h := ?_)) | (refine rg_v rfl (h := ?_)) | (refine rg_s rfl ?_)) | (guard_target =~ SOp _ _ _ _ _ _; first | (guard_target =~ SOp _ _ ⟨_, .buildSlice _ _ _, _, _, _, none⟩ _ _ _; first | (refine n_lit (xs := List.map (intA) (tR0)) rfl (he := by first | exact eo3 | exact eo4 | exact eo53 | fail) (hc := by first | rfl | assumption | (simp (disch := omega) only [go_sem, seval, ↓reduceIte, hU]; rfl)) (hK := ?_)) | (refine n_lit (xs := List.map (intA) (tR1)) rfl (he := by first | exact eo3 | exact eo4 | exact eo53 | fail) (hc := by first | rfl | assumption | (simp (disch := omega) only [go_sem, seval, ↓reduceIte, hU]; rfl)) (hK := ?_)) | (refine n_lit (xs := List.map (intA) (tR2)) rfl (he := by first | exact eo3 | exact eo4 | exact eo53 | fail) (hc := by first | rfl | assumption | (simp (disch := omega) only [go_sem, seval, ↓reduceIte, hU]; rfl)) (hK := ?_)) | (refine n_lit (xs := List.map (intA) (tR3)) rfl (he := by first | exact eo3 | exact eo4 | exact eo53 | fail) (hc := by first | rfl | assumption | (simp (disch := omega) only [go_sem, seval, ↓reduceIte, hU]; rfl)) (hK := ?_)) | (refine n_lit (xs := List.map (intA) (tR4)) rfl (he := by first | exact eo3 | exact eo4 | exact eo53 | fail) (hc := by first | rfl | assumption | (simp (disch := omega) only [go_sem, seval, ↓reduceIte, hU]; rfl)) (hK := ?_)) | (refine n_lit (xs := List.map (intA) (tR5)) rfl (he := by first | exact eo3 | exact eo4 | exact eo53 | fail) (hc := by first | rfl | assumption | (simp (disch := omega) only [go_sem, seval, ↓reduceIte, hU]; rfl)) (hK := ?_)) | (refine n_lit (xs := List.map (intA) (tR6)) rfl (he := by first | exact eo3 | exact eo4 | exact eo53 | fail) (hc := by first | rfl | assumption | (simp (disch := omega) only [go_sem, seval, ↓reduceIte, hU]; rfl)) (hK := ?_)) | (refine n_lit (xs := List.map (intA) (tR7)) rfl (he := by first | exact eo3 | exact eo4 | exact eo53 | fail) (hc := by first | rfl | assumption | (simp (disch := omega) only [go_sem, seval, ↓reduceIte, hU]; rfl)) (hK := ?_)) | (refine n_lit (xs := List.map (intA) (tR8)) rfl (he := by first | exact eo3 | exact eo4 | exact eo53 | fail) (hc := by first | rfl | assumption | (simp (disch := omega) only [go_sem, seval, ↓reduceIte, hU]; rfl)) (hK := ?_)) | (refine n_lit (xs := List.map (intA) (tR9)) rfl (he := by first | exact eo3 | exact eo4 | exact eo53 | fail) (hc := by first | rfl | assumption | (simp (disch := omega) only [go_sem, seval, ↓reduceIte, hU]; rfl)) (hK := ?_)) | (refine n_lit (xs := List.map (intA) (tR10)) rfl (he := by first | exact eo3 | exact eo4 | exact eo53 | fail) (hc := by first | rfl | assumption | (simp (disch := omega) only [go_sem, seval, ↓reduceIte, hU]; rfl)) (hK := ?_)) | (refine n_lit (xs := List.map (intA) (tR11)) rfl (he := by first | exact eo3 | exact eo4 | exact eo53 | fail) (hc := by first | rfl | assumption | (simp (disch := omega) only [go_sem, seval, ↓reduceIte, hU]; rfl)) (hK := ?_)) | (refine n_lit (xs := List.map (intA) (tR12)) rfl (he := by first | exact eo3 | exact eo4 | exact eo53 | fail) (hc := by first | rfl | assumption | (simp (disch := omega) only [go_sem, seval, ↓reduceIte, hU]; rfl)) (hK := ?_)) | (refine n_lit (xs := List.map (intA) (tR13)) rfl (he := by first | exact eo3 | exact eo4 | exact eo53 | fail) (hc := by first | rfl | assumption | (simp (disch := omega) only [go_sem, seval, ↓reduceIte, hU]; rfl)) (hK := ?_)) | (refine n_lit (xs := List.map (intA) (tR14)) rfl (he := by first | exact eo3 | exact eo4 | exact eo53 | fail) (hc := by first | rfl | assumption | (simp (disch := omega) only [go_sem, seval, ↓reduceIte, hU]; rfl)) (hK := ?_)) | (refine n_lit (xs := List.map (intA) (tR15)) rfl (he := by first | exact eo3 | exact eo4 | exact eo53 | fail) (hc := by first | rfl | assumption | (simp (disch := omega) only [go_sem, seval, ↓reduceIte, hU]; rfl)) (hK := ?_)) | (refine n_lit (xs := List.map (intA) (tR16)) rfl (he := by first | exact eo3 | exact eo4 | exact eo53 | fail) (hc := by first | rfl | assumption | (simp (disch := omega) only [go_sem, seval, ↓reduceIte, hU]; rfl)) (hK := ?_)))) | (guard_target =~ (_ ∨ _) ∧ _; first | ((refine end_d [] (by rw [Tryd.results126, Lf.res1]) (ale_1 ?_) ?_) <;> (try (first | exact aleT | exact stq (by with_reducible rfl) | exact stq (by rfl) | exact stq (by simp (disch := omega) only [go_sem, seval, ↓reduceIte, hU]))))) | (refine hK _ _ ?_; clear hK K)))
attribute [local irreducible] rowL szI lensT symK ordN cntN codeN
theorem rlengths : AEq Tryd.prog 101 [] [] (.sl false false (lensT.map intA)) [] := by
  refine acall_body Tryd.func101 rfl Tryd.ntmps101 (by simp) (fun hsc => ?_); simp only [Lf.enter, Nat.reduceAdd]; clear hsc
  have hU := True.intro
  repeat' (first | (guard_target =~ PWp _ _ _ _ _ _ _; first | (refine pwp_seq_k (fun K hK => ?_)) | (refine pwp_block ?_) | (refine pwp_rg_then ?_)) | (guard_target =~ rg _ _ _ _ _ _ _; first | (guard_target =~ rg _ _ _ [] _ _ _; first | (refine rg_end ?_)) | (refine rg_a rfl (h := ?_))) | (refine hK _ _ ?_; clear hK K))
  refine pwp_row 1 3 1 (by decide) (by rfl) rfl rfl ?_
  refine pwp_loop_g [1, 2, 3, 4, 5, 6, 7, 8, 9, 10] [0] (fun i : Nat => [(2, i64 i), (1, .row 0 i)]) (fun i => [.row i 3 1 ((lensT.take (16 * i)).map intA)]) (fun i => i ≤ 17) (fun i => 17 - i) 0 (fun _ => rfl) rfl rfl (by decide) ?_ (by rw [Nat.mul_zero, List.take_zero]; rfl) (by intro s i x h; simp only [List.mem_cons, Prod.mk.injEq, List.not_mem_nil, or_false] at h; rcases h with ⟨rfl, _⟩ | ⟨rfl, _⟩ <;> decide) ?_
  · (refine ⟨⟨_, sT, ?_⟩, ⟨_, sT, ?_⟩, trivial⟩ <;> (try (first | exact aleT)))
  · rintro i hi
    simp only [mask, List.map_cons, List.map_nil, List.cons_append, List.nil_append]
    by_cases hlt : i < 17
    · have hrow := lensT_row ⟨i, hlt⟩
      obtain ⟨hrl, hne⟩ := rowL_len ⟨i, hlt⟩
      dsimp only at hrow hrl hne
      have htl : (lensT.take (16 * i)).length ≤ 257 := by rw [List.length_take, lensT_len]; omega
      have hfm : List.map intA (lensT.take (16 * i)) ++ List.map intA (rowL i) = List.map intA (lensT.take (16 * (i + 1))) := by rw [← List.map_append, hrow]
      have hU := @hfm
      repeat' (first | (guard_target =~ PWp _ _ _ _ _ _ _; first | (refine pwp_seq_k (fun K hK => ?_)) | (refine pwp_block ?_) | (refine pwp_rg_then ?_) | (refine pwp_rg ?_) | (refine pwp_skip ?_) | ((refine pwp_cond_d (fun hcd => ?_) (fun hcd => ?_)) <;> (try simp only [hcP] at hcd) <;> (try exact cdT))) | (guard_target =~ rg _ _ _ _ _ _ _; first | (guard_target =~ rg _ _ _ [] _ _ _; first | (refine rg_end ?_)) | (refine rg_a rfl (h := ?_)) | (refine rg_v rfl (h := ?_)) | (refine rg_s rfl ?_)) | (guard_target =~ SOp _ _ _ _ _ _; first | (guard_target =~ SOp _ _ ⟨_, .call ⟨.builtin .append, _, _⟩, _, _, _, none⟩ _ _ _; first | (refine n_append_row rfl (he := by first | exact eo3 | exact eo4 | exact eo53 | fail) (hK := ?_))) | (guard_target =~ SOp _ _ ⟨_, .call ⟨.value (.func 126), _, _⟩, _, _, _, none⟩ _ _ _; first | (refine n_call (f := 126) rfl Tryd.call126 (h := AEq.pure' agT (rrow_n _ (by omega)) (hq := ?_))))) | (refine hK _ _ ?_; clear hK K))
      refine ⟨i + 1, by omega, by omega, ?_, (by repeat' (first | exact agr_refl | refine agr_cons (by rfl) ?_)), (by first | rfl | (simp (disch := omega) only [go_sem, seval, ↓reduceIte, hU]; done) | (simp (disch := omega) only [go_sem, seval, ↓reduceIte, hU]; rfl))⟩
      (refine ⟨⟨_, sT, ?_⟩, ⟨_, sT, ?_⟩, trivial⟩ <;> (try (first | exact aleT)))
    · have hi7 : i = 17 := by omega
      subst hi7
      have hall := lensT_all
      have hU := @hall
      repeat' (first | (guard_target =~ PWp _ _ _ _ _ _ _; first | (refine pwp_seq_k (fun K hK => ?_)) | (refine pwp_rg_then ?_) | (refine pwp_ret ?_) | (refine pwp_exit ?_) | ((refine pwp_cond_d (fun hcd => ?_) (fun hcd => ?_)) <;> (try simp only [hcP] at hcd) <;> (try exact cdT))) | (guard_target =~ rg _ _ _ _ _ _ _; first | (guard_target =~ rg _ _ _ [] _ _ _; first | (refine rg_end ?_)) | (refine rg_a rfl (h := ?_)) | (refine rg_v rfl (h := ?_))) | (guard_target =~ (_ ∨ _) ∧ _; first | ((refine end_d [] (by rw [Tryd.results101, Lf.res1]) (ale_1 ?_) ?_) <;> (try (first | exact aleT | exact stq (by with_reducible rfl) | exact stq (by rfl) | exact stq (by simp (disch := omega) only [go_sem, seval, ↓reduceIte, hU]))))) | (refine hK _ _ ?_; clear hK K) | (apply_assumption (exfalso := false) (symm := false)))
theorem rorder : AEq Tryd.prog 125 [] [] (.sl false false ((ordN 31).map natA)) [] := by
  have hll := lensT_len
  refine acall_body Tryd.func125 rfl Tryd.ntmps125 (by simp) (fun hsc => ?_); simp only [Lf.enter, Nat.reduceAdd]; clear hsc
  have hU := True.intro
  repeat' (first | (guard_target =~ PWp _ _ _ _ _ _ _; first | (refine pwp_seq_k (fun K hK => ?_)) | (refine pwp_block ?_) | (refine pwp_rg_then ?_)) | (guard_target =~ rg _ _ _ _ _ _ _; first | (guard_target =~ rg _ _ _ [] _ _ _; first | (refine rg_end ?_)) | (refine rg_a rfl (h := ?_)) | (refine rg_s rfl ?_)) | (guard_target =~ SOp _ _ _ _ _ _; first | (guard_target =~ SOp _ _ ⟨_, .call ⟨.value (.func 101), _, _⟩, _, _, _, none⟩ _ _ _; first | (refine n_call (f := 101) rfl Tryd.call101 (h := AEq.pure' agT rlengths (hq := ?_))))) | (refine hK _ _ ?_; clear hK K))
  refine pwp_row 2 3 1 (by decide) (by rfl) rfl rfl ?_
  refine pwp_loop_g [2, 3, 4, 6, 7, 8, 9, 10, 11, 12, 13, 14, 15, 16, 17, 18, 19, 20, 21, 22, 23] [0] (fun n : Nat => [(3, i64 n), (2, .row 0 (ordN n).length)]) (fun n => [.row (ordN n).length 3 1 ((ordN n).map natA)]) (fun n => 1 ≤ n ∧ n ≤ 31) (fun n => 31 - n) 1 (fun _ => rfl) rfl rfl ⟨by decide, by decide⟩ ?_ (by rw [ordN_one]; rfl) (by intro s i x h; simp only [List.mem_cons, Prod.mk.injEq, List.not_mem_nil, or_false] at h; rcases h with ⟨rfl, _⟩ | ⟨rfl, _⟩ <;> decide) ?_
  · (refine ⟨⟨_, sT, ?_⟩, ⟨_, sT, ?_⟩, trivial⟩ <;> (try (first | exact aleT)))
    all_goals exact ale_eq (by rw [ordN_one]; rfl)
  · rintro n ⟨h1, h31⟩
    simp only [mask, List.map_cons, List.map_nil, List.cons_append, List.nil_append]
    by_cases hlt : n < 31
    · have hol := ordN_len ⟨n, by omega⟩
      dsimp only at hol
      repeat' (first | (guard_target =~ PWp _ _ _ _ _ _ _; first | (refine pwp_seq_k (fun K hK => ?_)) | (refine pwp_block ?_) | (refine pwp_rg_then ?_) | (refine pwp_skip ?_) | ((refine pwp_cond_d (fun hcd => ?_) (fun hcd => ?_)) <;> (try simp only [hcP] at hcd) <;> (try exact cdT))) | (guard_target =~ rg _ _ _ _ _ _ _; first | (guard_target =~ rg _ _ _ [] _ _ _; first | (refine rg_end ?_)) | (refine rg_a rfl (h := ?_)) | (refine rg_v rfl (h := ?_))) | (refine hK _ _ ?_; clear hK K))
      refine pwp_loop_g [2, 4, 10, 11, 12, 13, 14, 15, 16, 17, 18, 19, 20, 21, 22, 23] [0] (fun k : Nat => [(4, i64 k), (2, .row 0 ((ordN n).length + (symK n k).length))]) (fun k => [.row ((ordN n).length + (symK n k).length) 3 1 ((ordN n ++ symK n k).map natA)]) (fun k => k ≤ 257) (fun k => 257 - k) 0 (fun _ => rfl) rfl rfl (Nat.zero_le _) ?_ (by rw [symK_0, List.append_nil]; rfl) (by intro s i x h; simp only [List.mem_cons, Prod.mk.injEq, List.not_mem_nil, or_false] at h; rcases h with ⟨rfl, _⟩ | ⟨rfl, _⟩ <;> decide) ?_
      · (refine ⟨⟨_, sT, ?_⟩, ⟨_, sT, ?_⟩, trivial⟩ <;> (try (first | exact aleT)))
        all_goals exact ale_eq (by rw [symK_0]; rfl)
      · rintro k hk
        simp only [mask, List.map_cons, List.map_nil, List.cons_append, List.nil_append]
        by_cases hlt3 : k < 257
        · have hsl := symK_le n k
          have hat := lensT_at hlt3
          by_cases hsz : szI (k : Int) = (n : Int)
          · obtain ⟨st, hst⟩ : ∃ st, (ordN n).length + (symK n k).length = st := ⟨_, rfl⟩
            rw [hst]
            have hol2 : (ordN n ++ symK n k).length = st := by rw [List.length_append]; exact hst
            have hap : List.map natA (ordN n ++ symK n k) ++ [[AV.lit (.int .i64 (k : Int))]] = List.map natA (ordN n ++ symK n (k + 1)) := by
              rw [symK_succ, if_pos hsz, ← List.append_assoc, List.map_append (l₁ := ordN n ++ symK n k)]; rfl
            have hst2 : (ordN n).length + (symK n (k + 1)).length = st + 1 := by rw [symK_succ, if_pos hsz, List.length_append]; simp; omega
            have hU := And.intro @hap (@hsz)
            repeat' (first | (guard_target =~ PWp _ _ _ _ _ _ _; first | (refine pwp_seq_k (fun K hK => ?_)) | (refine pwp_block ?_) | (refine pwp_rg_then ?_) | (refine pwp_rg ?_) | (refine pwp_skip ?_) | ((refine pwp_cond_d (fun hcd => ?_) (fun hcd => ?_)) <;> (try simp only [hcP] at hcd) <;> (try exact cdT))) | (guard_target =~ rg _ _ _ _ _ _ _; first | (guard_target =~ rg _ _ _ [] _ _ _; first | (refine rg_end ?_)) | (refine rg_a rfl (h := ?_)) | (refine rg_v rfl (h := ?_)) | (refine rg_s rfl ?_)) | (guard_target =~ SOp _ _ _ _ _ _; first | (guard_target =~ SOp _ _ ⟨_, .buildSlice _ _ _, _, _, _, none⟩ _ _ _; first | (refine n_lit rfl (he := by first | exact eo3 | exact eo4 | exact eo53 | fail) (hK := ?_))) | (guard_target =~ SOp _ _ ⟨_, .call ⟨.builtin .append, _, _⟩, _, _, _, none⟩ _ _ _; first | (refine n_append_row rfl (he := by first | exact eo3 | exact eo4 | exact eo53 | fail) (hK := ?_))) | (guard_target =~ SOp _ _ ⟨_, .indexAddr _ _ _, _, _, _, none⟩ _ _ _; first | (refine n_index rfl (hK := ?_)))) | (refine hK _ _ ?_; clear hK K))
            refine ⟨k + 1, by omega, by omega, ?_, (by repeat' (first | exact agr_refl | refine agr_cons (by rfl) ?_)), ?_⟩
            · rw [hst2]
              (refine ⟨⟨_, sT, ?_⟩, ⟨_, sT, ?_⟩, trivial⟩ <;> (try (first | exact aleT)))
            · rw [hst2]
              first | rfl | (simp only [hap, go_sem]; done) | trace_state
          · have hst2 : (ordN n).length + (symK n (k + 1)).length = (ordN n).length + (symK n k).length := by rw [symK_succ, if_neg hsz, List.append_nil]
            have hsy : symK n (k + 1) = symK n k := by rw [symK_succ, if_neg hsz, List.append_nil]
            repeat' (first | (guard_target =~ PWp _ _ _ _ _ _ _; first | (refine pwp_seq_k (fun K hK => ?_)) | (refine pwp_block ?_) | (refine pwp_rg_then ?_) | (refine pwp_skip ?_) | ((refine pwp_cond_d (fun hcd => ?_) (fun hcd => ?_)) <;> (try simp only [hcP] at hcd) <;> (try exact cdT))) | (guard_target =~ rg _ _ _ _ _ _ _; first | (guard_target =~ rg _ _ _ [] _ _ _; first | (refine rg_end ?_)) | (refine rg_a rfl (h := ?_)) | (refine rg_v rfl (h := ?_)) | (refine rg_s rfl ?_)) | (guard_target =~ SOp _ _ _ _ _ _; first | (guard_target =~ SOp _ _ ⟨_, .indexAddr _ _ _, _, _, _, none⟩ _ _ _; first | (refine n_index rfl (hK := ?_)))) | (refine hK _ _ ?_; clear hK K))
            refine ⟨k + 1, by omega, by omega, ?_, (by repeat' (first | exact agr_refl | refine agr_cons (by rfl) ?_)), ?_⟩
            · rw [hsy]
              (refine ⟨⟨_, sT, ?_⟩, ⟨_, sT, ?_⟩, trivial⟩ <;> (try (first | exact aleT)))
            · rw [hsy]
              first | rfl | (simp only [go_sem]; done) | trace_state
        · have hk7 : k = 257 := by omega
          subst hk7
          have hon : (ordN (n + 1)).length = (ordN n).length + (symK n 257).length := by rw [ordN_succ, List.length_append]
          repeat' (first | (guard_target =~ PWp _ _ _ _ _ _ _; first | (refine pwp_seq_k (fun K hK => ?_)) | (refine pwp_rg_then ?_) | (refine pwp_exit ?_) | ((refine pwp_cond_d (fun hcd => ?_) (fun hcd => ?_)) <;> (try simp only [hcP] at hcd) <;> (try exact cdT))) | (guard_target =~ rg _ _ _ _ _ _ _; first | (guard_target =~ rg _ _ _ [] _ _ _; first | (refine rg_end ?_)) | (refine rg_a rfl (h := ?_)) | (refine rg_v rfl (h := ?_))) | (refine hK _ _ ?_; clear hK K) | (apply_assumption (exfalso := false) (symm := false)))
          refine ⟨n + 1, ⟨by omega, by omega⟩, by omega, ?_, (by repeat' (first | exact agr_refl | refine agr_cons (by rfl) ?_)), ?_⟩
          · rw [hon]
            (refine ⟨⟨_, sT, ?_⟩, ⟨_, sT, ?_⟩, trivial⟩ <;> (try (first | exact aleT)))
          · rw [hon, ordN_succ]
            first | rfl | (simp only [go_sem]; done) | trace_state
    · have hn31 : n = 31 := by omega
      subst hn31
      repeat' (first | (guard_target =~ PWp _ _ _ _ _ _ _; first | (refine pwp_seq_k (fun K hK => ?_)) | (refine pwp_rg_then ?_) | (refine pwp_ret ?_) | (refine pwp_exit ?_) | ((refine pwp_cond_d (fun hcd => ?_) (fun hcd => ?_)) <;> (try simp only [hcP] at hcd) <;> (try exact cdT))) | (guard_target =~ rg _ _ _ _ _ _ _; first | (guard_target =~ rg _ _ _ [] _ _ _; first | (refine rg_end ?_)) | (refine rg_a rfl (h := ?_)) | (refine rg_v rfl (h := ?_))) | (guard_target =~ (_ ∨ _) ∧ _; first | ((refine end_d [] (by rw [Tryd.results125, Lf.res1]) (ale_1 ?_) ?_) <;> (try (first | exact aleT | exact stq (by with_reducible rfl) | exact stq (by rfl) | exact stq (by simp (disch := omega) only [go_sem, seval, ↓reduceIte, hU]))))) | (refine hK _ _ ?_; clear hK K) | (apply_assumption (exfalso := false) (symm := false)))
end Go.Proofs.YtohbfcmmpaikhaaDoor

set_option linter.unusedVariables false
set_option linter.unusedSimpArgs false
namespace Go.Proofs.YtohbfcmmpaikhaaDoor
open Go Go.Lf Go.Proofs
attribute [local irreducible] Lf.rg Lf.ro Lf.PWp Lf.SOp Lf.ACall Lf.Scoped Lf.dg Lf.dw
set_option maxRecDepth 20000
set_option maxHeartbeats 4000000
def symT : List Nat := [48, 49, 50, 97, 99, 101, 105, 111, 115, 116, 32, 37, 45, 46, 47, 51, 52, 53, 54, 55, 56, 57, 61, 65, 95, 98, 100, 102, 103, 104, 108, 109, 110, 112, 114, 117, 58, 66, 67, 68, 69, 70, 71, 72, 73, 74, 75, 76, 77, 78, 79, 80, 81, 82, 83, 84, 85, 86, 87, 89, 106, 107, 113, 118, 119, 120, 121, 122, 38, 42, 44, 59, 88, 90, 33, 34, 40, 41, 63, 39, 43, 124, 35, 62, 0, 36, 64, 91, 93, 126, 94, 125, 60, 96, 123, 92, 195, 208, 128, 130, 131, 162, 184, 194, 224, 226, 153, 161, 167, 172, 176, 177, 179, 209, 216, 217, 227, 229, 230, 129, 132, 133, 134, 136, 146, 154, 156, 160, 163, 164, 169, 170, 173, 178, 181, 185, 186, 187, 189, 190, 196, 198, 228, 232, 233, 1, 135, 137, 138, 139, 140, 141, 143, 147, 149, 150, 151, 152, 155, 157, 158, 165, 166, 168, 174, 175, 180, 182, 183, 188, 191, 197, 231, 239, 9, 142, 144, 145, 148, 159, 171, 206, 215, 225, 236, 237, 199, 207, 234, 235, 192, 193, 200, 201, 202, 205, 210, 213, 218, 219, 238, 240, 242, 243, 255, 203, 204, 211, 212, 214, 221, 222, 223, 241, 244, 245, 246, 247, 248, 250, 251, 252, 253, 254, 2, 3, 4, 5, 6, 7, 8, 11, 12, 14, 15, 16, 17, 18, 19, 20, 21, 23, 24, 25, 26, 27, 28, 29, 30, 31, 127, 220, 249, 10, 13, 22, 256]
def lenO : List Nat := [5, 5, 5, 5, 5, 5, 5, 5, 5, 5, 6, 6, 6, 6, 6, 6, 6, 6, 6, 6, 6, 6, 6, 6, 6, 6, 6, 6, 6, 6, 6, 6, 6, 6, 6, 6, 7, 7, 7, 7, 7, 7, 7, 7, 7, 7, 7, 7, 7, 7, 7, 7, 7, 7, 7, 7, 7, 7, 7, 7, 7, 7, 7, 7, 7, 7, 7, 7, 8, 8, 8, 8, 8, 8, 10, 10, 10, 10, 10, 11, 11, 11, 12, 12, 13, 13, 13, 13, 13, 13, 14, 14, 15, 15, 15, 19, 19, 19, 20, 20, 20, 20, 20, 20, 20, 20, 21, 21, 21, 21, 21, 21, 21, 21, 21, 21, 21, 21, 21, 22, 22, 22, 22, 22, 22, 22, 22, 22, 22, 22, 22, 22, 22, 22, 22, 22, 22, 22, 22, 22, 22, 22, 22, 22, 22, 23, 23, 23, 23, 23, 23, 23, 23, 23, 23, 23, 23, 23, 23, 23, 23, 23, 23, 23, 23, 23, 23, 23, 23, 23, 23, 23, 23, 23, 24, 24, 24, 24, 24, 24, 24, 24, 24, 24, 24, 24, 25, 25, 25, 25, 26, 26, 26, 26, 26, 26, 26, 26, 26, 26, 26, 26, 26, 26, 26, 27, 27, 27, 27, 27, 27, 27, 27, 27, 27, 27, 27, 27, 27, 27, 27, 27, 27, 27, 28, 28, 28, 28, 28, 28, 28, 28, 28, 28, 28, 28, 28, 28, 28, 28, 28, 28, 28, 28, 28, 28, 28, 28, 28, 28, 28, 28, 28, 30, 30, 30, 30]
def codO : List Int := [0, 1, 2, 3, 4, 5, 6, 7, 8, 9, 20, 21, 22, 23, 24, 25, 26, 27, 28, 29, 30, 31, 32, 33, 34, 35, 36, 37, 38, 39, 40, 41, 42, 43, 44, 45, 92, 93, 94, 95, 96, 97, 98, 99, 100, 101, 102, 103, 104, 105, 106, 107, 108, 109, 110, 111, 112, 113, 114, 115, 116, 117, 118, 119, 120, 121, 122, 123, 248, 249, 250, 251, 252, 253, 1016, 1017, 1018, 1019, 1020, 2042, 2043, 2044, 4090, 4091, 8184, 8185, 8186, 8187, 8188, 8189, 16380, 16381, 32764, 32765, 32766, 524272, 524273, 524274, 1048550, 1048551, 1048552, 1048553, 1048554, 1048555, 1048556, 1048557, 2097116, 2097117, 2097118, 2097119, 2097120, 2097121, 2097122, 2097123, 2097124, 2097125, 2097126, 2097127, 2097128, 4194258, 4194259, 4194260, 4194261, 4194262, 4194263, 4194264, 4194265, 4194266, 4194267, 4194268, 4194269, 4194270, 4194271, 4194272, 4194273, 4194274, 4194275, 4194276, 4194277, 4194278, 4194279, 4194280, 4194281, 4194282, 4194283, 8388568, 8388569, 8388570, 8388571, 8388572, 8388573, 8388574, 8388575, 8388576, 8388577, 8388578, 8388579, 8388580, 8388581, 8388582, 8388583, 8388584, 8388585, 8388586, 8388587, 8388588, 8388589, 8388590, 8388591, 8388592, 8388593, 8388594, 8388595, 8388596, 16777194, 16777195, 16777196, 16777197, 16777198, 16777199, 16777200, 16777201, 16777202, 16777203, 16777204, 16777205, 33554412, 33554413, 33554414, 33554415, 67108832, 67108833, 67108834, 67108835, 67108836, 67108837, 67108838, 67108839, 67108840, 67108841, 67108842, 67108843, 67108844, 67108845, 67108846, 134217694, 134217695, 134217696, 134217697, 134217698, 134217699, 134217700, 134217701, 134217702, 134217703, 134217704, 134217705, 134217706, 134217707, 134217708, 134217709, 134217710, 134217711, 134217712, 268435426, 268435427, 268435428, 268435429, 268435430, 268435431, 268435432, 268435433, 268435434, 268435435, 268435436, 268435437, 268435438, 268435439, 268435440, 268435441, 268435442, 268435443, 268435444, 268435445, 268435446, 268435447, 268435448, 268435449, 268435450, 268435451, 268435452, 268435453, 268435454, 1073741820, 1073741821, 1073741822, 1073741823]
theorem symT_is : ordN 31 = symT := by decide +kernel
theorem symT_len : symT.length = 257 := by decide +kernel
theorem symT_lt : ∀ s ∈ symT, s < 257 := by decide +kernel
theorem lenO_is : symT.map (fun s : Nat => szI (s : Int)) = lenO.map (fun n : Nat => (n : Int)) := by decide +kernel
theorem codO_is : symT.map csI = codO := by decide +kernel
def outL : Nat → List Int
  | 0 => List.replicate 257 0
  | i + 1 => (outL i).set (symT.getD i 0) (codO.getD i 0)
def cdB : Nat → Int
  | 0 => 0
  | i + 1 => codO.getD i 0
theorem cdB_0 : cdB 0 = 0 := rfl
theorem cdB_s (i : Nat) : cdB (i + 1) = codO.getD i 0 := rfl
def codesT : List Int := (List.range 257).map csI
theorem outL_all : outL 257 = codesT := by decide +kernel
theorem outL_len : ∀ i, (outL i).length = 257
  | 0 => by simp [outL]
  | i + 1 => by rw [outL, List.length_set, outL_len i]
theorem lenO_up : ∀ i : Fin 256, lenO.getD i.val 0 ≤ lenO.getD (i.val + 1) 0 ∧ lenO.getD (i.val + 1) 0 ≤ 30 := by decide +kernel
theorem codO_up : ∀ i : Fin 256, codO.getD (i.val + 1) 0 = (codO.getD i.val 0 + 1) * 2 ^ (lenO.getD (i.val + 1) 0 - lenO.getD i.val 0) := by decide +kernel
theorem codO_bd : ∀ i : Fin 257, 0 ≤ codO.getD i.val 0 ∧ codO.getD i.val 0 ≤ 1073741823 := by decide +kernel
theorem codO_0 : codO.getD 0 0 = 0 := by decide +kernel
theorem lenO_len : lenO.length = 257 := by decide +kernel
theorem sym_at {i : Nat} (h : i < 257) : ∃ s, symT[i]? = some s ∧ s < 257 ∧ symT.getD i 0 = s ∧ szI (s : Int) = (lenO.getD i 0 : Nat) := by
  have hl : i < symT.length := by rw [symT_len]; exact h
  refine ⟨symT[i], List.getElem?_eq_getElem hl, symT_lt _ (List.getElem_mem hl), ?_, ?_⟩
  · rw [List.getD_eq_getElem?_getD, List.getElem?_eq_getElem hl]; rfl
  · have e := congrArg (fun l : List Int => l[i]?) lenO_is
    have hl2 : i < lenO.length := by rw [lenO_len]; exact h
    rw [List.getElem?_map, List.getElem?_map, List.getElem?_eq_getElem hl, List.getElem?_eq_getElem hl2] at e
    rw [List.getD_eq_getElem?_getD, List.getElem?_eq_getElem hl2]
    exact Option.some.inj e
theorem pow_bd : ∀ k : Fin 32, (1 : Int) ≤ 2 ^ k.val ∧ (2 : Int) ^ k.val ≤ 2147483648 := by decide +kernel
theorem zb_bd {x y z : Int} {c a n : Nat} (h : (x + 1) * 2 ^ (n - a) = z) (hup : y = (x + 1) * 2 ^ (c - a)) (hy : 0 ≤ y ∧ y ≤ 1073741823) (hx : 0 ≤ x) (h1 : a ≤ n) (h2 : n ≤ c) : 0 ≤ z ∧ z ≤ 2147483648 := by
  have p1 : (1 : Int) ≤ 2 ^ (n - a) := Int.pow_pos (by decide)
  have p2 : (1 : Int) ≤ 2 ^ (c - n) := Int.pow_pos (by decide)
  have e : (2 : Int) ^ (c - a) = 2 ^ (n - a) * 2 ^ (c - n) := by rw [← Int.pow_add]; congr 1; omega
  have hz0 : 0 ≤ z := by rw [← h]; exact Int.mul_nonneg (by omega) (by omega)
  rw [e, ← Int.mul_assoc, h] at hup
  have : z * 1 ≤ z * 2 ^ (c - n) := Int.mul_le_mul_of_nonneg_left p2 hz0
  omega
theorem rorder2 : AEq Tryd.prog 125 [] [] (.sl false false (symT.map natA)) [] := by
  have h := rorder
  rw [symT_is] at h
  exact h
attribute [local irreducible] szI lensT symT codO lenO outL codesT csI cdB
theorem rcodes : AEq Tryd.prog 100 [] [] (.sl false false (codesT.map intA)) [] := by
  have hsl := symT_len
  have hll := lensT_len
  have hz : List.replicate 257 [AV.lit (.int .i64 0)] = List.map intA (outL 0) := by with_unfolding_all rfl
  refine acall_body Tryd.func100 rfl Tryd.ntmps100 (by simp) (fun hsc => ?_); simp only [Lf.enter, Nat.reduceAdd]; clear hsc
  have hU := @hz
  repeat' (first | (guard_target =~ PWp _ _ _ _ _ _ _; first | (refine pwp_seq_k (fun K hK => ?_)) | (refine pwp_block ?_) | (refine pwp_rg_then ?_)) | (guard_target =~ rg _ _ _ _ _ _ _; first | (guard_target =~ rg _ _ _ [] _ _ _; first | (refine rg_end ?_)) | (refine rg_a rfl (h := ?_)) | (refine rg_s rfl ?_)) | (guard_target =~ SOp _ _ _ _ _ _; first | (guard_target =~ SOp _ _ ⟨_, .call ⟨.value (.func 125), _, _⟩, _, _, _, none⟩ _ _ _; first | (refine n_call (f := 125) rfl Tryd.call125 (h := AEq.pure' agT rorder2 (hq := ?_)))) | (guard_target =~ SOp _ _ ⟨_, .call ⟨.value (.func 101), _, _⟩, _, _, _, none⟩ _ _ _; first | (refine n_call (f := 101) rfl Tryd.call101 (h := AEq.pure' agT rlengths (hq := ?_)))) | (guard_target =~ SOp _ _ ⟨_, .makeSlice _ _ _, _, _, _, none⟩ _ _ _; first | (refine n_make rfl (he := by first | exact eo3 | exact eo4 | exact eo53 | fail) (hK := ?_)))) | (refine hK _ _ ?_; clear hK K))
  refine pwp_loop_e [4, 5, 6, 10, 11, 12, 13, 14, 15, 16, 17, 18, 19, 20, 21, 22, 23, 24, 25, 26, 27, 28, 29, 30, 31, 32, 33, 34, 35, 36, 37, 38, 39, 40, 41, 42, 43, 44, 45, 46, 47] (fun i : Nat => [(5, i64 i), (4, i64 (cdB i))]) (fun i => [.row 0 3 1 ((outL i).map intA)]) (fun i => i ≤ 257) (fun i => 257 - i) 0 (Nat.zero_le _) ?_ ?_ ?_
  · have hU := True.intro
    (refine ⟨⟨_, sT, ?_⟩, ⟨_, sT, ?_⟩, trivial⟩ <;> (try (first | exact aleT)))
    all_goals exact ale_i cdB_0.symm
  · first | rfl | (rw [← hz]; rfl) | trace_state
  · rintro i hi
    simp only [mask, List.map_cons, List.map_nil, List.cons_append, List.nil_append]
    by_cases hlt : i < 257
    · obtain ⟨s, hs, hs1, hs2, hs3⟩ := sym_at hlt
      have hsz := lensT_at hs1
      have hol := outL_len i
      have hob := codO_bd ⟨i, hlt⟩
      dsimp only at hob
      obtain ⟨v0, hv0⟩ : ∃ v0, (outL i)[s]? = some v0 := ⟨(outL i)[s], List.getElem?_eq_getElem (by omega)⟩
      have hset : (List.map intA (outL i)).set s [AV.lit (.int .i64 (codO.getD i 0))] = List.map intA (outL (i + 1)) := by
        rw [outL, hs2, List.map_set]; rfl
      cases i with
      | zero =>
        have hc0 := codO_0
        rw [hc0] at hset
        have hcd0 := cdB_0
        have hU := And.intro @hset ( And.intro @hv0 (@hcd0))
        repeat' (first | (guard_target =~ PWp _ _ _ _ _ _ _; first | (refine pwp_seq_k (fun K hK => ?_)) | (refine pwp_block ?_) | (refine pwp_rg_then ?_) | (refine pwp_rg ?_) | (refine pwp_skip ?_) | ((refine pwp_cond_d (fun hcd => ?_) (fun hcd => ?_)) <;> (try simp only [hcP] at hcd) <;> (try exact cdT))) | (guard_target =~ rg _ _ _ _ _ _ _; first | (guard_target =~ rg _ _ _ [] _ _ _; first | (refine rg_end ?_)) | (refine rg_a rfl (h := ?_)) | (refine rg_v rfl (h := ?_)) | (refine rg_s rfl ?_) | (refine rg_n rfl ?_)) | (guard_target =~ SOp _ _ _ _ _ _; first | (guard_target =~ SOp _ _ ⟨_, .indexAddr _ _ _, _, _, _, none⟩ _ _ _; first | (refine n_index rfl (hK := ?_)) | (refine n_index_row rfl (hK := ?_))) | (guard_target =~ SOp _ _ ⟨_, .store _ _ _, _, _, _, none⟩ _ _ _; first | (refine n_store_ep rfl (hK := ?_)))) | (refine hK _ _ ?_; clear hK K))
        refine ⟨1, by omega, by omega, ?_, (by repeat' (first | exact agr_refl | refine agr_cons (by rfl) ?_)), (by first | rfl | (simp (disch := omega) only [go_sem, seval, ↓reduceIte, hU]; done) | (simp (disch := omega) only [go_sem, seval, ↓reduceIte, hU]; rfl))⟩
        (refine ⟨⟨_, sT, ?_⟩, ⟨_, sT, ?_⟩, trivial⟩ <;> (try (first | exact aleT)))
        all_goals exact ale_i (by rw [show cdB 1 = codO.getD 0 0 from cdB_s 0, hc0])
      | succ j =>
        have he : (((j + 1 : Nat) : Int) - 1) = (j : Int) := by omega
        obtain ⟨s', hs', hs1', hs2', hs3'⟩ := sym_at (i := j) (by omega)
        have hsz' := lensT_at hs1'
        have hcd0 := cdB_s j
        obtain ⟨u1, u2⟩ := lenO_up ⟨j, by omega⟩
        have hup := codO_up ⟨j, by omega⟩
        have hobj := codO_bd ⟨j, by omega⟩
        dsimp only at u1 u2 hup hobj
        obtain ⟨a, ha⟩ : ∃ a, lenO.getD j 0 = a := ⟨_, rfl⟩
        obtain ⟨c, hc⟩ : ∃ c, lenO.getD (j + 1) 0 = c := ⟨_, rfl⟩
        rw [ha, hc] at hup
        rw [ha] at u1 hs3'
        rw [hc] at u1 u2 hs3
        have hU := And.intro @he ( And.intro @hs3 ( And.intro @hs3' (@hcd0)))
        repeat' (first | (guard_target =~ PWp _ _ _ _ _ _ _; first | (refine pwp_seq_k (fun K hK => ?_)) | (refine pwp_block ?_) | (refine pwp_rg_then ?_) | (refine pwp_skip ?_) | ((refine pwp_cond_d (fun hcd => ?_) (fun hcd => ?_)) <;> (try simp only [hcP] at hcd) <;> (try exact cdT))) | (guard_target =~ rg _ _ _ _ _ _ _; first | (guard_target =~ rg _ _ _ [] _ _ _; first | (refine rg_end ?_)) | (refine rg_a rfl (h := ?_)) | (refine rg_v rfl (h := ?_)) | (refine rg_s rfl ?_)) | (guard_target =~ SOp _ _ _ _ _ _; first | (guard_target =~ SOp _ _ ⟨_, .indexAddr _ _ _, _, _, _, none⟩ _ _ _; first | (refine n_index rfl (hK := ?_)))) | (refine hK _ _ ?_; clear hK K))
        refine pwp_loop_e [4, 6, 28, 29, 30, 31, 32, 33, 34, 35, 36, 37, 38, 39, 40] (fun n : Nat => [(6, i64 n), (4, i64 ((codO.getD j 0 + 1) * 2 ^ (n - a)))]) (fun _ => [.row 0 3 1 ((outL (j + 1)).map intA)]) (fun n => a ≤ n ∧ n ≤ c) (fun n => c - n) a ⟨Nat.le_refl _, u1⟩ ?_ rfl ?_
        · (refine ⟨⟨_, sT, ?_⟩, ⟨_, sT, ?_⟩, trivial⟩ <;> (try (first | exact aleT)))
          all_goals exact ale_i (by rw [Nat.sub_self]; simp)
        · rintro n ⟨hn1, hn2⟩
          simp only [mask, List.map_cons, List.map_nil, List.cons_append, List.nil_append]
          have hpn := pow_bd ⟨n - a, by omega⟩
          dsimp only at hpn
          by_cases hlt2 : n < c
          · have hpw : (2 : Int) ^ (n + 1 - a) = 2 ^ (n - a) * 2 := by rw [show n + 1 - a = (n - a) + 1 from by omega, Int.pow_succ]
            have hpc : (2 : Int) ^ (c - a) = 2 ^ (n - a) * 2 ^ (c - n) := by rw [← Int.pow_add]; congr 1; omega
            obtain ⟨z, hz2⟩ : ∃ z, (codO.getD j 0 + 1) * 2 ^ (n - a) = z := ⟨_, rfl⟩
            have hzb : 0 ≤ z ∧ z ≤ 2147483648 := zb_bd (c := c) (a := a) (n := n) hz2 hup hob hobj.1 hn1 hn2
            have hU := And.intro @hz2 ( And.intro @hs3 (@he))
            repeat' (first | (guard_target =~ PWp _ _ _ _ _ _ _; first | (refine pwp_seq_k (fun K hK => ?_)) | (refine pwp_block ?_) | (refine pwp_rg_then ?_) | (refine pwp_rg ?_) | (refine pwp_skip ?_) | ((refine pwp_cond_d (fun hcd => ?_) (fun hcd => ?_)) <;> (try simp only [hcP] at hcd) <;> (try exact cdT))) | (guard_target =~ rg _ _ _ _ _ _ _; first | (guard_target =~ rg _ _ _ [] _ _ _; first | (refine rg_end ?_)) | (refine rg_a rfl (h := ?_)) | (refine rg_v rfl (h := ?_)) | (refine rg_s rfl ?_)) | (guard_target =~ SOp _ _ _ _ _ _; first | (guard_target =~ SOp _ _ ⟨_, .indexAddr _ _ _, _, _, _, none⟩ _ _ _; first | (refine n_index rfl (hK := ?_)))) | (refine hK _ _ ?_; clear hK K))
            refine ⟨n + 1, ⟨by omega, by omega⟩, by omega, ?_, (by repeat' (first | exact agr_refl | refine agr_cons (by rfl) ?_)), (by first | rfl | (simp (disch := omega) only [go_sem, seval, ↓reduceIte, hU]; done) | (simp (disch := omega) only [go_sem, seval, ↓reduceIte, hU]; rfl))⟩
            (refine ⟨⟨_, sT, ?_⟩, ⟨_, sT, ?_⟩, trivial⟩ <;> (try (first | exact aleT)))
            all_goals exact ale_i (by rw [hpw, ← Int.mul_assoc, hz2]; omega)
          · have hnc : n = c := by omega
            subst hnc
            have hco : (codO.getD j 0 + 1) * 2 ^ (n - a) = codO.getD (j + 1) 0 := hup.symm
            have hU := And.intro @hco ( And.intro @hs3 ( And.intro @he ( And.intro @hset (@hv0))))
            repeat' (first | (guard_target =~ PWp _ _ _ _ _ _ _; first | (refine pwp_seq_k (fun K hK => ?_)) | (refine pwp_rg_then ?_) | (refine pwp_rg ?_) | (refine pwp_exit ?_) | ((refine pwp_cond_d (fun hcd => ?_) (fun hcd => ?_)) <;> (try simp only [hcP] at hcd) <;> (try exact cdT))) | (guard_target =~ rg _ _ _ _ _ _ _; first | (guard_target =~ rg _ _ _ [] _ _ _; first | (refine rg_end ?_)) | (refine rg_a rfl (h := ?_)) | (refine rg_v rfl (h := ?_)) | (refine rg_s rfl ?_) | (refine rg_n rfl ?_)) | (guard_target =~ SOp _ _ _ _ _ _; first | (guard_target =~ SOp _ _ ⟨_, .indexAddr _ _ _, _, _, _, none⟩ _ _ _; first | (refine n_index rfl (hK := ?_)) | (refine n_index_row rfl (hK := ?_))) | (guard_target =~ SOp _ _ ⟨_, .store _ _ _, _, _, _, none⟩ _ _ _; first | (refine n_store_ep rfl (hK := ?_)))) | (refine hK _ _ ?_; clear hK K) | (apply_assumption (exfalso := false) (symm := false)))
            refine ⟨j + 1 + 1, by omega, by omega, ?_, (by repeat' (first | exact agr_refl | refine agr_cons (by rfl) ?_)), (by first | rfl | (simp (disch := omega) only [go_sem, seval, ↓reduceIte, hU]; done) | (simp (disch := omega) only [go_sem, seval, ↓reduceIte, hU]; rfl))⟩
            (refine ⟨⟨_, sT, ?_⟩, ⟨_, sT, ?_⟩, trivial⟩ <;> (try (first | exact aleT)))
            all_goals exact ale_i (cdB_s (j + 1)).symm
    · have hi7 : i = 257 := by omega
      subst hi7
      have hall := outL_all
      have hU := @hall
      repeat' (first | (guard_target =~ PWp _ _ _ _ _ _ _; first | (refine pwp_seq_k (fun K hK => ?_)) | (refine pwp_rg_then ?_) | (refine pwp_ret ?_) | (refine pwp_exit ?_) | ((refine pwp_cond_d (fun hcd => ?_) (fun hcd => ?_)) <;> (try simp only [hcP] at hcd) <;> (try exact cdT))) | (guard_target =~ rg _ _ _ _ _ _ _; first | (guard_target =~ rg _ _ _ [] _ _ _; first | (refine rg_end ?_)) | (refine rg_a rfl (h := ?_)) | (refine rg_v rfl (h := ?_))) | (guard_target =~ (_ ∨ _) ∧ _; first | ((refine end_d [] (by rw [Tryd.results100, Lf.res1]) (ale_1 ?_) ?_) <;> (try (first | exact aleT | exact stq (by with_reducible rfl) | exact stq (by rfl) | exact stq (by simp (disch := omega) only [go_sem, seval, ↓reduceIte, hU]))))) | (refine hK _ _ ?_; clear hK K) | (apply_assumption (exfalso := false) (symm := false)))
end Go.Proofs.YtohbfcmmpaikhaaDoor

set_option linter.unusedVariables false
set_option linter.unusedSimpArgs false
namespace Go.Proofs.YtohbfcmmpaikhaaDoor
open Go Go.Lf Go.Proofs
attribute [local irreducible] Lf.rg Lf.ro Lf.PWp Lf.SOp Lf.ACall Lf.Scoped Lf.dg Lf.dw
set_option maxRecDepth 20000
set_option maxHeartbeats 4000000
attribute [go_sem] nbl_bkB
@[go_sem] theorem rnl_bk0 : rnl (ix [] 0) bkB = bkB := by
  rw [rnl_all]
  unfold bkB bkA b2
  have h : ∀ l : List Int, (l.map nA).map (rn (ix [] 0)) = l.map nA := by
    intro l; rw [List.map_map]; exact List.map_congr_left (fun _ _ => rfl)
  simp only [List.map_cons, List.map_append, h]
  rfl
def encS (L : List Int) (x : UInt8) : List Int := rpL L (csI x.toNat) (szI (x.toNat : Int))
def encL (b : List UInt8) : List Int := b.foldl encS []
def bitK (b : List UInt8) : Int := b.foldl (fun n x => n + szI (x.toNat : Int)) 0
attribute [local irreducible] bkB cntN ordB fstI bseI csI szI rpL rowB encL bitK
end Go.Proofs.YtohbfcmmpaikhaaDoor

set_option linter.unusedVariables false
set_option linter.unusedSimpArgs false
namespace Go.Proofs.YtohbfcmmpaikhaaDoor
open Go Go.Lf Go.Proofs
attribute [local irreducible] Lf.rg Lf.ro Lf.PWp Lf.SOp Lf.ACall Lf.Scoped Lf.dg Lf.dw
set_option maxRecDepth 20000
set_option maxHeartbeats 4000000
theorem least_of {p : Nat → Prop} : (∃ k, p k) → ∃ k, p k ∧ ∀ j, p j → k ≤ j := by
  rintro ⟨k, hk⟩
  induction k using Nat.strongRecOn with
  | _ k ih =>
    by_cases h : ∃ j, j < k ∧ p j
    · obtain ⟨j, hj, pj⟩ := h
      exact ih j hj pj
    · exact ⟨k, hk, fun j pj => by
        by_cases hj : j < k
        · exact absurd ⟨j, hj, pj⟩ h
        · omega⟩
theorem wp_scope_ghost {P : Program} {a : Act} {w : World} {Q : Exit → Act → World → Prop} {c rest : Code} (l : Nat) (J : Nat → Act → World → Prop) (hf : findLabel c l = some rest)
    (first : c.wp P (Exit.jump l (fun a w => ∃ k, J k a w) Q) a w)
    (pass : ∀ k a w, J k a w → rest.wp P (Exit.jump l (fun a' w' => ∃ k', k' < k ∧ J k' a' w') Q) a w) : (Code.scope c).wp P Q a w := by
  classical
  have ex : ∀ a w, ∃ m : Nat, (∃ k, J k a w) → J m a w ∧ ∀ j, J j a w → m ≤ j := by
    intro a w
    by_cases h : ∃ k, J k a w
    · obtain ⟨k, h1, h2⟩ := least_of h
      exact ⟨k, fun _ => ⟨h1, h2⟩⟩
    · exact ⟨0, fun h' => absurd h' h⟩
  refine wp_scope_jumps l (fun a w => ∃ k, J k a w) (fun a w => (ex a w).choose) hf first ?_
  intro a w hJ
  have h1 := (ex a w).choose_spec hJ
  refine wp_mono (pass _ a w h1.1) ?_
  intro e a' w' h
  cases e with
  | goto l' =>
    obtain ⟨e1, k', hk, hJ'⟩ := h
    refine ⟨e1, ⟨k', hJ'⟩, ?_⟩
    have h2 := (ex a' w').choose_spec ⟨k', hJ'⟩
    exact Nat.lt_of_le_of_lt (h2.2 k' hJ') hk
  | normal => exact h
  | exit id => exact h
  | ret => exact h
  | panic ch => exact h
  | outgrown => exact h
def jumpQ (l : Nat) (K : Env → Sto → Prop) (Q : Exit → Env → Sto → Prop) : Exit → Env → Sto → Prop
  | .goto l', Γ, σ => l' = l ∧ K Γ σ
  | e, Γ, σ => Q e Γ σ
theorem Wk_E {N n : Nat} {Γ' E : Env} {σ : Sto} (h1 : LeE E Γ') : Wk N n Γ' σ E σ := by
  intro ρ w a hn hf hr
  refine ⟨ρ, ⟨hf.1, hf.2.1, ?_⟩, hr, .refl _ _ _ _ hn⟩
  have key : ∀ (E : Env), LeE E Γ' → ∀ i, VR σ ρ w (Lf.get E i) (a.tmps.getD i undef) := by
    intro E
    induction E with
    | nil => intro _ i; simp [Lf.get, VR]
    | cons p E ih =>
      obtain ⟨k, x⟩ := p
      intro h i
      simp only [LeE] at h
      simp only [Lf.get]
      split
      · rename_i e
        subst e
        obtain ⟨⟨y, hy, hl⟩, _⟩ := h
        have := hf.2.2 i
        rw [hy] at this
        exact hl.VR this
      · exact ih h.2 i
  exact key E h1
theorem pwp_scope_k {P : Program} {N n : Nat} {S : Type} {c B : Code} {Γ : Env} {σ : Sto} {Q : Exit → Env → Sto → Prop} (l : Nat) (E : S → Env) (T : S → Sto) (R : S → Prop) (μ : S → Nat) (hf : findLabel c l = some (.seq .skip B))
    (body : ∀ s, R s → PWp P N n B (E s) (T s) (jumpQ l (fun Γ' σ' => ∃ s' κ, R s' ∧ μ s' < μ s ∧ okg n κ = true ∧ LeE (E s') (Γ'.map fun p => (p.1, fz κ σ' p.2)) ∧ gcS κ σ' = T s') Q))
    (first : (∀ Γ' σ' s0 κ, R s0 → okg n κ = true → LeE (E s0) (Γ'.map fun p => (p.1, fz κ σ' p.2)) → gcS κ σ' = T s0 → PWp P N n B Γ' σ' (jumpQ l (fun Γ' σ' => ∃ s', R s' ∧ Wk N n Γ' σ' (E s') (T s')) Q)) →
      PWp P N n c Γ σ (jumpQ l (fun Γ' σ' => ∃ s', R s' ∧ Wk N n Γ' σ' (E s') (T s')) Q)) : PWp P N n (.scope c) Γ σ Q := by
  have wkg : ∀ Γ' σ' s0 κ, okg n κ = true → LeE (E s0) (Γ'.map fun p => (p.1, fz κ σ' p.2)) → gcS κ σ' = T s0 → Wk N n Γ' σ' (E s0) (T s0) := by
    intro Γ' σ' s0 κ hκ h1 h2
    have w1 := wk_gc (N := N) (Γ := Γ') (σ := σ') κ hκ
    rw [h2] at w1
    rw [← h2] at w1 ⊢
    exact w1.trans (Wk_E h1)
  have body2 : ∀ s, R s → PWp P N n B (E s) (T s) (jumpQ l (fun Γ' σ' => ∃ s', R s' ∧ μ s' < μ s ∧ Wk N n Γ' σ' (E s') (T s')) Q) := by
    intro s hs
    refine (body s hs).mono ?_
    intro e Γ' σ' q
    cases e with
    | goto l' => obtain ⟨e1, s', κ, h1, h2, h0, h3, h4⟩ := q; exact ⟨e1, s', h1, h2, wkg _ _ _ κ h0 h3 h4⟩
    | normal => exact q
    | exit id => exact q
    | ret => exact q
    | panic ch => exact q
    | outgrown => exact q
  have hfst := first (by
    intro Γ' σ' s0 κ hs h0 h1 h2
    refine pwp_wk (wkg _ _ _ κ h0 h1 h2) ((body2 s0 hs).mono ?_)
    intro e Γ2 σ2 q
    cases e with
    | goto l' => obtain ⟨e1, s', h1, h2, h3⟩ := q; exact ⟨e1, s', h1, h3⟩
    | normal => exact q
    | exit id => exact q
    | ret => exact q
    | panic ch => exact q
    | outgrown => exact q)
  unfold PWp at hfst body2 ⊢
  intro ρ w a hn hfr hr
  refine wp_scope_ghost l (fun k a' w' => ∃ s ρ', R s ∧ μ s = k ∧ FR N (E s) (T s) ρ' w' a' ∧ Rel (T s) ρ' w' ∧ Step n σ ρ w (T s) ρ' w') hf ?_ ?_
  · refine wp_mono (hfst ρ w a hn hfr hr) ?_
    rintro e a' w' ⟨Γ', σ', ρ', q, f2, r2, st⟩
    cases e with
    | goto l' =>
      obtain ⟨e1, s', h1, h2⟩ := q
      obtain ⟨ρ2, g1, g2, g3⟩ := h2 ρ' w' a' st.len' f2 r2
      exact ⟨e1, _, s', ρ2, h1, rfl, g1, g2, st.trans g3⟩
    | normal => exact ⟨_, _, _, q, f2, r2, st⟩
    | exit id => exact ⟨_, _, _, q, f2, r2, st⟩
    | ret => exact ⟨_, _, _, q, f2, r2, st⟩
    | panic ch => exact ⟨_, _, _, q, f2, r2, st⟩
    | outgrown => exact ⟨_, _, _, q, f2, r2, st⟩
  · rintro k a1 w1 ⟨s, ρ1, hs, rfl, f1, r1, s1⟩
    refine wp_seq (wp_skip ?_)
    refine wp_mono (body2 s hs ρ1 w1 a1 s1.len' f1 r1) ?_
    rintro e a' w' ⟨Γ', σ', ρ', q, f2, r2, st⟩
    cases e with
    | goto l' =>
      obtain ⟨e1, s', h1, h2, h3⟩ := q
      obtain ⟨ρ2, g1, g2, g3⟩ := h3 ρ' w' a' st.len' f2 r2
      exact ⟨e1, _, h2, s', ρ2, h1, rfl, g1, g2, (s1.trans st).trans g3⟩
    | normal => exact ⟨_, _, _, q, f2, r2, s1.trans st⟩
    | exit id => exact ⟨_, _, _, q, f2, r2, s1.trans st⟩
    | ret => exact ⟨_, _, _, q, f2, r2, s1.trans st⟩
    | panic ch => exact ⟨_, _, _, q, f2, r2, s1.trans st⟩
    | outgrown => exact ⟨_, _, _, q, f2, r2, s1.trans st⟩
end Go.Proofs.YtohbfcmmpaikhaaDoor

set_option linter.unusedVariables false
set_option linter.unusedSimpArgs false
namespace Go.Proofs.YtohbfcmmpaikhaaDoor
open Go Go.Lf Go.Proofs
attribute [local irreducible] Lf.rg Lf.ro Lf.PWp Lf.SOp Lf.ACall Lf.Scoped Lf.dg
set_option maxRecDepth 20000
set_option maxHeartbeats 4000000
def jumpMW (J : Nat → Act → World → Prop) (Q : Exit → Act → World → Prop) : Exit → Act → World → Prop
  | .goto l, a, w => J l a w
  | e, a, w => Q e a w
theorem wp_scope_many {P : Program} {a : Act} {w : World} {Q : Exit → Act → World → Prop} {c : Code} (J : Nat → Nat → Act → World → Prop)
    (first : c.wp P (jumpMW (fun l a w => ∃ k, J l k a w) Q) a w)
    (pass : ∀ l k a w, J l k a w → ∃ rest, findLabel c l = some rest ∧ rest.wp P (jumpMW (fun l' a' w' => ∃ k', k' < k ∧ J l' k' a' w') Q) a w) : (Code.scope c).wp P Q a w := by
  intro b k cs
  have hg : ∀ {l rest}, findLabel c l = some rest → gotoIn l (.inScope c :: k) = some (.code rest :: .inScope c :: k) := fun hf => by simp [gotoIn, hf]
  have key : ∀ m l a w, J l m a w → ∃ rest, findLabel c l = some rest ∧ ∃ e a' w', Q e a' w' ∧ Arrives P (lone (b.at a (.code rest :: .inScope c :: k)) cs w) b k cs e a' w' := by
    intro m
    induction m using Nat.strongRecOn with
    | _ m ih =>
      intro l a w hJ
      obtain ⟨rest, hf, hp⟩ := pass l m a w hJ
      refine ⟨rest, hf, ?_⟩
      obtain ⟨e, a₁, w₁, hq, harr⟩ := hp b (.inScope c :: k) cs
      cases e with
      | normal => exact ⟨.normal, a₁, w₁, hq, Steps.trans harr (.one step_inScope)⟩
      | exit id => exact ⟨.exit id, a₁, w₁, hq, fun k' hk => harr k' (by simp [exitTo, hk])⟩
      | goto l' =>
        obtain ⟨k', hlt, hJ'⟩ := hq
        obtain ⟨rest2, hf2, e₂, a₂, w₂, hq₂, harr₂⟩ := ih k' hlt l' a₁ w₁ hJ'
        exact ⟨e₂, a₂, w₂, hq₂, .of_steps (harr _ (hg hf2)) harr₂⟩
      | ret => exact ⟨_, a₁, w₁, hq, harr⟩
      | panic ch => exact ⟨_, a₁, w₁, hq, harr⟩
      | outgrown => exact ⟨_, a₁, w₁, hq, harr⟩
  obtain ⟨e, a₁, w₁, hq, harr⟩ := first b (.inScope c :: k) cs
  cases e with
  | normal => exact ⟨.normal, a₁, w₁, hq, .head step_scope (Steps.trans harr (.one step_inScope))⟩
  | exit id => exact ⟨.exit id, a₁, w₁, hq, fun k' hk => .head step_scope (harr k' (by simp [exitTo, hk]))⟩
  | goto l' =>
    obtain ⟨k', hJ'⟩ := hq
    obtain ⟨rest2, hf2, e₂, a₂, w₂, hq₂, harr₂⟩ := key k' l' a₁ w₁ hJ'
    exact ⟨e₂, a₂, w₂, hq₂, .of_steps (.head step_scope (harr _ (hg hf2))) harr₂⟩
  | ret => exact ⟨_, a₁, w₁, hq, .of_steps (.one step_scope) harr⟩
  | panic ch => exact ⟨_, a₁, w₁, hq, .of_steps (.one step_scope) harr⟩
  | outgrown => exact ⟨_, a₁, w₁, hq, .of_steps (.one step_scope) harr⟩
def jumpM (J : Nat → Env → Sto → Prop) (Q : Exit → Env → Sto → Prop) : Exit → Env → Sto → Prop
  | .goto l, Γ, σ => J l Γ σ
  | e, Γ, σ => Q e Γ σ
theorem jumpM_mono {J J' : Nat → Env → Sto → Prop} {Q : Exit → Env → Sto → Prop} (h : ∀ l Γ σ, J l Γ σ → J' l Γ σ) : ∀ e Γ σ, jumpM J Q e Γ σ → jumpM J' Q e Γ σ := by
  intro e Γ σ q
  cases e with
  | goto l => exact h _ _ _ q
  | normal => exact q
  | exit id => exact q
  | ret => exact q
  | panic ch => exact q
  | outgrown => exact q
def AtL {S : Type} (n : Nat) (lab : S → Nat) (E : S → Env) (T : S → Sto) (R : S → Prop) (ok : S → Prop) (l : Nat) (Γ : Env) (σ : Sto) : Prop :=
  ∃ s κ, lab s = l ∧ R s ∧ ok s ∧ okg n κ = true ∧ LeE (E s) (Γ.map fun p => (p.1, fz κ σ p.2)) ∧ gcS κ σ = T s
theorem pwp_scope_m {P : Program} {N n : Nat} {S : Type} {c : Code} {Γ : Env} {σ : Sto} {Q : Exit → Env → Sto → Prop} (lab : S → Nat) (B : S → Code) (E : S → Env) (T : S → Sto) (R : S → Prop) (μ : S → Nat) (hf : ∀ s, findLabel c (lab s) = some (.seq .skip (B s)))
    (body : ∀ s, R s → (∀ Γ' σ' s1 κ, R s1 → μ s1 < μ s → okg n κ = true → LeE (E s1) (Γ'.map fun p => (p.1, fz κ σ' p.2)) → gcS κ σ' = T s1 → PWp P N n (B s1) Γ' σ' (jumpM (AtL n lab E T R (fun s' => μ s' < μ s)) Q)) →
      PWp P N n (B s) (E s) (T s) (jumpM (AtL n lab E T R (fun s' => μ s' < μ s)) Q))
    (first : (∀ Γ' σ' s0 κ, R s0 → okg n κ = true → LeE (E s0) (Γ'.map fun p => (p.1, fz κ σ' p.2)) → gcS κ σ' = T s0 → PWp P N n (B s0) Γ' σ' (jumpM (AtL n lab E T R (fun _ => True)) Q)) →
      PWp P N n c Γ σ (jumpM (AtL n lab E T R (fun _ => True)) Q)) : PWp P N n (.scope c) Γ σ Q := by
  have wkg : ∀ Γ' σ' s0 κ, okg n κ = true → LeE (E s0) (Γ'.map fun p => (p.1, fz κ σ' p.2)) → gcS κ σ' = T s0 → Wk N n Γ' σ' (E s0) (T s0) := by
    intro Γ' σ' s0 κ hκ h1 h2
    have w1 := wk_gc (N := N) (Γ := Γ') (σ := σ') κ hκ
    rw [h2] at w1
    rw [← h2] at w1 ⊢
    exact w1.trans (Wk_E h1)
  have body2 : ∀ m s, μ s = m → R s → PWp P N n (B s) (E s) (T s) (jumpM (AtL n lab E T R (fun s' => μ s' < μ s)) Q) := by
    intro m
    induction m using Nat.strongRecOn with
    | _ m ih =>
      intro s hm hs
      refine body s hs ?_
      intro Γ' σ' s1 κ hR hlt h0 h1 h2
      refine pwp_wk (wkg _ _ _ κ h0 h1 h2) ((ih (μ s1) (by omega) s1 rfl hR).mono ?_)
      refine jumpM_mono ?_
      rintro l Γ2 σ2 ⟨s2, κ2, e1, e2, e3, e4⟩
      exact ⟨s2, κ2, e1, e2, Nat.lt_trans e3 hlt, e4⟩
  have hfst := first (by
    intro Γ' σ' s0 κ hs h0 h1 h2
    refine pwp_wk (wkg _ _ _ κ h0 h1 h2) ((body2 _ s0 rfl hs).mono ?_)
    refine jumpM_mono ?_
    rintro l Γ2 σ2 ⟨s2, κ2, e1, e2, e3, e4⟩
    exact ⟨s2, κ2, e1, e2, trivial, e4⟩)
  unfold PWp at hfst body2 ⊢
  intro ρ w a hn hfr hr
  refine wp_scope_many (fun l k a' w' => ∃ s ρ', lab s = l ∧ R s ∧ μ s = k ∧ FR N (E s) (T s) ρ' w' a' ∧ Rel (T s) ρ' w' ∧ Step n σ ρ w (T s) ρ' w') ?_ ?_
  · refine wp_mono (hfst ρ w a hn hfr hr) ?_
    rintro e a' w' ⟨Γ', σ', ρ', q, f2, r2, st⟩
    cases e with
    | goto l' =>
      obtain ⟨s', κ, e1, h1, _, hκ, h2, h3⟩ := q
      obtain ⟨ρ2, g1, g2, g3⟩ := wkg _ _ _ κ hκ h2 h3 ρ' w' a' st.len' f2 r2
      exact ⟨_, s', ρ2, e1, h1, rfl, g1, g2, st.trans g3⟩
    | normal => exact ⟨_, _, _, q, f2, r2, st⟩
    | exit id => exact ⟨_, _, _, q, f2, r2, st⟩
    | ret => exact ⟨_, _, _, q, f2, r2, st⟩
    | panic ch => exact ⟨_, _, _, q, f2, r2, st⟩
    | outgrown => exact ⟨_, _, _, q, f2, r2, st⟩
  · rintro l k a1 w1 ⟨s, ρ1, rfl, hs, rfl, f1, r1, s1⟩
    refine ⟨_, hf s, ?_⟩
    refine wp_seq (wp_skip ?_)
    refine wp_mono (body2 _ s rfl hs ρ1 w1 a1 s1.len' f1 r1) ?_
    rintro e a' w' ⟨Γ', σ', ρ', q, f2, r2, st⟩
    cases e with
    | goto l' =>
      obtain ⟨s', κ, e1, h1, hlt, hκ, h2, h3⟩ := q
      obtain ⟨ρ2, g1, g2, g3⟩ := wkg _ _ _ κ hκ h2 h3 ρ' w' a' st.len' f2 r2
      exact ⟨_, hlt, s', ρ2, e1, h1, rfl, g1, g2, (s1.trans st).trans g3⟩
    | normal => exact ⟨_, _, _, q, f2, r2, s1.trans st⟩
    | exit id => exact ⟨_, _, _, q, f2, r2, s1.trans st⟩
    | ret => exact ⟨_, _, _, q, f2, r2, s1.trans st⟩
    | panic ch => exact ⟨_, _, _, q, f2, r2, s1.trans st⟩
    | outgrown => exact ⟨_, _, _, q, f2, r2, s1.trans st⟩
def sel3 (B0 B1 B2 : Code) (k : Fin 3) : Code := match k with | 0 => B0 | 1 => B1 | 2 => B2
theorem pwp_scope_3 {P : Program} {N n : Nat} {S : Type} {c B0 B1 B2 : Code} {Γ : Env} {σ : Sto} {Q : Exit → Env → Sto → Prop} (lab : S → Fin 3) (E : S → Env) (T : S → Sto) (R : S → Prop) (μ : S → Nat)
    (h0 : findLabel c 0 = some (.seq .skip B0)) (h1 : findLabel c 1 = some (.seq .skip B1)) (h2 : findLabel c 2 = some (.seq .skip B2))
    (body0 : ∀ s, lab s = 0 → R s → (∀ Γ' σ' s1 κ, lab s1 = 1 → R s1 → μ s1 < μ s → okg n κ = true → LeE (E s1) (Γ'.map fun p => (p.1, fz κ σ' p.2)) → gcS κ σ' = T s1 → PWp P N n B1 Γ' σ' (jumpM (AtL n (fun s => (lab s).val) E T R (fun s' => μ s' < μ s)) Q)) →
      PWp P N n B0 (E s) (T s) (jumpM (AtL n (fun s => (lab s).val) E T R (fun s' => μ s' < μ s)) Q))
    (body1 : ∀ s, lab s = 1 → R s → PWp P N n B1 (E s) (T s) (jumpM (AtL n (fun s => (lab s).val) E T R (fun s' => μ s' < μ s)) Q))
    (body2 : ∀ s, lab s = 2 → R s → PWp P N n B2 (E s) (T s) (jumpM (AtL n (fun s => (lab s).val) E T R (fun s' => μ s' < μ s)) Q))
    (first : (∀ Γ' σ' s0 κ, lab s0 = 0 → R s0 → okg n κ = true → LeE (E s0) (Γ'.map fun p => (p.1, fz κ σ' p.2)) → gcS κ σ' = T s0 → PWp P N n B0 Γ' σ' (jumpM (AtL n (fun s => (lab s).val) E T R (fun _ => True)) Q)) →
      PWp P N n c Γ σ (jumpM (AtL n (fun s => (lab s).val) E T R (fun _ => True)) Q)) : PWp P N n (.scope c) Γ σ Q := by
  refine pwp_scope_m (fun s => (lab s).val) (fun s => sel3 B0 B1 B2 (lab s)) E T R μ ?_ ?_ ?_
  · intro s
    generalize lab s = k
    match k with
    | 0 => exact h0
    | 1 => exact h1
    | 2 => exact h2
  · intro s hs hB
    rcases (show lab s = 0 ∨ lab s = 1 ∨ lab s = 2 by omega) with e | e | e
    · rw [e]
      refine body0 s e hs ?_
      intro Γ' σ' s1 κ e1 hR hlt hk hl hg
      have := hB Γ' σ' s1 κ hR hlt hk hl hg
      rw [e1] at this
      exact this
    · rw [e]; exact body1 s e hs
    · rw [e]; exact body2 s e hs
  · intro hB
    refine first ?_
    intro Γ' σ' s0 κ e1 hR hk hl hg
    have := hB Γ' σ' s0 κ hR hk hl hg
    rw [e1] at this
    exact this
end Go.Proofs.YtohbfcmmpaikhaaDoor

set_option linter.unusedVariables false
set_option linter.unusedSimpArgs false
namespace Go.Proofs.YtohbfcmmpaikhaaDoor
open Go Go.Lf Go.Proofs
attribute [local irreducible] Lf.rg Lf.ro Lf.PWp Lf.SOp Lf.ACall Lf.Scoped Lf.dg
set_option maxRecDepth 20000
set_option maxHeartbeats 4000000
def fstT : List Int := [0, 0, 0, 0, 0, 0, 20, 92, 248, 508, 1016, 2042, 4090, 8184, 16380, 32764, 65534, 131068, 262136, 524272, 1048550, 2097116, 4194258, 8388568, 16777194, 33554412, 67108832, 134217694, 268435426, 536870910, 1073741820]
def cntT : List Int := [0, 0, 0, 0, 0, 10, 26, 32, 6, 0, 5, 3, 2, 6, 2, 3, 0, 0, 0, 3, 8, 13, 26, 29, 12, 4, 15, 19, 29, 0, 4]
def bseT : List Int := [0, 0, 0, 0, 0, 0, 10, 36, 68, 74, 74, 79, 82, 84, 90, 92, 95, 95, 95, 95, 98, 106, 119, 145, 174, 186, 190, 205, 224, 253, 253]
theorem tab_is : ∀ n : Fin 31, fstI n.val = fstT.getD n.val 0 ∧ cntN 257 n.val = cntT.getD n.val 0 ∧ bseI n.val = bseT.getD n.val 0 := by decide +kernel
theorem codeN_31 : codeN 31 = 1073741824 := by decide +kernel
theorem tab_i : ∀ i : Fin 257, 1 ≤ lenO.getD i.val 0 ∧ lenO.getD i.val 0 ≤ 30 ∧ codO.getD i.val 0 = fstT.getD (lenO.getD i.val 0) 0 + ((i.val : Nat) : Int) - bseT.getD (lenO.getD i.val 0) 0 ∧ bseT.getD (lenO.getD i.val 0) 0 ≤ ((i.val : Nat) : Int) ∧ ((i.val : Nat) : Int) < bseT.getD (lenO.getD i.val 0) 0 + cntT.getD (lenO.getD i.val 0) 0 := by decide +kernel
theorem tab_n : ∀ n : Fin 31, ∀ i : Fin 257, bseT.getD n.val 0 ≤ ((i.val : Nat) : Int) → ((i.val : Nat) : Int) < bseT.getD n.val 0 + cntT.getD n.val 0 → lenO.getD i.val 0 = n.val := by decide +kernel
theorem tab_b : ∀ n : Fin 31, 0 ≤ bseT.getD n.val 0 ∧ 0 ≤ cntT.getD n.val 0 ∧ bseT.getD n.val 0 + cntT.getD n.val 0 ≤ 257 := by decide +kernel
theorem sym_idx : ∀ s : Fin 257, symT.idxOf s.val < 257 ∧ symT.getD (symT.idxOf s.val) 0 = s.val := by decide +kernel
theorem sym_cs {i : Nat} (h : i < 257) : csI (symT.getD i 0) = codO.getD i 0 := by
  obtain ⟨s, hs, _, hs2, _⟩ := sym_at h
  have h1 : (symT.map csI)[i]? = codO[i]? := by rw [codO_is]
  rw [List.getElem?_map, hs, Option.map_some] at h1
  rw [hs2, List.getD_eq_getElem?_getD, ← h1]; rfl
theorem of_find {c n : Int} (h : findY c n = true) : ∃ s : Nat, s < 257 ∧ findS c n = s ∧ csI s = c ∧ szI (s : Int) = n ∧ 1 ≤ n ∧ n ≤ 30 := by
  have h := of_decide_eq_true h
  obtain ⟨h1, h2, h3, h4⟩ := h
  obtain ⟨m, rfl⟩ : ∃ m : Nat, n = m := ⟨n.toNat, by omega⟩
  rw [Int.toNat_natCast] at h3 h4
  obtain ⟨t1, t2, t3⟩ := tab_is ⟨m, by omega⟩
  obtain ⟨b1, b2, b3⟩ := tab_b ⟨m, by omega⟩
  dsimp only at t1 t2 t3 b1 b2 b3
  rw [← t2, ← t3] at b3
  rw [← t3] at b1
  obtain ⟨i, hi⟩ : ∃ i : Nat, bseI m + (c - fstI m) = i := ⟨(bseI m + (c - fstI m)).toNat, by omega⟩
  have hi2 : i < 257 := by omega
  have hn := tab_n ⟨m, by omega⟩ ⟨i, hi2⟩ (by dsimp only; rw [← t3]; omega) (by dsimp only; rw [← t3, ← t2]; omega)
  dsimp only at hn
  obtain ⟨s, e1, e2, e3, e4⟩ := sym_at hi2
  obtain ⟨_, _, e5, _, _⟩ := tab_i ⟨i, hi2⟩
  dsimp only at e5
  rw [hn, ← t1, ← t3] at e5
  refine ⟨s, e2, ?_, ?_, ?_, h1, h2⟩
  · unfold findS ordB
    rw [Int.toNat_natCast, hi, Int.toNat_natCast, symT_is, e3]
  · rw [← e3, sym_cs hi2, e5]; omega
  · rw [e4, hn]
theorem find_of {s : Nat} (h : s < 257) : findY (csI s) (szI (s : Int)) = true ∧ findS (csI s) (szI (s : Int)) = s := by
  obtain ⟨h1, h2⟩ := sym_idx ⟨s, h⟩
  dsimp only at h1 h2
  generalize symT.idxOf s = i at h1 h2
  obtain ⟨s2, e1, e2, e3, e4⟩ := sym_at h1
  rw [h2] at e3
  subst e3
  obtain ⟨t1, t2, t3, t4, t5⟩ := tab_i ⟨i, h1⟩
  dsimp only at t1 t2 t3 t4 t5
  have hc := sym_cs h1
  rw [h2] at hc
  obtain ⟨u1, u2, u3⟩ := tab_is ⟨lenO.getD i 0, by omega⟩
  dsimp only at u1 u2 u3
  rw [← u1, ← u3, ← hc] at t3
  rw [← u3] at t4 t5
  rw [← u2] at t5
  rw [e4]
  refine ⟨decide_eq_true ?_, ?_⟩
  · rw [Int.toNat_natCast]; omega
  · unfold findS ordB
    rw [Int.toNat_natCast, symT_is, show bseI (lenO.getD i 0) + (csI s - fstI (lenO.getD i 0)) = (i : Int) from by omega, Int.toNat_natCast, h2]
structure Way (c : Int) (n : Nat) : Prop where
  l : codeN (n + 1) ≤ c
  u : c < 2 ^ n
  n : n ≤ 29
  z : 0 ≤ c
theorem way_0 : Way 0 0 := ⟨by decide +kernel, by decide, by decide, by decide⟩
theorem way_s {c x : Int} {n : Nat} (h : Way c n) (hx : x = 0 ∨ x = 1) (hf : ¬ findY (2 * c + x) ((n : Int) + 1) = true) : Way (2 * c + x) (n + 1) := by
  obtain ⟨h1, h2, h3, h4⟩ := h
  have hf := of_decide_eq_false (show findY (2 * c + x) ((n : Int) + 1) = false by revert hf; cases findY (2 * c + x) ((n : Int) + 1) <;> simp)
  rw [show ((n : Int) + 1).toNat = n + 1 from by omega] at hf
  have e1 : fstI (n + 1) = codeN (n + 1) * 2 := rfl
  have e2 : codeN (n + 1 + 1) = codeN (n + 1) * 2 + cntN 257 (n + 1) := rfl
  have hl : codeN (n + 1 + 1) ≤ 2 * c + x := by omega
  have hu : 2 * c + x < 2 ^ (n + 1) := by rw [Int.pow_succ]; omega
  refine ⟨hl, hu, ?_, by omega⟩
  by_cases h9 : n = 29
  · exfalso
    subst h9
    have e3 : codeN (29 + 1 + 1) = 1073741824 := codeN_31
    have e4 : (2 : Int) ^ (29 + 1) = 1073741824 := by decide
    omega
  · omega
def huM : List Int → Int → Nat → List UInt8 → List UInt8 × Int
  | [], c, n, o => if 7 < n ∨ c ≠ 2 ^ n - 1 then ([], 10) else (o, 0)
  | x :: l, c, n, o => if findY (2 * c + x) ((n : Int) + 1) = true then (if findS (2 * c + x) ((n : Int) + 1) = 256 then ([], 11) else huM l 0 0 (o ++ [UInt8.ofNat (findS (2 * c + x) ((n : Int) + 1)).toNat])) else huM l (2 * c + x) (n + 1) o
theorem huM_nil (c : Int) (n : Nat) (o : List UInt8) : huM [] c n o = if 7 < n ∨ c ≠ 2 ^ n - 1 then ([], 10) else (o, 0) := rfl
theorem huM_no {x c : Int} {n : Nat} (l : List Int) (o : List UInt8) (h : ¬ findY (2 * c + x) ((n : Int) + 1) = true) : huM (x :: l) c n o = huM l (2 * c + x) (n + 1) o := by rw [huM, if_neg h]
theorem huM_end {x c : Int} {n : Nat} (l : List Int) (o : List UInt8) (h : findY (2 * c + x) ((n : Int) + 1) = true) (h2 : findS (2 * c + x) ((n : Int) + 1) = 256) : huM (x :: l) c n o = ([], 11) := by rw [huM, if_pos h, if_pos h2]
theorem huM_yes {x c : Int} {n : Nat} (l : List Int) (o : List UInt8) (h : findY (2 * c + x) ((n : Int) + 1) = true) (h2 : ¬ findS (2 * c + x) ((n : Int) + 1) = 256) : huM (x :: l) c n o = huM l 0 0 (o ++ [UInt8.ofNat (findS (2 * c + x) ((n : Int) + 1)).toNat]) := by rw [huM, if_pos h, if_neg h2]
theorem huM_len : ∀ (l : List Int) (c : Int) (n : Nat) (o : List UInt8), (huM l c n o).1.length ≤ l.length + o.length
  | [], c, n, o => by rw [huM_nil]; split <;> simp
  | x :: l, c, n, o => by
    by_cases h : findY (2 * c + x) ((n : Int) + 1) = true
    · by_cases h2 : findS (2 * c + x) ((n : Int) + 1) = 256
      · rw [huM_end l o h h2]; simp
      · rw [huM_yes l o h h2]
        have := huM_len l 0 0 (o ++ [UInt8.ofNat (findS (2 * c + x) ((n : Int) + 1)).toNat])
        rw [List.length_append] at this
        simp at this ⊢; omega
    · rw [huM_no l o h]
      have := huM_len l (2 * c + x) (n + 1) o
      simp; omega
end Go.Proofs.YtohbfcmmpaikhaaDoor

set_option linter.unusedVariables false
set_option linter.unusedSimpArgs false
namespace Go.Proofs.YtohbfcmmpaikhaaDoor
open Go Go.Lf Go.Proofs
attribute [local irreducible] Lf.rg Lf.ro Lf.PWp Lf.SOp Lf.ACall Lf.Scoped Lf.dg Lf.dw
set_option maxRecDepth 20000
set_option maxHeartbeats 4000000
structure HS where
  (k : Fin 3) (a : Nat) (c : Int) (n : Nat) (o : List UInt8)
def HOk (b : List UInt8) (d : List UInt8) (e : Int) (q : HS) : Prop :=
  q.a ≤ 8 * b.length ∧ q.o.length ≤ q.a ∧ (q.k = 0 → huM ((bitsL b).drop q.a) 0 0 q.o = (d, e)) ∧ (q.k = 1 → Way q.c q.n ∧ huM ((bitsL b).drop q.a) q.c q.n q.o = (d, e)) ∧ (q.k = 2 → Way q.c q.n ∧ huM [] q.c q.n q.o = (d, e))
theorem hok0 {b d : List UInt8} {e : Int} {a n : Nat} {c : Int} {o : List UInt8} (h1 : a ≤ 8 * b.length) (h2 : o.length ≤ a) (h3 : huM ((bitsL b).drop a) 0 0 o = (d, e)) : HOk b d e ⟨0, a, c, n, o⟩ :=
  ⟨h1, h2, fun _ => h3, fun h => absurd (show (0 : Fin 3) = 1 from h) (by decide), fun h => absurd (show (0 : Fin 3) = 2 from h) (by decide)⟩
theorem hok1 {b d : List UInt8} {e : Int} {a n : Nat} {c : Int} {o : List UInt8} (h1 : a ≤ 8 * b.length) (h2 : o.length ≤ a) (hw : Way c n) (h3 : huM ((bitsL b).drop a) c n o = (d, e)) : HOk b d e ⟨1, a, c, n, o⟩ :=
  ⟨h1, h2, fun h => absurd (show (1 : Fin 3) = 0 from h) (by decide), fun _ => ⟨hw, h3⟩, fun h => absurd (show (1 : Fin 3) = 2 from h) (by decide)⟩
theorem hok2 {b d : List UInt8} {e : Int} {a n : Nat} {c : Int} {o : List UInt8} (h1 : a ≤ 8 * b.length) (h2 : o.length ≤ a) (hw : Way c n) (h3 : huM [] c n o = (d, e)) : HOk b d e ⟨2, a, c, n, o⟩ :=
  ⟨h1, h2, fun h => absurd (show (2 : Fin 3) = 0 from h) (by decide), fun h => absurd (show (2 : Fin 3) = 1 from h) (by decide), fun _ => ⟨hw, h3⟩⟩
@[go_sem] theorem fz_bk4 {σ : Sto} : fzl [0, 1, 2, 3] σ bkB = bkB := by
  rw [fzl_map]
  unfold bkB bkA b2
  have h : ∀ l : List Int, (l.map nA).map (fz [0, 1, 2, 3] σ) = l.map nA := by
    intro l; rw [List.map_map]; exact List.map_congr_left (fun _ _ => rfl)
  simp only [List.map_cons, List.map_append, h]
  rfl
theorem way_bd {c : Int} {n : Nat} (h : Way c n) : 0 ≤ c ∧ c ≤ 536870912 ∧ n ≤ 29 := by
  obtain ⟨h1, h2, h3, h4⟩ := h
  have h5 : 2 ^ n ≤ 2 ^ 29 := Nat.pow_le_pow_right (by decide) h3
  have e : (2 : Int) ^ n = ((2 ^ n : Nat) : Int) := by simp
  rw [e] at h2
  omega
theorem pow_29 {n : Nat} (h : n ≤ 29) : 1 ≤ (2 : Int) ^ n ∧ (2 : Int) ^ n ≤ 536870912 := by
  have h5 : 2 ^ n ≤ 2 ^ 29 := Nat.pow_le_pow_right (by decide) h
  have h6 : 0 < 2 ^ n := Nat.pow_pos (by decide)
  have e : (2 : Int) ^ n = ((2 ^ n : Nat) : Int) := by simp
  rw [e]; omega
theorem drop_cons {l : List Int} {a : Nat} {x : Int} (h : l[a]? = some x) : l.drop a = x :: l.drop (a + 1) := by
  obtain ⟨h1, h2⟩ := List.getElem?_eq_some_iff.1 h
  rw [List.drop_eq_getElem_cons h1, h2]
theorem findR_is {c n : Int} (h : findY c n = true) : findR c n = findS c n := by unfold findR; rw [if_pos h]
theorem findR_no {c n : Int} (h : ¬ findY c n = true) : findR c n = 0 := by unfold findR; rw [if_neg h]
attribute [local irreducible] bkB cntN ordB fstI bseI csI szI findY findS findR bitsL codeN huM
theorem hdecode0 (f q : Bool) (b : List UInt8) (hb : b.length ≤ 100000) (d : List UInt8) (e : Int) (htot : huM (bitsL b) 0 0 [] = (d, e)) : AEq Tryd.prog 74 [.sl f q (b.map byteA)] [] (.tu [.sl false false (d.map byteA), i64 e]) [] := by
  have hr0 := rnl_bk0
  have hbl := bitsL_len b
  refine acall_body Tryd.func74 rfl Tryd.ntmps74 (by simp) (fun hsc => ?_); simp only [Lf.enter, Nat.reduceAdd]; clear hsc
  have hU := @hr0
  repeat' (first | (guard_target =~ PWp _ _ _ _ _ _ _; first | (refine pwp_seq_k (fun K hK => ?_)) | (refine pwp_rg_then ?_)) | (guard_target =~ rg _ _ _ _ _ _ _; first | (guard_target =~ rg _ _ _ [] _ _ _; first | (refine rg_end ?_)) | (refine rg_a rfl (h := ?_))) | (refine hK _ _ ?_; clear hK K))
  refine pwp_scope_3 (S := HS) HS.k (fun q => [(4, .row 3 q.o.length), (5, i64 q.c), (6, i64 q.n), (11, .ptr 0 0), (12, .ptr 2 0)]) (fun q => [.box bkB, .row 257 3 1 (ordB.map natA), .box [.sl false false (b.map byteA), i64 q.a], .row q.o.length 5 1 (q.o.map byteA)]) (HOk b d e) (fun q => 3 * (8 * b.length - q.a) + (2 - q.k.val)) (by rfl) (by rfl) (by rfl) ?_ ?_ ?_ (fun hB => ?_)
  · rintro ⟨k, a, c, n, o⟩ rfl ⟨ha, ho, h0, h1, h2⟩ hB
    dsimp only at ha ho h0 h1 h2 hB ⊢
    have h0 := h0 rfl
    clear h1 h2
    have hU := True.intro
    repeat' (first | (guard_target =~ PWp _ _ _ _ _ _ _; first | (refine pwp_seq_k (fun K hK => ?_)) | (refine pwp_rg_then ?_)) | (guard_target =~ rg _ _ _ _ _ _ _; first | (guard_target =~ rg _ _ _ [] _ _ _; first | (refine rg_end ?_)) | (refine rg_a rfl (h := ?_))) | (refine hK _ _ ?_; clear hK K))
    refine pwp_label ?_
    dsimp only [Lf.thenQ]
    refine hK _ _ ?_
    refine hB _ _ ⟨1, a, 0, 0, o⟩ [0, 1, 2, 3] rfl (hok1 ha ho way_0 h0) ?_ rfl ?_ ?_
    · dsimp only; omega
    · (refine ⟨⟨_, sT, ?_⟩, ⟨_, sT, ?_⟩, ⟨_, sT, ?_⟩, ⟨_, sT, ?_⟩, ⟨_, sT, ?_⟩, trivial⟩ <;> (try (first | exact aleT)))
    · first | rfl | (simp (disch := omega) only [go_sem, seval, ↓reduceIte, fz_bk4]; done) | (simp (disch := omega) only [go_sem, seval, ↓reduceIte, fz_bk4]; rfl) | trace_state
  · rintro ⟨k, a, c, n, o⟩ rfl ⟨ha, ho, h0, h1, h2⟩
    dsimp only at ha ho h0 h1 h2 ⊢
    obtain ⟨hw, h1⟩ := h1 rfl
    obtain ⟨hc0, hc1, hn⟩ := way_bd hw
    clear h0 h2
    by_cases hend : a = 8 * b.length
    · rw [List.drop_eq_nil_of_le (by omega)] at h1
      have hU := True.intro
      repeat' (first | (guard_target =~ PWp _ _ _ _ _ _ _; first | (refine pwp_seq_k (fun K hK => ?_)) | (refine pwp_rg_then ?_) | ((refine pwp_cond_d (fun hcd => ?_) (fun hcd => ?_)) <;> (try simp only [hcP] at hcd) <;> (try exact cdT)) | (refine pwp_goto ?_)) | (guard_target =~ rg _ _ _ _ _ _ _; first | (guard_target =~ rg _ _ _ [] _ _ _; first | (refine rg_end ?_)) | (refine rg_a rfl (h := ?_)) | (refine rg_x rfl (hy := rfl) (h := ?_)) | (refine rg_v rfl (h := ?_)) | (refine rg_s rfl ?_)) | (guard_target =~ SOp _ _ _ _ _ _; first | (guard_target =~ SOp _ _ ⟨_, .call ⟨.value (.func 97), _, _⟩, _, _, _, none⟩ _ _ _; first | (refine n_call (f := 97) rfl Tryd.call97 (h := AEq.sub' [_] (hc := br_bit_no _ _ _ (by omega) (by omega) (by omega)) (hq := ?_))))) | (refine hK _ _ ?_; clear hK K) | (dsimp only [Lf.thenQ, Lf.blockQ]))
      refine ⟨⟨2, a, c, n, o⟩, [0, 1, 2, 3], rfl, hok2 ha ho hw h1, ?_, rfl, ?_, ?_⟩
      · dsimp only; omega
      · (refine ⟨⟨_, sT, ?_⟩, ⟨_, sT, ?_⟩, ⟨_, sT, ?_⟩, ⟨_, sT, ?_⟩, ⟨_, sT, ?_⟩, trivial⟩ <;> (try (first | exact aleT)))
      · first | rfl | (simp (disch := omega) only [go_sem, seval, ↓reduceIte, fz_bk4]; done) | (simp (disch := omega) only [go_sem, seval, ↓reduceIte, fz_bk4]; rfl) | trace_state
    · have hlt : a < (bitsL b).length := by omega
      obtain ⟨x, hx⟩ := ex_at hlt
      have hx01 := bits01 b x (List.mem_of_getElem? hx)
      have hxg : (bitsL b).getD a 0 = x := by rw [List.getD_eq_getElem?_getD, hx]; rfl
      have hor := or_bit c x (by omega) (by omega) hx01
      rw [drop_cons hx] at h1
      by_cases hY : findY (2 * c + x) ((n : Int) + 1) = true
      · have hR := findR_is hY
        by_cases h256 : findS (2 * c + x) ((n : Int) + 1) = 256
        · rw [huM_end _ _ hY h256] at h1
          obtain ⟨rfl, rfl⟩ : d = [] ∧ e = 11 := by simp only [Prod.mk.injEq] at h1; exact ⟨h1.1.symm, h1.2.symm⟩
          have hU := And.intro @hxg ( And.intro @hor ( And.intro @hR ( And.intro @hY (@h256))))
          repeat' (first | (guard_target =~ PWp _ _ _ _ _ _ _; first | (refine pwp_seq_k (fun K hK => ?_)) | (refine pwp_rg_then ?_) | (refine pwp_ret ?_) | (refine pwp_skip ?_) | ((refine pwp_cond_d (fun hcd => ?_) (fun hcd => ?_)) <;> (try simp only [hcP] at hcd) <;> (try exact cdT))) | (guard_target =~ rg _ _ _ _ _ _ _; first | (guard_target =~ rg _ _ _ [] _ _ _; first | (refine rg_end ?_)) | (refine rg_a rfl (h := ?_)) | (refine rg_x rfl (hy := rfl) (h := ?_)) | (refine rg_v rfl (h := ?_)) | (refine rg_s rfl ?_)) | (guard_target =~ SOp _ _ _ _ _ _; first | (guard_target =~ SOp _ _ ⟨_, .call ⟨.value (.func 97), _, _⟩, _, _, _, none⟩ _ _ _; first | (refine n_call (f := 97) rfl Tryd.call97 (h := AEq.sub' [_] (hc := br_bit _ _ _ (by omega) (by omega) (by omega)) (hq := ?_)))) | (guard_target =~ SOp _ _ ⟨_, .call ⟨.value (.func 98), _, _⟩, _, _, _, none⟩ _ _ _; first | (refine n_call (f := 98) rfl Tryd.call98 (h := AEq.sub' [0, 1] (by refine ⟨?_, ?_, ?_, trivial⟩ <;> (first | exact arg_lit | exact arg_rn (by rfl) (by rfl))) (by exact sub_bk _) (bfind _ _ (by omega) (by omega)) (ho := by exact okP_bk) (hq := ?_))))) | (guard_target =~ (_ ∨ _) ∧ _; first | ((refine end_d [] (by rw [Tryd.results74, Lf.res2]) (ale_2 ?_ ?_) ?_) <;> (try (first | exact aleT | exact stq (by with_reducible rfl) | exact stq (by rfl) | exact stq (by simp (disch := omega) only [go_sem, seval, ↓reduceIte, hU]))))) | (refine hK _ _ ?_; clear hK K))
        · rw [huM_yes _ _ hY h256] at h1
          obtain ⟨s, hs, hS, _⟩ := of_find hY
          rw [hS] at hR h256 h1
          rw [Int.toNat_natCast] at h1
          have hs6 : s < 256 := by omega
          have hol : (o ++ [UInt8.ofNat s]).length = o.length + 1 := by rw [List.length_append]; rfl
          have hsn : (UInt8.ofNat s).toNat = s := by simp; omega
          have hap : List.map byteA o ++ [[AV.lit (.int .u8 (s : Int))]] = List.map byteA (o ++ [UInt8.ofNat s]) := by rw [List.map_append]; show _ = List.map byteA o ++ [[AV.lit (.int .u8 ((UInt8.ofNat s).toNat : Int))]]; rw [hsn]
          have hU := And.intro @hxg ( And.intro @hor ( And.intro @hR ( And.intro @hY ( And.intro @h256 (@hap)))))
          repeat' (first | (guard_target =~ PWp _ _ _ _ _ _ _; first | (refine pwp_seq_k (fun K hK => ?_)) | (refine pwp_rg_then ?_) | (refine pwp_skip ?_) | ((refine pwp_cond_d (fun hcd => ?_) (fun hcd => ?_)) <;> (try simp only [hcP] at hcd) <;> (try exact cdT)) | (refine pwp_goto ?_)) | (guard_target =~ rg _ _ _ _ _ _ _; first | (guard_target =~ rg _ _ _ [] _ _ _; first | (refine rg_end ?_)) | (refine rg_a rfl (h := ?_)) | (refine rg_x rfl (hy := rfl) (h := ?_)) | (refine rg_v rfl (h := ?_)) | (refine rg_s rfl ?_)) | (guard_target =~ SOp _ _ _ _ _ _; first | (guard_target =~ SOp _ _ ⟨_, .call ⟨.value (.func 97), _, _⟩, _, _, _, none⟩ _ _ _; first | (refine n_call (f := 97) rfl Tryd.call97 (h := AEq.sub' [_] (hc := br_bit _ _ _ (by omega) (by omega) (by omega)) (hq := ?_)))) | (guard_target =~ SOp _ _ ⟨_, .call ⟨.builtin .append, _, _⟩, _, _, _, none⟩ _ _ _; first | (refine n_append_row rfl (he := by first | exact eo3 | exact eo4 | exact eo5 | exact eo22 | exact eo28 | exact eo53 | exact eo129 | exact eo148 | exact eo150 | exact eo168 | exact eo169 | exact eo171 | exact eo173 | fail) (hK := ?_))) | (guard_target =~ SOp _ _ ⟨_, .call ⟨.value (.func 98), _, _⟩, _, _, _, none⟩ _ _ _; first | (refine n_call (f := 98) rfl Tryd.call98 (h := AEq.sub' [0, 1] (by refine ⟨?_, ?_, ?_, trivial⟩ <;> (first | exact arg_lit | exact arg_rn (by rfl) (by rfl))) (by exact sub_bk _) (bfind _ _ (by omega) (by omega)) (ho := by exact okP_bk) (hq := ?_)))) | (guard_target =~ SOp _ _ ⟨_, .buildSlice _ _ _, _, _, _, none⟩ _ _ _; first | (refine n_lit rfl (he := by first | exact eo3 | exact eo4 | exact eo5 | exact eo22 | exact eo28 | exact eo53 | exact eo129 | exact eo148 | exact eo150 | exact eo168 | exact eo169 | exact eo171 | exact eo173 | fail) (hK := ?_)))) | (refine hK _ _ ?_; clear hK K) | (dsimp only [Lf.thenQ, Lf.blockQ]))
          refine ⟨⟨0, a + 1, 2 * c + x, n + 1, o ++ [UInt8.ofNat s]⟩, [0, 1, 2, 3], rfl, hok0 (by omega) (by rw [hol]; omega) h1, ?_, rfl, ?_, ?_⟩
          · dsimp only; omega
          · (refine ⟨⟨_, sT, ?_⟩, ⟨_, sT, ?_⟩, ⟨_, sT, ?_⟩, ⟨_, sT, ?_⟩, ⟨_, sT, ?_⟩, trivial⟩ <;> (try (first | exact aleT)))
            all_goals exact ale_eq (by dsimp only; rw [hol])
          · dsimp only; rw [hol]; first | rfl | (simp (disch := omega) only [go_sem, seval, ↓reduceIte, hxg, hor, hR, hY, h256, hap, fz_bk4]; done) | (simp (disch := omega) only [go_sem, seval, ↓reduceIte, hxg, hor, hR, hY, h256, hap, fz_bk4]; rfl) | trace_state
      · have hR := findR_no hY
        rw [huM_no _ _ hY] at h1
        have hw2 := way_s hw hx01 hY
        have hU := And.intro @hxg ( And.intro @hor ( And.intro @hR (@hY)))
        repeat' (first | (guard_target =~ PWp _ _ _ _ _ _ _; first | (refine pwp_seq_k (fun K hK => ?_)) | (refine pwp_rg_then ?_) | (refine pwp_skip ?_) | ((refine pwp_cond_d (fun hcd => ?_) (fun hcd => ?_)) <;> (try simp only [hcP] at hcd) <;> (try exact cdT)) | (refine pwp_goto ?_)) | (guard_target =~ rg _ _ _ _ _ _ _; first | (guard_target =~ rg _ _ _ [] _ _ _; first | (refine rg_end ?_)) | (refine rg_a rfl (h := ?_)) | (refine rg_x rfl (hy := rfl) (h := ?_)) | (refine rg_v rfl (h := ?_)) | (refine rg_s rfl ?_)) | (guard_target =~ SOp _ _ _ _ _ _; first | (guard_target =~ SOp _ _ ⟨_, .call ⟨.value (.func 97), _, _⟩, _, _, _, none⟩ _ _ _; first | (refine n_call (f := 97) rfl Tryd.call97 (h := AEq.sub' [_] (hc := br_bit _ _ _ (by omega) (by omega) (by omega)) (hq := ?_)))) | (guard_target =~ SOp _ _ ⟨_, .call ⟨.value (.func 98), _, _⟩, _, _, _, none⟩ _ _ _; first | (refine n_call (f := 98) rfl Tryd.call98 (h := AEq.sub' [0, 1] (by refine ⟨?_, ?_, ?_, trivial⟩ <;> (first | exact arg_lit | exact arg_rn (by rfl) (by rfl))) (by exact sub_bk _) (bfind _ _ (by omega) (by omega)) (ho := by exact okP_bk) (hq := ?_))))) | (refine hK _ _ ?_; clear hK K) | (dsimp only [Lf.thenQ, Lf.blockQ]))
        refine ⟨⟨1, a + 1, 2 * c + x, n + 1, o⟩, [0, 1, 2, 3], rfl, hok1 (by omega) (by omega) hw2 h1, ?_, rfl, ?_, ?_⟩
        · dsimp only; omega
        · (refine ⟨⟨_, sT, ?_⟩, ⟨_, sT, ?_⟩, ⟨_, sT, ?_⟩, ⟨_, sT, ?_⟩, ⟨_, sT, ?_⟩, trivial⟩ <;> (try (first | exact aleT)))
        · first | rfl | (simp (disch := omega) only [go_sem, seval, ↓reduceIte, hxg, hor, hR, hY, fz_bk4]; done) | (simp (disch := omega) only [go_sem, seval, ↓reduceIte, hxg, hor, hR, hY, fz_bk4]; rfl) | trace_state
  · rintro ⟨k, a, c, n, o⟩ rfl ⟨ha, ho, h0, h1, h2⟩
    dsimp only at ha ho h0 h1 h2 ⊢
    obtain ⟨hw, h2⟩ := h2 rfl
    obtain ⟨hc0, hc1, hn⟩ := way_bd hw
    clear h0 h1
    have hp := pow_29 hn
    have hwr : IntKind.i64.wrap (IntKind.i64.wrap (2 ^ n) - 1) = 2 ^ n - 1 := by rw [w64 (n := 2 ^ n) (by omega), w64 (by omega)]
    by_cases hbad : 7 < n ∨ c ≠ 2 ^ n - 1
    · rw [huM_nil, if_pos hbad] at h2
      obtain ⟨rfl, rfl⟩ : d = [] ∧ e = 10 := by simp only [Prod.mk.injEq] at h2; exact ⟨h2.1.symm, h2.2.symm⟩
      have hU := @hwr
      repeat' (first | (guard_target =~ PWp _ _ _ _ _ _ _; first | (refine pwp_seq_k (fun K hK => ?_)) | (refine pwp_rg_then ?_) | (refine pwp_ret ?_) | ((refine pwp_cond_d (fun hcd => ?_) (fun hcd => ?_)) <;> (try simp only [hcP] at hcd) <;> (try exact cdT))) | (guard_target =~ rg _ _ _ _ _ _ _; first | (guard_target =~ rg _ _ _ (⟨_, .binOp _ _ _ _ _, _, _, _, some _⟩ :: _) _ _ _; first | (refine rg_gq rfl (h := ?_))) | (guard_target =~ rg _ _ _ (⟨_, .move _, _, _, _, some _⟩ :: _) _ _ _; first | (refine rg_gq rfl (h := ?_))) | (guard_target =~ rg _ _ _ (⟨_, .convert _ _ _, _, _, _, some _⟩ :: _) _ _ _; first | (refine rg_gq rfl (h := ?_))) | (guard_target =~ rg _ _ _ [] _ _ _; first | (refine rg_end ?_)) | (refine rg_a rfl (h := ?_)) | (refine rg_v rfl (h := ?_))) | (guard_target =~ (_ ∨ _) ∧ _; first | ((refine end_d [] (by rw [Tryd.results74, Lf.res2]) (ale_2 ?_ ?_) ?_) <;> (try (first | exact aleT | exact stq (by with_reducible rfl) | exact stq (by rfl) | exact stq (by simp (disch := omega) only [go_sem, seval, ↓reduceIte, hU]))))) | (refine hK _ _ ?_; clear hK K))
    · rw [huM_nil, if_neg hbad] at h2
      obtain ⟨rfl, rfl⟩ : d = o ∧ e = 0 := by simp only [Prod.mk.injEq] at h2; exact ⟨h2.1.symm, h2.2.symm⟩
      have hU := @hwr
      repeat' (first | (guard_target =~ PWp _ _ _ _ _ _ _; first | (refine pwp_seq_k (fun K hK => ?_)) | (refine pwp_rg_then ?_) | (refine pwp_ret ?_) | (refine pwp_skip ?_) | ((refine pwp_cond_d (fun hcd => ?_) (fun hcd => ?_)) <;> (try simp only [hcP] at hcd) <;> (try exact cdT))) | (guard_target =~ rg _ _ _ _ _ _ _; first | (guard_target =~ rg _ _ _ (⟨_, .binOp _ _ _ _ _, _, _, _, some _⟩ :: _) _ _ _; first | (refine rg_gq rfl (h := ?_))) | (guard_target =~ rg _ _ _ (⟨_, .move _, _, _, _, some _⟩ :: _) _ _ _; first | (refine rg_gq rfl (h := ?_))) | (guard_target =~ rg _ _ _ (⟨_, .convert _ _ _, _, _, _, some _⟩ :: _) _ _ _; first | (refine rg_gq rfl (h := ?_))) | (guard_target =~ rg _ _ _ [] _ _ _; first | (refine rg_end ?_)) | (refine rg_a rfl (h := ?_)) | (refine rg_v rfl (h := ?_))) | (guard_target =~ (_ ∨ _) ∧ _; first | ((refine end_d [] (by rw [Tryd.results74, Lf.res2]) (ale_2 ?_ ?_) ?_) <;> (try (first | exact aleT | exact stq (by with_reducible rfl) | exact stq (by rfl) | exact stq (by simp (disch := omega) only [go_sem, seval, ↓reduceIte, hU]))))) | (refine hK _ _ ?_; clear hK K))
  · have hU := True.intro
    repeat' (first | (guard_target =~ PWp _ _ _ _ _ _ _; first | (refine pwp_seq_k (fun K hK => ?_)) | (refine pwp_rg_then ?_)) | (guard_target =~ rg _ _ _ _ _ _ _; first | (guard_target =~ rg _ _ _ [] _ _ _; first | (refine rg_end ?_)) | (refine rg_a rfl (h := ?_)) | (refine rg_v rfl (h := ?_)) | (refine rg_s rfl ?_)) | (guard_target =~ SOp _ _ _ _ _ _; first | (guard_target =~ SOp _ _ ⟨_, .call ⟨.value (.func 95), _, _⟩, _, _, _, none⟩ _ _ _; first | (refine n_call (f := 95) rfl Tryd.call95 (h := AEq.sub' [] (hc := cbook) (hq := ?_)))) | (guard_target =~ SOp _ _ ⟨_, .call ⟨.value (.func 96), _, _⟩, _, _, _, none⟩ _ _ _; first | (refine n_call (f := 96) rfl Tryd.call96 (h := AEq.sub' [] (hc := br_of _ _ _ (by omega)) (hq := ?_))))) | (refine hK _ _ ?_; clear hK K))
    refine pwp_label ?_
    dsimp only [Lf.thenQ]
    refine hK _ _ ?_
    refine pwp_row 4 5 1 (by decide) (by rfl) rfl rfl ?_
    refine hB _ _ ⟨0, 0, 0, 0, []⟩ [0, 1, 2, 3] rfl (hok0 (Nat.zero_le _) (Nat.le_refl _) htot) rfl ?_ ?_
    · (refine ⟨⟨_, sT, ?_⟩, ⟨_, sT, ?_⟩, ⟨_, sT, ?_⟩, ⟨_, sT, ?_⟩, ⟨_, sT, ?_⟩, trivial⟩ <;> (try (first | exact aleT)))
    · first | rfl | (simp (disch := omega) only [go_sem, seval, ↓reduceIte, fz_bk4]; done) | (simp (disch := omega) only [go_sem, seval, ↓reduceIte, fz_bk4]; rfl) | trace_state
theorem hdecode (f q : Bool) (b : List UInt8) (hb : b.length ≤ 100000) : AEq Tryd.prog 74 [.sl f q (b.map byteA)] [] (.tu [.sl false false ((huM (bitsL b) 0 0 []).1.map byteA), i64 (huM (bitsL b) 0 0 []).2]) [] := hdecode0 f q b hb _ _ rfl
end Go.Proofs.YtohbfcmmpaikhaaDoor

set_option linter.unusedVariables false
set_option linter.unusedSimpArgs false
namespace Go.Proofs.YtohbfcmmpaikhaaDoor
open Go Go.Lf Go.Proofs
attribute [local irreducible] Lf.rg Lf.ro Lf.PWp Lf.SOp Lf.ACall Lf.Scoped Lf.dg Lf.dw
set_option maxRecDepth 20000
set_option maxHeartbeats 4000000
theorem codesT_at {s : Nat} (h : s < 257) : codesT[s]? = some (csI s) := by
  unfold codesT; rw [List.getElem?_map, List.getElem?_range h]; rfl
theorem codesT_len : codesT.length = 257 := by simp [codesT]
attribute [local irreducible] codesT csI szI rpL rowB encL packL lensT
end Go.Proofs.YtohbfcmmpaikhaaDoor

set_option linter.unusedVariables false
set_option linter.unusedSimpArgs false
namespace Go.Proofs.YtohbfcmmpaikhaaDoor
open Go Go.Lf Go.Proofs
attribute [local irreducible] Lf.rg Lf.ro Lf.PWp Lf.SOp Lf.ACall Lf.Scoped Lf.dg Lf.dw
set_option maxRecDepth 20000
set_option maxHeartbeats 4000000
def begG (l : List Int) : Nat → Nat → Int × Int
  | 0, _ => (-1, 0)
  | m + 1, p => if findY (numBits (l.take (p + 1))) ((p : Int) + 1) = true then (findS (numBits (l.take (p + 1))) ((p : Int) + 1), (p : Int) + 1) else begG l m (p + 1)
theorem begG_0 (l : List Int) (p : Nat) : begG l 0 p = (-1, 0) := rfl
theorem begG_y {l : List Int} {m p : Nat} (h : findY (numBits (l.take (p + 1))) ((p : Int) + 1) = true) : begG l (m + 1) p = (findS (numBits (l.take (p + 1))) ((p : Int) + 1), (p : Int) + 1) := by rw [begG, if_pos h]
theorem begG_n {l : List Int} {m p : Nat} (h : ¬ findY (numBits (l.take (p + 1))) ((p : Int) + 1) = true) : begG l (m + 1) p = begG l m (p + 1) := by rw [begG, if_neg h]
def begL (l : List Int) : Int × Int := begG l (min 30 l.length) 0
theorem nb_snoc {l : List Int} {p : Nat} {x : Int} (h : l[p]? = some x) : numBits (l.take (p + 1)) = 2 * numBits (l.take p) + x := by
  rw [take_snoc h, numBits_snoc]
theorem begG_hu {l : List Int} (h01 : ∀ x ∈ l, x = 0 ∨ x = 1) (o : List UInt8) : ∀ (m p : Nat), m + p = min 30 l.length → Way (numBits (l.take p)) p →
    (begG l m p).1 ≤ 256 ∧ (begG l m p).2 ≤ l.length ∧ 0 ≤ (begG l m p).2 ∧ (0 ≤ (begG l m p).1 → 1 ≤ (begG l m p).2) ∧ huM (l.drop p) (numBits (l.take p)) p o =
      if (begG l m p).1 = 256 then ([], 11) else if (begG l m p).1 < 0 then (if 7 < l.length ∨ numBits l ≠ 2 ^ l.length - 1 then ([], 10) else (o, 0)) else huM (l.drop (begG l m p).2.toNat) 0 0 (o ++ [UInt8.ofNat (begG l m p).1.toNat]) := by
  intro m
  induction m with
  | zero =>
    intro p hm hw
    have hn := hw.n
    have hp : p = l.length := by omega
    subst hp
    rw [begG_0, List.drop_length, List.take_length, huM_nil]
    refine ⟨by decide, by dsimp only; omega, by decide, fun h => absurd h (by decide), ?_⟩
    rw [if_neg (show ¬ (((-1 : Int), (0 : Int)).1 = 256) by decide), if_pos (show ((-1 : Int), (0 : Int)).1 < 0 by decide)]
  | succ m ih =>
    intro p hm hw
    obtain ⟨x, hx⟩ := ex_at (l := l) (i := p) (by omega)
    have hx01 := h01 x (List.mem_of_getElem? hx)
    have hnb := nb_snoc hx
    rw [drop_cons hx]
    by_cases hY : findY (numBits (l.take (p + 1))) ((p : Int) + 1) = true
    · rw [begG_y hY]
      obtain ⟨s, hs, hS, _⟩ := of_find hY
      have hY2 := hY
      rw [hnb] at hY2
      dsimp only
      refine ⟨by omega, by omega, by omega, fun _ => by omega, ?_⟩
      rw [hnb] at hS ⊢
      by_cases h256 : findS (2 * numBits (l.take p) + x) ((p : Int) + 1) = 256
      · rw [huM_end _ _ hY2 h256, if_pos h256]
      · rw [huM_yes _ _ hY2 h256, if_neg h256, if_neg (by omega), show ((p : Int) + 1).toNat = p + 1 from by omega]
    · rw [begG_n hY]
      have hY2 := hY
      rw [hnb] at hY2
      rw [huM_no _ _ hY2, ← hnb]
      refine ih (p + 1) (by omega) ?_
      rw [hnb]
      exact way_s hw hx01 hY2
theorem begL_hu {l : List Int} (h01 : ∀ x ∈ l, x = 0 ∨ x = 1) (o : List UInt8) : (begL l).1 ≤ 256 ∧ (begL l).2 ≤ l.length ∧ 0 ≤ (begL l).2 ∧ (0 ≤ (begL l).1 → 1 ≤ (begL l).2) ∧ huM l 0 0 o =
      if (begL l).1 = 256 then ([], 11) else if (begL l).1 < 0 then (if 7 < l.length ∨ numBits l ≠ 2 ^ l.length - 1 then ([], 10) else (o, 0)) else huM (l.drop (begL l).2.toNat) 0 0 (o ++ [UInt8.ofNat (begL l).1.toNat]) :=
  begG_hu h01 o (min 30 l.length) 0 rfl way_0
theorem ones_iff {l : List Int} (h01 : ∀ x ∈ l, x = 0 ∨ x = 1) : numBits l ≤ 2 ^ l.length - 1 ∧ (numBits l = 2 ^ l.length - 1 → ∀ x ∈ l, x = 1) ∧ ((∀ x ∈ l, x = 1) → numBits l = 2 ^ l.length - 1) := by
  have key : ∀ (m : Nat) (l : List Int), l.length = m → (∀ x ∈ l, x = 0 ∨ x = 1) → numBits l ≤ 2 ^ l.length - 1 ∧ (numBits l = 2 ^ l.length - 1 → ∀ x ∈ l, x = 1) ∧ ((∀ x ∈ l, x = 1) → numBits l = 2 ^ l.length - 1) := by
    intro m
    induction m with
    | zero =>
      intro l hl _
      have : l = [] := List.length_eq_zero_iff.1 hl
      subst this
      refine ⟨by decide, fun _ x hx => absurd hx (by simp), fun _ => by decide⟩
    | succ m ih =>
      intro l hl h
      obtain ⟨x, hx⟩ := ex_at (l := l) (i := m) (by omega)
      have e : l = l.take m ++ [x] := by rw [← take_snoc hx, List.take_of_length_le (by omega)]
      generalize l.take m = t at e
      subst e
      have ht : t.length = m := by simp at hl; omega
      have hx01 := h x (by simp)
      obtain ⟨i1, i2, i3⟩ := ih t ht (fun y hy => h y (List.mem_append_left _ hy))
      have hp : (2 : Int) ^ (t ++ [x]).length = 2 ^ t.length * 2 := by rw [List.length_append, List.length_singleton, Int.pow_succ]
      rw [numBits_snoc, hp]
      refine ⟨by omega, fun he => ?_, fun ha => ?_⟩
      · have h2 : numBits t = 2 ^ t.length - 1 := by omega
        have h3 : x = 1 := by omega
        intro y hy
        rw [List.mem_append, List.mem_singleton] at hy
        rcases hy with hy | hy
        · exact i2 h2 y hy
        · rw [hy, h3]
      · have h2 := i3 (fun y hy => ha y (List.mem_append_left _ hy))
        have h3 := ha x (by simp)
        omega
  exact key _ l rfl h01
theorem nb_0 : numBits [] = 0 := rfl
attribute [local irreducible] codesT csI szI lensT findY findS numBits begL
theorem rbegins0 (f q : Bool) (l : List Int) (f2 q2 f3 q3 : Bool) (h01 : ∀ x ∈ l, x = 0 ∨ x = 1) (hl : l.length ≤ 1000000000) (rs rk : Int) (hres : begG l (min 30 l.length) 0 = (rs, rk)) : AEq Tryd.prog 102 [.sl f q (l.map intA), .sl f2 q2 (codesT.map intA), .sl f3 q3 (lensT.map intA)] [] (.tu [i64 rs, i64 rk]) [] := by
  have hcl := codesT_len
  have hll := lensT_len
  refine acall_body Tryd.func102 rfl Tryd.ntmps102 (by simp) (fun hsc => ?_); simp only [Lf.enter, Nat.reduceAdd]; clear hsc
  have hU := True.intro
  repeat' (first | (guard_target =~ PWp _ _ _ _ _ _ _; first | (refine pwp_seq_k (fun K hK => ?_)) | (refine pwp_block ?_) | (refine pwp_rg_then ?_)) | (guard_target =~ rg _ _ _ _ _ _ _; first | (guard_target =~ rg _ _ _ [] _ _ _; first | (refine rg_end ?_)) | (refine rg_a rfl (h := ?_))) | (refine hK _ _ ?_; clear hK K))
  refine pwp_loop_e [6, 7, 8, 9, 10, 11, 12, 13, 14, 15, 16, 17, 18, 19, 20, 21, 22, 23, 24, 25, 26, 27, 28, 29, 30, 31, 32, 33, 34, 35, 36, 37, 38, 39, 40, 41, 42, 43, 44, 45, 46, 47, 48] (fun p : Nat => [(9, i64 ((p : Int) + 1)), (8, i64 (numBits (l.take p)))]) (fun p => []) (fun p => p ≤ min 30 l.length ∧ begG l (min 30 l.length - p) p = (rs, rk)) (fun p => min 30 l.length - p) 0 ⟨Nat.zero_le _, hres⟩ ?_ rfl ?_
  · rw [List.take_zero]
    (refine ⟨⟨_, sT, ?_⟩, ⟨_, sT, ?_⟩, trivial⟩ <;> (try (first | exact aleT)))
    all_goals exact ale_eq (by rw [nb_0])
  · rintro p ⟨hp, hg⟩
    simp only [mask, List.map_cons, List.map_nil, List.cons_append, List.nil_append]
    by_cases hlt : p < min 30 l.length
    · obtain ⟨x, hx⟩ := ex_at (l := l) (i := p) (by omega)
      have hnb := nb_snoc hx
      have hbd := numBits_bd32 (l.take p) (fun y hy => h01 y (List.mem_of_mem_take hy)) (by rw [List.length_take]; omega)
      have hx01 := h01 x (List.mem_of_getElem? hx)
      have hp30 : p < 30 := by omega
      have hpl : p < l.length := by omega
      rw [show min 30 l.length - p = (min 30 l.length - (p + 1)) + 1 from by omega] at hg
      obtain ⟨c, hc⟩ : ∃ c, numBits (l.take (p + 1)) = c := ⟨_, rfl⟩
      have hcx : 2 * numBits (l.take p) + x = c := by rw [← hc, hnb]
      have hpx : ((p : Int) + 1 - 1).toNat = p := by omega
      have hgy : findY c ((p : Int) + 1) = true → (rs, rk) = (findS c ((p : Int) + 1), (p : Int) + 1) := by
        intro h
        rw [← hg, begG_y (by rw [hc]; exact h), hc]
      have hgn : ¬ findY c ((p : Int) + 1) = true → begG l (min 30 l.length - (p + 1)) (p + 1) = (rs, rk) := by
        intro h
        rw [← hg, begG_n (by rw [hc]; exact h)]
      have hU := And.intro @hcx (@hpx)
      repeat' (first | (guard_target =~ PWp _ _ _ _ _ _ _; first | (refine pwp_seq_k (fun K hK => ?_)) | (refine pwp_block ?_) | (refine pwp_rg_then ?_) | (refine pwp_skip ?_) | ((refine pwp_cond_d (fun hcd => ?_) (fun hcd => ?_)) <;> (try simp only [hcP] at hcd) <;> (try exact cdT))) | (guard_target =~ rg _ _ _ _ _ _ _; first | (guard_target =~ rg _ _ _ (⟨_, .move _, _, _, _, some _⟩ :: _) _ _ _; first | (refine rg_gq rfl (h := ?_))) | (guard_target =~ rg _ _ _ (⟨_, .binOp _ _ _ _ _, _, _, _, some _⟩ :: _) _ _ _; first | (refine rg_gq rfl (h := ?_))) | (guard_target =~ rg _ _ _ (⟨_, .indexAddr _ _ _, _, _, _, some _⟩ :: _) _ _ _; first | (refine rg_gq rfl (h := ?_))) | (guard_target =~ rg _ _ _ (⟨_, .call ⟨.builtin .len, _, _⟩, _, _, _, some _⟩ :: _) _ _ _; first | (refine rg_gq rfl (h := ?_))) | (guard_target =~ rg _ _ _ (⟨_, .load _ _, _, _, _, some _⟩ :: _) _ _ _; first | (refine rg_gq rfl (h := ?_))) | (guard_target =~ rg _ _ _ [] _ _ _; first | (refine rg_end ?_)) | (refine rg_a rfl (h := ?_)) | (refine rg_v rfl (h := ?_)) | (refine rg_s rfl ?_)) | (guard_target =~ SOp _ _ _ _ _ _; first | (guard_target =~ SOp _ _ ⟨_, .indexAddr _ _ _, _, _, _, none⟩ _ _ _; first | (refine n_index rfl (hK := ?_))) | (guard_target =~ SOp _ _ ⟨_, .indexAddr _ _ _, _, _, _, some _⟩ _ _ _; first | (refine n_index rfl (hK := ?_)))) | (refine hK _ _ ?_; clear hK K))
      refine pwp_loop_e [6, 7, 10, 29, 30, 31, 32, 33, 34, 35, 36, 37, 38, 39, 40, 41, 42, 43, 44, 45, 46, 47, 48] (fun k : Nat => [(10, i64 k)]) (fun k => []) (fun k => k ≤ 257 ∧ (findY c ((p : Int) + 1) = true → (k : Int) ≤ findS c ((p : Int) + 1))) (fun k => 257 - k) 0 ⟨Nat.zero_le _, fun h => by obtain ⟨s, _, hS, _⟩ := of_find h; omega⟩ ?_ rfl ?_
      · have hU := True.intro
        (refine ⟨⟨_, sT, ?_⟩, trivial⟩ <;> (try (first | exact aleT)))
      · rintro k ⟨hk, hkf⟩
        simp only [mask, List.map_cons, List.map_nil, List.cons_append, List.nil_append]
        by_cases hltk : k < 257
        · have hat := codesT_at hltk
          have hat2 := lensT_at hltk
          by_cases hfit : csI k = c ∧ szI (k : Int) = (p : Int) + 1
          · obtain ⟨hf1, hf2⟩ := hfit
            obtain ⟨hy, hS⟩ := find_of hltk
            rw [hf1, hf2] at hy hS
            have hg2 := hgy hy
            rw [hS] at hg2
            obtain ⟨rfl, rfl⟩ : rs = (k : Int) ∧ rk = (p : Int) + 1 := by simp only [Prod.mk.injEq] at hg2; exact hg2
            have hU := And.intro @hf1 (@hf2)
            repeat' (first | (guard_target =~ PWp _ _ _ _ _ _ _; first | (refine pwp_seq_k (fun K hK => ?_)) | (refine pwp_block ?_) | (refine pwp_rg_then ?_) | (refine pwp_ret ?_) | (refine pwp_skip ?_) | ((refine pwp_cond_d (fun hcd => ?_) (fun hcd => ?_)) <;> (try simp only [hcP] at hcd) <;> (try exact cdT))) | (guard_target =~ rg _ _ _ _ _ _ _; first | (guard_target =~ rg _ _ _ (⟨_, .move _, _, _, _, some _⟩ :: _) _ _ _; first | (refine rg_gtp rfl (h := ?_)) | (refine rg_gt rfl (h := ?_))) | (guard_target =~ rg _ _ _ (⟨_, .binOp _ _ _ _ _, _, _, _, some _⟩ :: _) _ _ _; first | (refine rg_gtp rfl (h := ?_)) | (refine rg_gt rfl (h := ?_))) | (guard_target =~ rg _ _ _ (⟨_, .indexAddr _ _ _, _, _, _, some _⟩ :: _) _ _ _; first | (refine rg_gtp rfl (h := ?_)) | (refine rg_gt rfl (h := ?_))) | (guard_target =~ rg _ _ _ (⟨_, .call ⟨.builtin .len, _, _⟩, _, _, _, some _⟩ :: _) _ _ _; first | (refine rg_gtp rfl (h := ?_)) | (refine rg_gt rfl (h := ?_))) | (guard_target =~ rg _ _ _ (⟨_, .load _ _, _, _, _, some _⟩ :: _) _ _ _; first | (refine rg_gtp rfl (h := ?_)) | (refine rg_gt rfl (h := ?_))) | (guard_target =~ rg _ _ _ [] _ _ _; first | (refine rg_end ?_)) | (refine rg_a rfl (h := ?_)) | (refine rg_v rfl (h := ?_)) | (refine rg_s rfl ?_)) | (guard_target =~ SOp _ _ _ _ _ _; first | (guard_target =~ SOp _ _ ⟨_, .indexAddr _ _ _, _, _, _, none⟩ _ _ _; first | (refine n_index rfl (hK := ?_))) | (guard_target =~ SOp _ _ ⟨_, .indexAddr _ _ _, _, _, _, some _⟩ _ _ _; first | (refine n_index rfl (hK := ?_)))) | (guard_target =~ (_ ∨ _) ∧ _; first | ((refine end_d [] (by rw [Tryd.results102, Lf.res2]) (ale_2 ?_ ?_) ?_) <;> (try (first | exact aleT | exact stq (by with_reducible rfl) | exact stq (by rfl) | exact stq (by simp (disch := omega) only [go_sem, seval, ↓reduceIte, hU]))))) | (refine hK _ _ ?_; clear hK K))
          · have hstep : findY c ((p : Int) + 1) = true → ((k + 1 : Nat) : Int) ≤ findS c ((p : Int) + 1) := by
              intro h
              have h2 := hkf h
              obtain ⟨s, hs, hS, h3, h4, _⟩ := of_find h
              by_cases hsk : s = k
              · subst hsk
                exact absurd ⟨h3, h4⟩ hfit
              · omega
            have hU := True.intro
            repeat' (first | (guard_target =~ PWp _ _ _ _ _ _ _; first | (refine pwp_seq_k (fun K hK => ?_)) | (refine pwp_block ?_) | (refine pwp_rg_then ?_) | (refine pwp_skip ?_) | ((refine pwp_cond_d (fun hcd => ?_) (fun hcd => ?_)) <;> (try simp only [hcP] at hcd) <;> (try exact cdT))) | (guard_target =~ rg _ _ _ _ _ _ _; first | (guard_target =~ rg _ _ _ (⟨_, .move _, _, _, _, some _⟩ :: _) _ _ _; first | (refine rg_gtp rfl (h := ?_)) | (refine rg_gf rfl (hn := rfl) (h := ?_)) | (refine rg_gq rfl (h := ?_)) | (refine rg_gt rfl (h := ?_)) | ((first | refine rg_case (by simp only [go_sem, seval, ↓reduceIte, hU] <;> rfl) (fun hcd => ?_) (fun hcd => ?_) | refine rg_case2 (by simp only [go_sem, seval, ↓reduceIte, hU] <;> rfl) (fun hcd => ?_) (fun hcd => ?_)) <;> (try simp only [hcd]) <;> (try (simp only [Bool.not_eq_true', Bool.not_eq_false'] at hcd; try simp only [hcd])) <;> (refine rg_w (Γ2 := _) (by repeat' (first | exact envw_nil | apply envw_cons | exact opens_t | exact opens_f | exact opens_r)) ?_) <;> (try simp only [hcP] at hcd) <;> (try exact cdT))) | (guard_target =~ rg _ _ _ (⟨_, .binOp _ _ _ _ _, _, _, _, some _⟩ :: _) _ _ _; first | (refine rg_gtp rfl (h := ?_)) | (refine rg_gf rfl (hn := rfl) (h := ?_)) | (refine rg_gq rfl (h := ?_)) | (refine rg_gt rfl (h := ?_)) | ((first | refine rg_case (by simp only [go_sem, seval, ↓reduceIte, hU] <;> rfl) (fun hcd => ?_) (fun hcd => ?_) | refine rg_case2 (by simp only [go_sem, seval, ↓reduceIte, hU] <;> rfl) (fun hcd => ?_) (fun hcd => ?_)) <;> (try simp only [hcd]) <;> (try (simp only [Bool.not_eq_true', Bool.not_eq_false'] at hcd; try simp only [hcd])) <;> (refine rg_w (Γ2 := _) (by repeat' (first | exact envw_nil | apply envw_cons | exact opens_t | exact opens_f | exact opens_r)) ?_) <;> (try simp only [hcP] at hcd) <;> (try exact cdT))) | (guard_target =~ rg _ _ _ (⟨_, .indexAddr _ _ _, _, _, _, some _⟩ :: _) _ _ _; first | (refine rg_gtp rfl (h := ?_)) | (refine rg_gf rfl (hn := rfl) (h := ?_)) | (refine rg_gq rfl (h := ?_)) | (refine rg_gt rfl (h := ?_)) | ((first | refine rg_case (by simp only [go_sem, seval, ↓reduceIte, hU] <;> rfl) (fun hcd => ?_) (fun hcd => ?_) | refine rg_case2 (by simp only [go_sem, seval, ↓reduceIte, hU] <;> rfl) (fun hcd => ?_) (fun hcd => ?_)) <;> (try simp only [hcd]) <;> (try (simp only [Bool.not_eq_true', Bool.not_eq_false'] at hcd; try simp only [hcd])) <;> (refine rg_w (Γ2 := _) (by repeat' (first | exact envw_nil | apply envw_cons | exact opens_t | exact opens_f | exact opens_r)) ?_) <;> (try simp only [hcP] at hcd) <;> (try exact cdT))) | (guard_target =~ rg _ _ _ (⟨_, .call ⟨.builtin .len, _, _⟩, _, _, _, some _⟩ :: _) _ _ _; first | (refine rg_gtp rfl (h := ?_)) | (refine rg_gf rfl (hn := rfl) (h := ?_)) | (refine rg_gq rfl (h := ?_)) | (refine rg_gt rfl (h := ?_)) | ((first | refine rg_case (by simp only [go_sem, seval, ↓reduceIte, hU] <;> rfl) (fun hcd => ?_) (fun hcd => ?_) | refine rg_case2 (by simp only [go_sem, seval, ↓reduceIte, hU] <;> rfl) (fun hcd => ?_) (fun hcd => ?_)) <;> (try simp only [hcd]) <;> (try (simp only [Bool.not_eq_true', Bool.not_eq_false'] at hcd; try simp only [hcd])) <;> (refine rg_w (Γ2 := _) (by repeat' (first | exact envw_nil | apply envw_cons | exact opens_t | exact opens_f | exact opens_r)) ?_) <;> (try simp only [hcP] at hcd) <;> (try exact cdT))) | (guard_target =~ rg _ _ _ (⟨_, .load _ _, _, _, _, some _⟩ :: _) _ _ _; first | (refine rg_gtp rfl (h := ?_)) | (refine rg_gf rfl (hn := rfl) (h := ?_)) | (refine rg_gq rfl (h := ?_)) | (refine rg_gt rfl (h := ?_)) | ((first | refine rg_case (by simp only [go_sem, seval, ↓reduceIte, hU] <;> rfl) (fun hcd => ?_) (fun hcd => ?_) | refine rg_case2 (by simp only [go_sem, seval, ↓reduceIte, hU] <;> rfl) (fun hcd => ?_) (fun hcd => ?_)) <;> (try simp only [hcd]) <;> (try (simp only [Bool.not_eq_true', Bool.not_eq_false'] at hcd; try simp only [hcd])) <;> (refine rg_w (Γ2 := _) (by repeat' (first | exact envw_nil | apply envw_cons | exact opens_t | exact opens_f | exact opens_r)) ?_) <;> (try simp only [hcP] at hcd) <;> (try exact cdT))) | (guard_target =~ rg _ _ _ [] _ _ _; first | (refine rg_end ?_)) | (refine rg_a rfl (h := ?_)) | (refine rg_v rfl (h := ?_)) | (refine rg_s rfl ?_)) | (guard_target =~ SOp _ _ _ _ _ _; first | (guard_target =~ SOp _ _ ⟨_, .indexAddr _ _ _, _, _, _, none⟩ _ _ _; first | (refine n_index rfl (hK := ?_))) | (guard_target =~ SOp _ _ ⟨_, .indexAddr _ _ _, _, _, _, some _⟩ _ _ _; first | (refine n_index rfl (hK := ?_)))) | (refine hK _ _ ?_; clear hK K))
            all_goals refine ⟨k + 1, ⟨by omega, hstep⟩, by omega, ?_, (by repeat' (first | exact agr_refl | refine agr_cons (by rfl) ?_)), (by first | rfl | (simp (disch := omega) only [go_sem, seval, ↓reduceIte, hU]; done) | (simp (disch := omega) only [go_sem, seval, ↓reduceIte, hU]; rfl))⟩
            all_goals ((refine ⟨⟨_, sT, ?_⟩, trivial⟩ <;> (try (first | exact aleT))))
        · have hk7 : k = 257 := by omega
          subst hk7
          have hno : ¬ findY c ((p : Int) + 1) = true := by
            intro h
            have h2 := hkf h
            obtain ⟨s, hs, hS, _⟩ := of_find h
            omega
          have hg3 := hgn hno
          have hU := True.intro
          repeat' (first | (guard_target =~ PWp _ _ _ _ _ _ _; first | (refine pwp_seq_k (fun K hK => ?_)) | (refine pwp_rg_then ?_) | (refine pwp_exit ?_) | ((refine pwp_cond_d (fun hcd => ?_) (fun hcd => ?_)) <;> (try simp only [hcP] at hcd) <;> (try exact cdT))) | (guard_target =~ rg _ _ _ _ _ _ _; first | (guard_target =~ rg _ _ _ [] _ _ _; first | (refine rg_end ?_)) | (refine rg_a rfl (h := ?_)) | (refine rg_v rfl (h := ?_))) | (refine hK _ _ ?_; clear hK K) | (apply_assumption (exfalso := false) (symm := false)))
          refine ⟨p + 1, ⟨by omega, hg3⟩, by omega, ?_, (by repeat' (first | exact agr_refl | refine agr_cons (by rfl) ?_)), (by first | rfl | (simp (disch := omega) only [go_sem, seval, ↓reduceIte, hU]; done) | (simp (disch := omega) only [go_sem, seval, ↓reduceIte, hU]; rfl))⟩
          (refine ⟨⟨_, sT, ?_⟩, ⟨_, sT, ?_⟩, trivial⟩ <;> (try (first | exact aleT)))
          all_goals exact ale_i hc.symm
    · have hpe : min 30 l.length - p = 0 := by omega
      rw [hpe, begG_0] at hg
      obtain ⟨rfl, rfl⟩ : rs = -1 ∧ rk = 0 := by simp only [Prod.mk.injEq] at hg; exact ⟨hg.1.symm, hg.2.symm⟩
      repeat' (first | (guard_target =~ PWp _ _ _ _ _ _ _; first | (refine pwp_seq_k (fun K hK => ?_)) | (refine pwp_rg_then ?_) | (refine pwp_ret ?_) | (refine pwp_exit ?_) | ((refine pwp_cond_d (fun hcd => ?_) (fun hcd => ?_)) <;> (try simp only [hcP] at hcd) <;> (try exact cdT))) | (guard_target =~ rg _ _ _ _ _ _ _; first | (guard_target =~ rg _ _ _ (⟨_, .move _, _, _, _, some _⟩ :: _) _ _ _; first | (refine rg_gq rfl (h := ?_))) | (guard_target =~ rg _ _ _ (⟨_, .binOp _ _ _ _ _, _, _, _, some _⟩ :: _) _ _ _; first | (refine rg_gq rfl (h := ?_))) | (guard_target =~ rg _ _ _ (⟨_, .indexAddr _ _ _, _, _, _, some _⟩ :: _) _ _ _; first | (refine rg_gq rfl (h := ?_))) | (guard_target =~ rg _ _ _ (⟨_, .call ⟨.builtin .len, _, _⟩, _, _, _, some _⟩ :: _) _ _ _; first | (refine rg_gq rfl (h := ?_))) | (guard_target =~ rg _ _ _ (⟨_, .load _ _, _, _, _, some _⟩ :: _) _ _ _; first | (refine rg_gq rfl (h := ?_))) | (guard_target =~ rg _ _ _ [] _ _ _; first | (refine rg_end ?_)) | (refine rg_a rfl (h := ?_)) | (refine rg_v rfl (h := ?_))) | (guard_target =~ (_ ∨ _) ∧ _; first | ((refine end_d [] (by rw [Tryd.results102, Lf.res2]) (ale_2 ?_ ?_) ?_) <;> (try (first | exact aleT | exact stq (by with_reducible rfl) | exact stq (by rfl) | exact stq (by simp (disch := omega) only [go_sem, seval, ↓reduceIte, hU]))))) | (refine hK _ _ ?_; clear hK K) | (apply_assumption (exfalso := false) (symm := false)))
theorem begL_def (l : List Int) : begG l (min 30 l.length) 0 = ((begL l).1, (begL l).2) := by unfold begL; rfl
theorem rbegins (f q : Bool) (l : List Int) (f2 q2 f3 q3 : Bool) (h01 : ∀ x ∈ l, x = 0 ∨ x = 1) (hl : l.length ≤ 1000000000) : AEq Tryd.prog 102 [.sl f q (l.map intA), .sl f2 q2 (codesT.map intA), .sl f3 q3 (lensT.map intA)] [] (.tu [i64 (begL l).1, i64 (begL l).2]) [] := rbegins0 f q l f2 q2 f3 q3 h01 hl _ _ (begL_def l)
attribute [local irreducible] huM bitsL
theorem rdecode0 (f q : Bool) (b : List UInt8) (hb : b.length ≤ 100000) (d : List UInt8) (e : Int) (htot : huM (bitsL b) 0 0 [] = (d, e)) : AEq Tryd.prog 76 [.sl f q (b.map byteA)] [] (.tu [.sl false false (d.map byteA), i64 e]) [] := by
  have hbl := bitsL_len b
  refine acall_body Tryd.func76 rfl Tryd.ntmps76 (by simp) (fun hsc => ?_); simp only [Lf.enter, Nat.reduceAdd]; clear hsc
  have hU := True.intro
  repeat' (first | (guard_target =~ PWp _ _ _ _ _ _ _; first | (refine pwp_seq_k (fun K hK => ?_)) | (refine pwp_block ?_) | (refine pwp_rg_then ?_)) | (guard_target =~ rg _ _ _ _ _ _ _; first | (guard_target =~ rg _ _ _ [] _ _ _; first | (refine rg_end ?_)) | (refine rg_a rfl (h := ?_)) | (refine rg_v rfl (h := ?_)) | (refine rg_s rfl ?_)) | (guard_target =~ SOp _ _ _ _ _ _; first | (guard_target =~ SOp _ _ ⟨_, .call ⟨.value (.func 100), _, _⟩, _, _, _, none⟩ _ _ _; first | (refine n_call (f := 100) rfl Tryd.call100 (h := AEq.pure' agT rcodes (hq := ?_)))) | (guard_target =~ SOp _ _ ⟨_, .call ⟨.value (.func 101), _, _⟩, _, _, _, none⟩ _ _ _; first | (refine n_call (f := 101) rfl Tryd.call101 (h := AEq.pure' agT rlengths (hq := ?_)))) | (guard_target =~ SOp _ _ ⟨_, .call ⟨.value (.func 99), _, _⟩, _, _, _, none⟩ _ _ _; first | (refine n_call (f := 99) rfl Tryd.call99 (h := AEq.pure' agT (rbits _ _ _ (by omega)) (hq := ?_))))) | (refine hK _ _ ?_; clear hK K))
  refine pwp_row 7 5 1 (by decide) (by rfl) rfl rfl ?_
  refine pwp_loop_g [2, 3, 4, 7, 8, 9, 15, 16, 17, 18, 19, 20, 21, 22, 23, 24, 25, 26, 27, 28, 29, 30, 31, 32, 33] [0] (fun s : Nat × List UInt8 => [(4, .sl false false (((bitsL b).drop s.1).map intA)), (7, .row 0 s.2.length)]) (fun s => [.row s.2.length 5 1 (s.2.map byteA)]) (fun s => s.1 ≤ 8 * b.length ∧ s.2.length ≤ s.1 ∧ huM ((bitsL b).drop s.1) 0 0 s.2 = (d, e)) (fun s => 8 * b.length - s.1) (0, []) (fun _ => rfl) rfl rfl ⟨Nat.zero_le _, Nat.le_refl _, htot⟩ ?_ (by rfl) (by intro s i x h; simp only [List.mem_cons, Prod.mk.injEq, List.not_mem_nil, or_false] at h; rcases h with ⟨rfl, _⟩ | ⟨rfl, _⟩ <;> decide) ?_
  · (refine ⟨⟨_, sT, ?_⟩, ⟨_, sT, ?_⟩, trivial⟩ <;> (try (first | exact aleT)))
  · rintro ⟨a, o⟩ ⟨ha, ho, h0⟩
    dsimp only at ha ho h0
    simp only [mask, List.map_cons, List.map_nil, List.cons_append, List.nil_append]
    have h01 : ∀ x ∈ (bitsL b).drop a, x = 0 ∨ x = 1 := fun x hx => bits01 b x (List.mem_of_mem_drop hx)
    have hdl : ((bitsL b).drop a).length = 8 * b.length - a := by rw [List.length_drop, hbl]
    obtain ⟨hg1, hg2, hg3, hg4, hu⟩ := begL_hu h01 o
    rw [h0] at hu
    obtain ⟨⟨s, k⟩, hsk⟩ : ∃ r, begL ((bitsL b).drop a) = r := ⟨_, rfl⟩
    rw [hsk] at hu hg1 hg2 hg3 hg4
    dsimp only at hu hg1 hg2 hg3 hg4
    have hsk1 : (begL ((bitsL b).drop a)).1 = s := by rw [hsk]
    have hsk2 : (begL ((bitsL b).drop a)).2 = k := by rw [hsk]
    by_cases h256 : s = 256
    · subst h256
      rw [if_pos rfl] at hu
      obtain ⟨rfl, rfl⟩ : d = [] ∧ e = 11 := by simp only [Prod.mk.injEq] at hu; exact hu
      have hU := And.intro @hsk1 (@hsk2)
      repeat' (first | (guard_target =~ PWp _ _ _ _ _ _ _; first | (refine pwp_seq_k (fun K hK => ?_)) | (refine pwp_block ?_) | (refine pwp_rg_then ?_) | (refine pwp_ret ?_) | ((refine pwp_cond_d (fun hcd => ?_) (fun hcd => ?_)) <;> (try simp only [hcP] at hcd) <;> (try exact cdT))) | (guard_target =~ rg _ _ _ _ _ _ _; first | (guard_target =~ rg _ _ _ [] _ _ _; first | (refine rg_end ?_)) | (refine rg_a rfl (h := ?_)) | (refine rg_x rfl (hy := rfl) (h := ?_)) | (refine rg_v rfl (h := ?_)) | (refine rg_s rfl ?_)) | (guard_target =~ SOp _ _ _ _ _ _; first | (guard_target =~ SOp _ _ ⟨_, .call ⟨.value (.func 102), _, _⟩, _, _, _, none⟩ _ _ _; first | (refine n_call (f := 102) rfl Tryd.call102 (h := AEq.pure' agT (rbegins _ _ _ _ _ _ _ aoT aoT) (hq := ?_))))) | (guard_target =~ (_ ∨ _) ∧ _; first | ((refine end_d [] (by rw [Tryd.results76, Lf.res2]) (ale_2 ?_ ?_) ?_) <;> (try (first | exact aleT | exact stq (by with_reducible rfl) | exact stq (by rfl) | exact stq (by simp (disch := omega) only [go_sem, seval, ↓reduceIte, hU]))))) | (refine hK _ _ ?_; clear hK K))
    by_cases hneg : s < 0
    · rw [if_neg h256, if_pos hneg] at hu
      have hon := ones_iff h01
      by_cases h7 : 7 < ((bitsL b).drop a).length
      · rw [if_pos (.inl h7)] at hu
        obtain ⟨rfl, rfl⟩ : d = [] ∧ e = 10 := by simp only [Prod.mk.injEq] at hu; exact hu
        have hU := And.intro @hsk1 (@hsk2)
        repeat' (first | (guard_target =~ PWp _ _ _ _ _ _ _; first | (refine pwp_seq_k (fun K hK => ?_)) | (refine pwp_block ?_) | (refine pwp_rg_then ?_) | (refine pwp_ret ?_) | (refine pwp_skip ?_) | (refine pwp_exit ?_) | ((refine pwp_cond_d (fun hcd => ?_) (fun hcd => ?_)) <;> (try simp only [hcP] at hcd) <;> (try exact cdT))) | (guard_target =~ rg _ _ _ _ _ _ _; first | (guard_target =~ rg _ _ _ [] _ _ _; first | (refine rg_end ?_)) | (refine rg_a rfl (h := ?_)) | (refine rg_x rfl (hy := rfl) (h := ?_)) | (refine rg_v rfl (h := ?_)) | (refine rg_s rfl ?_)) | (guard_target =~ SOp _ _ _ _ _ _; first | (guard_target =~ SOp _ _ ⟨_, .call ⟨.value (.func 102), _, _⟩, _, _, _, none⟩ _ _ _; first | (refine n_call (f := 102) rfl Tryd.call102 (h := AEq.pure' agT (rbegins _ _ _ _ _ _ _ aoT aoT) (hq := ?_))))) | (guard_target =~ (_ ∨ _) ∧ _; first | ((refine end_d [] (by rw [Tryd.results76, Lf.res2]) (ale_2 ?_ ?_) ?_) <;> (try (first | exact aleT | exact stq (by with_reducible rfl) | exact stq (by rfl) | exact stq (by simp (disch := omega) only [go_sem, seval, ↓reduceIte, hU]))))) | (refine hK _ _ ?_; clear hK K) | (apply_assumption (exfalso := false) (symm := false)))
      · generalize hl : (bitsL b).drop a = l at *
        have hU := And.intro @hsk1 (@hsk2)
        repeat' (first | (guard_target =~ PWp _ _ _ _ _ _ _; first | (refine pwp_seq_k (fun K hK => ?_)) | (refine pwp_block ?_) | (refine pwp_rg_then ?_) | (refine pwp_skip ?_) | (refine pwp_exit ?_) | ((refine pwp_cond_d (fun hcd => ?_) (fun hcd => ?_)) <;> (try simp only [hcP] at hcd) <;> (try exact cdT))) | (guard_target =~ rg _ _ _ _ _ _ _; first | (guard_target =~ rg _ _ _ [] _ _ _; first | (refine rg_end ?_)) | (refine rg_a rfl (h := ?_)) | (refine rg_x rfl (hy := rfl) (h := ?_)) | (refine rg_v rfl (h := ?_)) | (refine rg_s rfl ?_)) | (guard_target =~ SOp _ _ _ _ _ _; first | (guard_target =~ SOp _ _ ⟨_, .call ⟨.value (.func 102), _, _⟩, _, _, _, none⟩ _ _ _; first | (refine n_call (f := 102) rfl Tryd.call102 (h := AEq.pure' agT (rbegins _ _ _ _ _ _ _ aoT aoT) (hq := ?_))))) | (refine hK _ _ ?_; clear hK K) | (apply_assumption (exfalso := false) (symm := false)))
        refine pwp_loop_e [2, 3, 10, 37, 38, 39, 40, 41, 42, 43, 44, 45, 46, 47] (fun i : Nat => [(10, i64 i)]) (fun i => [.row o.length 5 1 (o.map byteA)]) (fun i => i ≤ l.length ∧ ∀ j, j < i → ¬ l[j]? = some 0) (fun i => l.length - i) 0 ⟨Nat.zero_le _, fun j h => absurd h (Nat.not_lt_zero _)⟩ ?_ rfl ?_
        · have hU := True.intro
          (refine ⟨⟨_, sT, ?_⟩, trivial⟩ <;> (try (first | exact aleT)))
        · rintro i ⟨hi, hz⟩
          simp only [mask, List.map_cons, List.map_nil, List.cons_append, List.nil_append]
          by_cases hlt : i < l.length
          · obtain ⟨x, hx⟩ := ex_at hlt
            by_cases hx0 : x = 0
            · subst hx0
              rw [if_pos (.inr (fun h => absurd (hon.2.1 h 0 (List.mem_of_getElem? hx)) (by decide)))] at hu
              obtain ⟨rfl, rfl⟩ : d = [] ∧ e = 10 := by simp only [Prod.mk.injEq] at hu; exact hu
              have hU := True.intro
              repeat' (first | (guard_target =~ PWp _ _ _ _ _ _ _; first | (refine pwp_seq_k (fun K hK => ?_)) | (refine pwp_block ?_) | (refine pwp_rg_then ?_) | (refine pwp_ret ?_) | (refine pwp_skip ?_) | ((refine pwp_cond_d (fun hcd => ?_) (fun hcd => ?_)) <;> (try simp only [hcP] at hcd) <;> (try exact cdT))) | (guard_target =~ rg _ _ _ _ _ _ _; first | (guard_target =~ rg _ _ _ [] _ _ _; first | (refine rg_end ?_)) | (refine rg_a rfl (h := ?_)) | (refine rg_v rfl (h := ?_)) | (refine rg_s rfl ?_)) | (guard_target =~ SOp _ _ _ _ _ _; first | (guard_target =~ SOp _ _ ⟨_, .indexAddr _ _ _, _, _, _, none⟩ _ _ _; first | (refine n_index rfl (hK := ?_)))) | (guard_target =~ (_ ∨ _) ∧ _; first | ((refine end_d [] (by rw [Tryd.results76, Lf.res2]) (ale_2 ?_ ?_) ?_) <;> (try (first | exact aleT | exact stq (by with_reducible rfl) | exact stq (by rfl) | exact stq (by simp (disch := omega) only [go_sem, seval, ↓reduceIte, hU]))))) | (refine hK _ _ ?_; clear hK K))
            · have hz2 : ∀ j, j < i + 1 → ¬ l[j]? = some 0 := by
                intro j hj
                by_cases hji : j = i
                · subst hji; rw [hx]; intro h; exact hx0 (by simpa using h)
                · exact hz j (by omega)
              have hU := True.intro
              repeat' (first | (guard_target =~ PWp _ _ _ _ _ _ _; first | (refine pwp_seq_k (fun K hK => ?_)) | (refine pwp_block ?_) | (refine pwp_rg_then ?_) | (refine pwp_skip ?_) | ((refine pwp_cond_d (fun hcd => ?_) (fun hcd => ?_)) <;> (try simp only [hcP] at hcd) <;> (try exact cdT))) | (guard_target =~ rg _ _ _ _ _ _ _; first | (guard_target =~ rg _ _ _ [] _ _ _; first | (refine rg_end ?_)) | (refine rg_a rfl (h := ?_)) | (refine rg_v rfl (h := ?_)) | (refine rg_s rfl ?_)) | (guard_target =~ SOp _ _ _ _ _ _; first | (guard_target =~ SOp _ _ ⟨_, .indexAddr _ _ _, _, _, _, none⟩ _ _ _; first | (refine n_index rfl (hK := ?_)))) | (refine hK _ _ ?_; clear hK K))
              refine ⟨i + 1, ⟨by omega, hz2⟩, by omega, ?_, (by repeat' (first | exact agr_refl | refine agr_cons (by rfl) ?_)), (by first | rfl | (simp (disch := omega) only [go_sem, seval, ↓reduceIte, hU]; done) | (simp (disch := omega) only [go_sem, seval, ↓reduceIte, hU]; rfl))⟩
              (refine ⟨⟨_, sT, ?_⟩, trivial⟩ <;> (try (first | exact aleT)))
          · have hall : numBits l = 2 ^ l.length - 1 := hon.2.2 (fun x hx => by
              obtain ⟨j, hj⟩ := List.mem_iff_getElem?.1 hx
              have hjl := (List.getElem?_eq_some_iff.1 hj).1
              rcases h01 x hx with rfl | h
              · exact absurd hj (hz j (by omega))
              · exact h)
            rw [if_neg (by omega)] at hu
            obtain ⟨rfl, rfl⟩ : d = o ∧ e = 0 := by simp only [Prod.mk.injEq] at hu; exact hu
            have hU := True.intro
            repeat' (first | (guard_target =~ PWp _ _ _ _ _ _ _; first | (refine pwp_seq_k (fun K hK => ?_)) | (refine pwp_rg_then ?_) | (refine pwp_ret ?_) | (refine pwp_exit ?_) | ((refine pwp_cond_d (fun hcd => ?_) (fun hcd => ?_)) <;> (try simp only [hcP] at hcd) <;> (try exact cdT))) | (guard_target =~ rg _ _ _ _ _ _ _; first | (guard_target =~ rg _ _ _ [] _ _ _; first | (refine rg_end ?_)) | (refine rg_a rfl (h := ?_)) | (refine rg_v rfl (h := ?_))) | (guard_target =~ (_ ∨ _) ∧ _; first | ((refine end_d [] (by rw [Tryd.results76, Lf.res2]) (ale_2 ?_ ?_) ?_) <;> (try (first | exact aleT | exact stq (by with_reducible rfl) | exact stq (by rfl) | exact stq (by simp (disch := omega) only [go_sem, seval, ↓reduceIte, hU]))))) | (refine hK _ _ ?_; clear hK K) | (apply_assumption (exfalso := false) (symm := false)))
    · rw [if_neg h256, if_neg hneg] at hu
      obtain ⟨s, rfl⟩ : ∃ t : Nat, s = t := ⟨s.toNat, by omega⟩
      obtain ⟨k, rfl⟩ : ∃ t : Nat, k = t := ⟨k.toNat, by omega⟩
      rw [Int.toNat_natCast, Int.toNat_natCast, List.drop_drop] at hu
      have hs6 : s < 256 := by omega
      have hol : (o ++ [UInt8.ofNat s]).length = o.length + 1 := by rw [List.length_append]; rfl
      have hsn : (UInt8.ofNat s).toNat = s := by simp; omega
      have hap : List.map byteA o ++ [[AV.lit (.int .u8 (s : Int))]] = List.map byteA (o ++ [UInt8.ofNat s]) := by rw [List.map_append]; show _ = List.map byteA o ++ [[AV.lit (.int .u8 ((UInt8.ofNat s).toNat : Int))]]; rw [hsn]
      have hdd : List.drop k (List.map intA (List.drop a (bitsL b))) = List.map intA (List.drop (a + k) (bitsL b)) := by rw [← List.map_drop, List.drop_drop]
      have hU := And.intro @hsk1 ( And.intro @hsk2 (@hap))
      repeat' (first | (guard_target =~ PWp _ _ _ _ _ _ _; first | (refine pwp_seq_k (fun K hK => ?_)) | (refine pwp_block ?_) | (refine pwp_rg_then ?_) | (refine pwp_rg ?_) | (refine pwp_skip ?_) | ((refine pwp_cond_d (fun hcd => ?_) (fun hcd => ?_)) <;> (try simp only [hcP] at hcd) <;> (try exact cdT))) | (guard_target =~ rg _ _ _ _ _ _ _; first | (guard_target =~ rg _ _ _ [] _ _ _; first | (refine rg_end ?_)) | (refine rg_a rfl (h := ?_)) | (refine rg_x rfl (hy := rfl) (h := ?_)) | (refine rg_v rfl (h := ?_)) | (refine rg_s rfl ?_)) | (guard_target =~ SOp _ _ _ _ _ _; first | (guard_target =~ SOp _ _ ⟨_, .buildSlice _ _ _, _, _, _, none⟩ _ _ _; first | (refine n_lit rfl (he := by first | exact eo3 | exact eo4 | exact eo5 | exact eo22 | exact eo28 | exact eo53 | fail) (hK := ?_))) | (guard_target =~ SOp _ _ ⟨_, .call ⟨.builtin .append, _, _⟩, _, _, _, none⟩ _ _ _; first | (refine n_append_row rfl (he := by first | exact eo3 | exact eo4 | exact eo5 | exact eo22 | exact eo28 | exact eo53 | fail) (hK := ?_))) | (guard_target =~ SOp _ _ ⟨_, .slice _ _ _ _ _, _, _, _, none⟩ _ _ _; first | (refine n_slice rfl (hg := (fun _ => (by simp only [go_sem, seval, ↓reduceIte, hU] <;> rfl))) (hK := ?_))) | (guard_target =~ SOp _ _ ⟨_, .call ⟨.value (.func 102), _, _⟩, _, _, _, none⟩ _ _ _; first | (refine n_call (f := 102) rfl Tryd.call102 (h := AEq.pure' agT (rbegins _ _ _ _ _ _ _ aoT aoT) (hq := ?_))))) | (refine hK _ _ ?_; clear hK K) | (dsimp only [Lf.thenQ, Lf.blockQ]))
      refine ⟨(a + k, o ++ [UInt8.ofNat s]), ⟨by dsimp only; omega, by dsimp only; rw [hol]; omega, hu.symm⟩, by dsimp only; omega, ?_, (by repeat' (first | exact agr_refl | refine agr_cons (by rfl) ?_)), ?_⟩
      · dsimp only
        rw [hol]
        (refine ⟨⟨_, sT, ?_⟩, ⟨_, sT, ?_⟩, trivial⟩ <;> (try (first | exact aleT)))
        all_goals exact ale_eq (by rw [List.drop_drop])
      · dsimp only
        rw [hol]
        first | rfl | (simp only [go_sem]; done) | (simp (disch := omega) only [go_sem, seval, ↓reduceIte, hsk1, hsk2, hap]; done) | trace_state
theorem rdecode (f q : Bool) (b : List UInt8) (hb : b.length ≤ 100000) : AEq Tryd.prog 76 [.sl f q (b.map byteA)] [] (.tu [.sl false false ((huM (bitsL b) 0 0 []).1.map byteA), i64 (huM (bitsL b) 0 0 []).2]) [] := rdecode0 f q b hb _ _ rfl
end Go.Proofs.YtohbfcmmpaikhaaDoor

set_option linter.unusedVariables false
set_option linter.unusedSimpArgs false
namespace Go.Proofs.YtohbfcmmpaikhaaDoor
open Go Go.Lf Go.Proofs
attribute [local irreducible] Lf.rg Lf.ro Lf.PWp Lf.SOp Lf.ACall Lf.Scoped Lf.dg
set_option maxRecDepth 20000
set_option maxHeartbeats 4000000
end Go.Proofs.YtohbfcmmpaikhaaDoor

set_option linter.unusedVariables false
set_option linter.unusedSimpArgs false
namespace Go.Lf
open Go
end Go.Lf

set_option linter.unusedVariables false
set_option linter.unusedSimpArgs false
namespace Go.Proofs.YtohbfcmmpaikhaaDoor
open Go Go.Lf Go.Proofs
attribute [local irreducible] Lf.rg Lf.ro Lf.PWp Lf.SOp Lf.ACall Lf.Scoped Lf.dg Lf.dw
set_option maxRecDepth 20000
set_option maxHeartbeats 4000000
/-! bit by bit, of numbers from 0 on -/
theorem iandN (a b : Nat) (ha : a < 2 ^ 62) (hb : b < 2 ^ 62) : iand .i64 (a : Int) (b : Int) = ((a &&& b : Nat) : Int) := by
  show IntKind.i64.wrap ((BitVec.ofInt 64 (a : Int) &&& BitVec.ofInt 64 (b : Int)).toNat : Int) = _
  have e1 : BitVec.ofInt 64 (a : Int) = BitVec.ofNat 64 a := rfl
  have e2 : BitVec.ofInt 64 (b : Int) = BitVec.ofNat 64 b := rfl
  rw [e1, e2, BitVec.toNat_and, BitVec.toNat_ofNat, BitVec.toNat_ofNat, Nat.mod_eq_of_lt (by omega), Nat.mod_eq_of_lt (by omega)]
  have := Nat.and_le_left (n := a) (m := b)
  exact w64 (by omega)
def pwI (b : Int) : Int := 2 ^ b.toNat
theorem pwI_0 : pwI 0 = 1 := by decide
theorem pwI_bd {b : Int} (h1 : 1 ≤ b) (h8 : b ≤ 8) : 2 ≤ pwI b ∧ pwI b ≤ 256 := by
  obtain rfl | rfl | rfl | rfl | rfl | rfl | rfl | rfl : b = 1 ∨ b = 2 ∨ b = 3 ∨ b = 4 ∨ b = 5 ∨ b = 6 ∨ b = 7 ∨ b = 8 := by omega
  all_goals decide
theorem pwI_and {b n : Int} (h1 : 1 ≤ b) (h8 : b ≤ 8) (hn : 0 ≤ n) (hn2 : n ≤ 4294967296) : iand .i64 n (pwI b - 1) = n % pwI b := by
  obtain ⟨k, rfl⟩ : ∃ k : Nat, n = k := ⟨n.toNat, by omega⟩
  have hk : 2 ^ b.toNat ≤ 2 ^ 8 := Nat.pow_le_pow_right (by decide) (by omega)
  have hk0 : 0 < 2 ^ b.toNat := Nat.pow_pos (by decide)
  have e : pwI b - 1 = ((2 ^ b.toNat - 1 : Nat) : Int) := by
    unfold pwI
    have : (2 : Int) ^ b.toNat = ((2 ^ b.toNat : Nat) : Int) := by simp
    rw [this]; omega
  rw [e, iandN k _ (by omega) (by omega), Nat.and_two_pow_sub_one_eq_mod]
  unfold pwI
  simp
def byI (x : Int) : UInt8 := UInt8.ofNat x.toNat
def oneB (x : Int) : List UInt8 := [byI x]
def digF : Nat → Int → List UInt8
  | 0, n => oneB n
  | k + 1, n => if n < 128 then oneB n else oneB (128 + n % 128) ++ digF k (n / 128)
def pfxP (f b n : Int) : List UInt8 := if n < pwI b - 1 then oneB (f + n) else oneB (f + pwI b - 1) ++ digF 4 (n - (pwI b - 1))
attribute [local irreducible] pwI oneB digF pfxP
theorem pfull (b : Int) (h1 : 1 ≤ b) (h8 : b ≤ 8) : AEq Tryd.prog 73 [i64 b] [] (.tu [i64 (pwI b - 1), bl true]) [] := by
  have hp := pwI_bd h1 h8
  have hwr : IntKind.i64.wrap (IntKind.i64.wrap (2 ^ b.toNat) - 1) = pwI b - 1 := by
    have e : (2 : Int) ^ b.toNat = pwI b := by unfold pwI; rfl
    rw [e, w64 (n := pwI b) (by omega), w64 (by omega)]
  refine acall_body Tryd.func73 rfl Tryd.ntmps73 (by simp) (fun hsc => ?_); simp only [Lf.enter, Nat.reduceAdd]; clear hsc
  have hU := @hwr
  repeat' (first | (guard_target =~ PWp _ _ _ _ _ _ _; first | (refine pwp_seq_k (fun K hK => ?_)) | (refine pwp_rg_then ?_) | (refine pwp_ret ?_) | (refine pwp_skip ?_) | ((refine pwp_cond_d (fun hcd => ?_) (fun hcd => ?_)) <;> (try simp only [hcP] at hcd) <;> (try exact cdT))) | (guard_target =~ rg _ _ _ _ _ _ _; first | (guard_target =~ rg _ _ _ (⟨_, .binOp _ _ _ _ _, _, _, _, some _⟩ :: _) _ _ _; first | (refine rg_gq rfl (h := ?_))) | (guard_target =~ rg _ _ _ (⟨_, .move _, _, _, _, some _⟩ :: _) _ _ _; first | (refine rg_gq rfl (h := ?_))) | (guard_target =~ rg _ _ _ [] _ _ _; first | (refine rg_end ?_)) | (refine rg_a rfl (h := ?_)) | (refine rg_v rfl (h := ?_))) | (guard_target =~ (_ ∨ _) ∧ _; first | ((refine end_d [] (by rw [Tryd.results73, Lf.res2]) (ale_2 ?_ ?_) ?_) <;> (try (first | exact aleT | exact stq (by with_reducible rfl) | exact stq (by rfl) | exact stq (by simp (disch := omega) only [go_sem, seval, ↓reduceIte, hU]))))) | (refine hK _ _ ?_; clear hK K))
theorem rpower (b : Int) (h0 : 0 ≤ b) (h8 : b ≤ 28) : AEq Tryd.prog 75 [i64 b] [] (i64 (pwI b)) [] := by
  obtain ⟨k, rfl⟩ : ∃ k : Nat, b = k := ⟨b.toNat, by omega⟩
  refine acall_body Tryd.func75 rfl Tryd.ntmps75 (by simp) (fun hsc => ?_); simp only [Lf.enter, Nat.reduceAdd]; clear hsc
  have hU := True.intro
  repeat' (first | (guard_target =~ PWp _ _ _ _ _ _ _; first | (refine pwp_seq_k (fun K hK => ?_)) | (refine pwp_block ?_) | (refine pwp_rg_then ?_)) | (guard_target =~ rg _ _ _ _ _ _ _; first | (guard_target =~ rg _ _ _ [] _ _ _; first | (refine rg_end ?_)) | (refine rg_a rfl (h := ?_))) | (refine hK _ _ ?_; clear hK K))
  refine pwp_loop_e [3, 4, 5, 6, 7, 8, 9, 10, 11] (fun i : Nat => [(4, i64 i), (3, i64 (pwI i))]) (fun i => []) (fun i => i ≤ k) (fun i => k - i) 0 (Nat.zero_le _) ?_ rfl ?_
  · (refine ⟨⟨_, sT, ?_⟩, ⟨_, sT, ?_⟩, trivial⟩ <;> (try (first | exact aleT)))
    all_goals exact ale_eq (by rw [show (((0 : Nat) : Int)) = 0 from rfl, pwI_0])
  · rintro i hi
    simp only [mask, List.map_cons, List.map_nil, List.cons_append, List.nil_append]
    have hpb : 1 ≤ pwI (i : Int) ∧ pwI (i : Int) ≤ 268435456 := by
      have h5 : 2 ^ i ≤ 2 ^ 28 := Nat.pow_le_pow_right (by decide) (by omega)
      have h6 : 0 < 2 ^ i := Nat.pow_pos (by decide)
      have e : pwI (i : Int) = ((2 ^ i : Nat) : Int) := by unfold pwI; simp
      rw [e]; omega
    by_cases hlt : i < k
    · have hps : pwI ((i + 1 : Nat) : Int) = 2 * pwI (i : Int) := by
        unfold pwI
        rw [Int.toNat_natCast, Int.toNat_natCast, Int.pow_succ]; omega
      repeat' (first | (guard_target =~ PWp _ _ _ _ _ _ _; first | (refine pwp_seq_k (fun K hK => ?_)) | (refine pwp_block ?_) | (refine pwp_rg_then ?_) | (refine pwp_rg ?_) | (refine pwp_skip ?_) | ((refine pwp_cond_d (fun hcd => ?_) (fun hcd => ?_)) <;> (try simp only [hcP] at hcd) <;> (try exact cdT))) | (guard_target =~ rg _ _ _ _ _ _ _; first | (guard_target =~ rg _ _ _ [] _ _ _; first | (refine rg_end ?_)) | (refine rg_a rfl (h := ?_)) | (refine rg_v rfl (h := ?_))) | (refine hK _ _ ?_; clear hK K))
      refine ⟨i + 1, by omega, by omega, ?_, (by repeat' (first | exact agr_refl | refine agr_cons (by rfl) ?_)), (by first | rfl | (simp (disch := omega) only [go_sem, seval, ↓reduceIte, hU]; done) | (simp (disch := omega) only [go_sem, seval, ↓reduceIte, hU]; rfl))⟩
      (refine ⟨⟨_, sT, ?_⟩, ⟨_, sT, ?_⟩, trivial⟩ <;> (try (first | exact aleT)))
      all_goals exact ale_i hps.symm
    · have hik : i = k := by omega
      subst hik
      repeat' (first | (guard_target =~ PWp _ _ _ _ _ _ _; first | (refine pwp_seq_k (fun K hK => ?_)) | (refine pwp_rg_then ?_) | (refine pwp_ret ?_) | (refine pwp_exit ?_) | ((refine pwp_cond_d (fun hcd => ?_) (fun hcd => ?_)) <;> (try simp only [hcP] at hcd) <;> (try exact cdT))) | (guard_target =~ rg _ _ _ _ _ _ _; first | (guard_target =~ rg _ _ _ [] _ _ _; first | (refine rg_end ?_)) | (refine rg_a rfl (h := ?_)) | (refine rg_v rfl (h := ?_))) | (guard_target =~ (_ ∨ _) ∧ _; first | ((refine end_d [] (by rw [Tryd.results75, Lf.res1]) (ale_1 ?_) ?_) <;> (try (first | exact aleT | exact stq (by with_reducible rfl) | exact stq (by rfl) | exact stq (by simp (disch := omega) only [go_sem, seval, ↓reduceIte, hU]))))) | (refine hK _ _ ?_; clear hK K) | (apply_assumption (exfalso := false) (symm := false)))
end Go.Proofs.YtohbfcmmpaikhaaDoor

