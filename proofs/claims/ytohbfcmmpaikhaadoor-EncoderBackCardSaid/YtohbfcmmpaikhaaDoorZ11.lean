import Derived.Test.YtohbfcmmpaikhaaDoorZ09
import Derived.Test.YtohbfcmmpaikhaaDoorZ08
import Derived.Test.YtohbfcmmpaikhaaDoorLc
set_option linter.unusedVariables false
set_option linter.unusedSimpArgs false
namespace Go.Proofs.YtohbfcmmpaikhaaDoor
open Go Go.Lf Go.Proofs
attribute [local irreducible] Lf.rg Lf.ro Lf.PWp Lf.SOp Lf.ACall Lf.Scoped Lf.dg Lf.dw
set_option maxRecDepth 20000
set_option maxHeartbeats 4000000
theorem slG_bd (b : List UInt8) (most : Int) : 0 ≤ (slG b most).2.2.1 ∧ (slG b most).2.2.1 ≤ (b.length : Int) := by
 have hbd := pgG_bd b (c := 7) (by decide) (by decide)
 rcases slG_cases b most with ⟨h1, h2⟩ | ⟨h1, h0, h3, h2⟩ | ⟨h1, h0, h3, h4, h2⟩ | ⟨h1, h0, h3, h4⟩
 ·rw [h2]; dsimp only; omega
 ·rw [h2]; dsimp only; omega
 ·rw [h2]; dsimp only; omega
 ·obtain ⟨k0, hk⟩ : ∃ j : Nat, (pgG b 7).2.1 = j := ⟨(pgG b 7).2.1.toNat, by omega⟩
  obtain ⟨n0, hn⟩ : ∃ j : Nat, (pgG b 7).1 = j := ⟨(pgG b 7).1.toNat, by omega⟩
  have h40 := h4
  rw [hk, hn] at h40
  cases hh : hiB b with
  | false => rw [slG_lit h1 h3 h4 hk hn hh]; dsimp only; omega
  | true =>
   by_cases h5 : (huM (bitsL (cutB b k0 n0)) 0 0 []).2 = 0
   ·rw [slG_cod h1 h3 h4 hk hn hh h5]; dsimp only; omega
   ·rw [slG_bad h1 h3 h4 hk hn hh h5]; dsimp only; omega
structure Rp where
 (k i : Int) (nm : List UInt8) (ns : Bool) (vl : List UInt8) (vs : Bool) (sz n e : Int)
def rpNo (e : Int) : Rp := ⟨0, 0, [], false, [], false, 0, 0, e⟩
def rgV (b : List UInt8) (k i : Int) (nm : List UInt8) (ns : Bool) (a : Nat) : Rp :=
 if (slG (b.drop a) (b.length : Int)).2.2.2 ≠ 0 then rpNo (slG (b.drop a) (b.length : Int)).2.2.2
 else ⟨k, i, nm, ns, (slG (b.drop a) (b.length : Int)).1, (slG (b.drop a) (b.length : Int)).2.1, 0, (a : Int) + (slG (b.drop a) (b.length : Int)).2.2.1, 0⟩
def rgN (b : List UInt8) (k : Int) (a : Nat) : Rp :=
 if (slG (b.drop a) (b.length : Int)).2.2.2 ≠ 0 then rpNo (slG (b.drop a) (b.length : Int)).2.2.2
 else rgV b k 0 (slG (b.drop a) (b.length : Int)).1 (slG (b.drop a) (b.length : Int)).2.1 (a + (slG (b.drop a) (b.length : Int)).2.2.1.toNat)
def rgK (b : List UInt8) (k : Int) (p : Int × Int × Int) : Rp :=
 if p.2.2 ≠ 0 then rpNo p.2.2
 else if k = 5 then ⟨5, 0, [], false, [], false, p.1, p.2.1, 0⟩
 else if k = 1 then (if p.1 = 0 then rpNo 12 else ⟨1, p.1, [], false, [], false, 0, p.2.1, 0⟩)
 else if p.1 = 0 then rgN b k p.2.1.toNat
 else rgV b k p.1 [] false p.2.1.toNat
def rgM (b : List UInt8) : Rp := match b[0]? with
 | none => rpNo 3
 | some x => rgK b (kindM x.toNat) (pgG b (biI (kindM x.toNat)))
theorem rgM_none {b : List UInt8} (h : b[0]? = none) : rgM b = rpNo 3 := by rw [rgM, h]
theorem rgM_some {b : List UInt8} {x : UInt8} {k : Int} {p : Int × Int × Int} (h : b[0]? = some x) (hk : kindM x.toNat = k) (hp : pgG b (biI k) = p) : rgM b = rgK b k p := by rw [rgM, h]; dsimp only; rw [hk, hp]
theorem rgK_e {b : List UInt8} {k n j e : Int} (h : e ≠ 0) : rgK b k (n, j, e) = rpNo e := by rw [rgK, if_pos h]
theorem rgK_5 {b : List UInt8} {n j : Int} : rgK b 5 (n, j, 0) = ⟨5, 0, [], false, [], false, n, j, 0⟩ := rfl
theorem rgK_10 {b : List UInt8} {j : Int} : rgK b 1 (0, j, 0) = rpNo 12 := rfl
theorem rgK_1 {b : List UInt8} {n j : Int} (h : ¬ n = 0) : rgK b 1 (n, j, 0) = ⟨1, n, [], false, [], false, 0, j, 0⟩ := by
 rw [rgK, if_neg (by simp), if_neg (by decide), if_pos rfl, if_neg h]
theorem rgK_n {b : List UInt8} {k : Int} {j : Nat} (h5 : k ≠ 5) (h1 : k ≠ 1) : rgK b k (0, j, 0) = rgN b k j := by
 rw [rgK, if_neg (by simp), if_neg h5, if_neg h1, if_pos rfl, Int.toNat_natCast]
theorem rgK_v {b : List UInt8} {k n : Int} {j : Nat} (h5 : k ≠ 5) (h1 : k ≠ 1) (h : ¬ n = 0) : rgK b k (n, j, 0) = rgV b k n [] false j := by
 rw [rgK, if_neg (by simp), if_neg h5, if_neg h1, if_neg h, Int.toNat_natCast]
theorem rgV_e {b : List UInt8} {k i : Int} {nm : List UInt8} {ns : Bool} {a : Nat} {t : List UInt8} {s : Bool} {j e : Int} (h : slG (b.drop a) (b.length : Int) = (t, s, j, e)) (he : e ≠ 0) : rgV b k i nm ns a = rpNo e := by
 rw [rgV, h, if_pos he]
theorem rgV_ok {b : List UInt8} {k i : Int} {nm : List UInt8} {ns : Bool} {a : Nat} {t : List UInt8} {s : Bool} {j : Int} (h : slG (b.drop a) (b.length : Int) = (t, s, j, 0)) : rgV b k i nm ns a = ⟨k, i, nm, ns, t, s, 0, (a : Int) + j, 0⟩ := by
 rw [rgV, h, if_neg (by simp)]
theorem rgN_e {b : List UInt8} {k : Int} {a : Nat} {t : List UInt8} {s : Bool} {j e : Int} (h : slG (b.drop a) (b.length : Int) = (t, s, j, e)) (he : e ≠ 0) : rgN b k a = rpNo e := by
 rw [rgN, h, if_pos he]
theorem rgN_ok {b : List UInt8} {k : Int} {a : Nat} {t : List UInt8} {s : Bool} {j : Nat} (h : slG (b.drop a) (b.length : Int) = (t, s, (j : Int), 0)) : rgN b k a = rgV b k 0 t s (a + j) := by
 rw [rgN, h, if_neg (by simp)]; dsimp only; rw [Int.toNat_natCast]
theorem kindM_in {x : Int} (h0 : 0 ≤ x) : kindM x = 1 ∨ kindM x = 2 ∨ kindM x = 3 ∨ kindM x = 4 ∨ kindM x = 5 := by
 unfold kindM
 split
 ·exact .inl rfl
 split
 ·exact .inr (.inl rfl)
 split
 ·exact .inr (.inr (.inr (.inr rfl)))
 split
 ·exact .inr (.inr (.inr (.inl rfl)))
 ·exact .inr (.inr (.inl rfl))
theorem forms_at {k : Int} (h : k = 1 ∨ k = 2 ∨ k = 3 ∨ k = 4 ∨ k = 5) : ∃ tl, List.drop (k.toNat * 2) [AV.lit (.int .i64 0), AV.lit (.int .i64 0), AV.lit (.int .i64 128), AV.lit (.int .i64 7), AV.lit (.int .i64 64), AV.lit (.int .i64 6), AV.lit (.int .i64 0), AV.lit (.int .i64 4), AV.lit (.int .i64 16), AV.lit (.int .i64 4), AV.lit (.int .i64 32), AV.lit (.int .i64 5)] = i64 (frI k) :: i64 (biI k) :: tl := by
 rcases h with rfl | rfl | rfl | rfl | rfl
 all_goals exact ⟨_, rfl⟩
theorem biI_bd {k : Int} (h : k = 1 ∨ k = 2 ∨ k = 3 ∨ k = 4 ∨ k = 5) : 4 ≤ biI k ∧ biI k ≤ 7 := by
 rcases h with rfl | rfl | rfl | rfl | rfl
 all_goals decide
theorem biI_5 : biI 5 = 5 := by decide
theorem biI_1 : biI 1 = 7 := by decide
theorem txB_1 : txB 1 = false := by decide
theorem txB_m {k : Int} (h : k = 1 ∨ k = 2 ∨ k = 3 ∨ k = 4 ∨ k = 5) (h1 : k ≠ 1) (h5 : k ≠ 5) : txB k = true := by
 obtain rfl | rfl | rfl : k = 2 ∨ k = 3 ∨ k = 4 := by omega
 all_goals decide
attribute [local irreducible] pgG slG kindM frI biI txB
end Go.Proofs.YtohbfcmmpaikhaaDoor

