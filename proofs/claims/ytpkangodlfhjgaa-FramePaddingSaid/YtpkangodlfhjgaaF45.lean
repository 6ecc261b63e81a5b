import Derived.Test.YtpkangodlfhjgaaF44
import Derived.Test.YtpkangodlfhjgaaLc
set_option linter.unusedVariables false
set_option linter.unusedSimpArgs false
namespace Go.Proofs.Ytpkangodlfhjgaa
open Go Go.Lf Go.Proofs
attribute [local irreducible] Lf.rg Lf.ro Lf.PWp Lf.SOp Lf.ACall Lf.Scoped Lf.dg Lf.dw
set_option maxRecDepth 20000
set_option maxHeartbeats 4000000
def pchL (rb bb : List UInt8) (i : Nat) : List UInt8 := rb.take (rb.length - i) ++ (bb.take i).reverse
theorem pch_0 (rb bb : List UInt8) : pchL rb bb 0 = rb := by unfold pchL; rw [Nat.sub_zero, List.take_length, List.take_zero]; exact List.append_nil _
theorem pch_len {rb bb : List UInt8} {i : Nat} (h1 : i ≤ rb.length) (h2 : i ≤ bb.length) : (pchL rb bb i).length = rb.length := by
  unfold pchL; rw [List.length_append, List.length_reverse, List.length_take, List.length_take]; omega
theorem pch_set {rb bb : List UInt8} {i : Nat} {x : UInt8} (h1 : i < rb.length) (hx : bb[i]? = some x) : (pchL rb bb i).set (rb.length - 1 - i) x = pchL rb bb (i + 1) := by
  unfold pchL
  have e : rb.take (rb.length - i) = rb.take (rb.length - (i + 1)) ++ [rb[rb.length - (i + 1)]'(by omega)] := by
    have := List.take_succ_eq_append_getElem (l := rb) (i := rb.length - (i + 1)) (by omega)
    rw [show rb.length - (i + 1) + 1 = rb.length - i from by omega] at this
    exact this
  rw [e, List.append_assoc, List.set_append_right _ _ (by rw [List.length_take]; omega)]
  congr 1
  rw [show rb.length - 1 - i - (rb.take (rb.length - (i + 1))).length = 0 from by rw [List.length_take]; omega]
  show x :: (bb.take i).reverse = _
  rw [take_snoc hx, List.reverse_append]; rfl
theorem pch_take {rb bb : List UInt8} {i k : Nat} (h1 : i ≤ rb.length) (hk : k ≤ rb.length - i) : (pchL rb bb i).take k = rb.take k := by
  unfold pchL
  rw [List.take_append_of_le_length (by rw [List.length_take]; omega), List.take_take]
  congr 1
  omega
theorem pch_getN {rb bb : List UInt8} {i a n : Nat} (h1 : i ≤ rb.length) (h2 : i ≤ bb.length) (h : a + n ≤ rb.length - i) : getN ((pchL rb bb i).drop a) n = getN (rb.drop a) n := by
  have hl := pch_len h1 h2
  rw [← getN_take _ a n (rb.length - i) h (by omega), ← getN_take rb a n (rb.length - i) h (by omega), pch_take h1 (Nat.le_refl _)]
theorem pch_ok {t g s : Int} {rb bb : List UInt8} {m : Nat} (h : fauM t g s rb = (0, 0)) (hm : (m : Int) ≤ max (padI t g rb) 0) (hb : m ≤ bb.length) : fauM t g s (pchL rb bb m) = (0, 0) ∧ rfM t g s (pchL rb bb m) = rfM t g s rb := by
  rcases bTF (c := hasB t g 8) with h8 | h8
  · obtain ⟨hL, hA, hP⟩ := fau_ok h
    have hP := hP h8
    have hk2 := kI_ah (t := t) (g := g)
    have hk : kI t g = 1 := f_t h8
    have hp : padI t g rb = getN rb 1 := f_t h8
    have hg0 := (getN_bd rb 1).1
    rw [hp] at hm
    have hml : m ≤ rb.length := by omega
    have hlen := pch_len hml hb
    have hge : getN (pchL rb bb m) 1 = getN rb 1 := by
      have := pch_getN (rb := rb) (bb := bb) (i := m) (a := 0) (n := 1) hml hb (by omega)
      rwa [List.drop_zero, List.drop_zero] at this
    have hf : fauM t g s (pchL rb bb m) = fauM t g s rb := by unfold fauM; rw [hlen, hge]
    refine ⟨hf.trans h, ?_⟩
    have hp' : padI t g (pchL rb bb m) = padI t g rb := by unfold padI; rw [hge]
    have hd : ∀ k, rfD t g (pchL rb bb m) k = rfD t g rb k := fun k => by
      unfold rfD
      rw [if_pos h8, if_pos h8, hlen, hge, pch_take hml (by omega)]
    have hn : kN t g = 1 := f_t h8
    rcases has8_t h8 with rfl | rfl | rfl
    · have h32 := hasB_n32 (t := 0) (g := g) (by decide)
      unfold rfM
      rw [if_neg (by decide), if_neg (by decide), if_neg (by decide), if_neg (by decide), if_neg (by decide), if_neg (by rw [h32]; simp), if_neg (by decide), if_neg (by decide), if_neg (by decide), if_neg (by decide), if_neg (by decide), if_neg (by rw [h32]; simp), hp', hd]
    · rcases bTF (c := hasB 1 g 32) with h32 | h32
      · have ha : ahI 1 g = 6 := by unfold ahI; rw [hk, f_t h32, if_neg (by decide)]; rfl
        have h4 : u4 (pchL rb bb m) (1 : Nat) = u4 rb (1 : Nat) := pch_getN (n := 4) hml hb (by omega)
        have h1 : u1 (pchL rb bb m) ((1 : Nat) + 4) = u1 rb ((1 : Nat) + 4) := pch_getN (a := 5) (n := 1) hml hb (by omega)
        unfold rfM
        rw [if_neg (by decide), if_neg (by decide), if_neg (by decide), if_neg (by decide), if_neg (by decide), if_pos (.inr h32), if_neg (by decide), if_neg (by decide), if_neg (by decide), if_neg (by decide), if_neg (by decide), if_pos (.inr h32), hp', hd, hn, h4, h1]
      · unfold rfM
        rw [if_neg (by decide), if_neg (by decide), if_neg (by decide), if_neg (by decide), if_neg (by decide), if_neg (by rw [h32]; simp), if_neg (by decide), if_neg (by decide), if_neg (by decide), if_neg (by decide), if_neg (by decide), if_neg (by rw [h32]; simp), hp', hd]
    · have ha : ahI 5 g = 5 := by unfold ahI; rw [hk, f_f (hasB_n32 (by decide)), if_pos rfl]; rfl
      have h4 : u4 (pchL rb bb m) (1 : Nat) = u4 rb (1 : Nat) := pch_getN (n := 4) hml hb (by omega)
      unfold rfM
      rw [if_neg (by decide), if_neg (by decide), if_neg (by decide), if_neg (by decide), if_pos rfl, if_neg (by decide), if_neg (by decide), if_neg (by decide), if_neg (by decide), if_pos rfl, hp', hd, hn, h4]
  · have hp : padI t g rb = -1 := f_f h8
    obtain rfl : m = 0 := by rw [hp] at hm; omega
    rw [pch_0]; exact ⟨h, rfl⟩
end Go.Proofs.Ytpkangodlfhjgaa
