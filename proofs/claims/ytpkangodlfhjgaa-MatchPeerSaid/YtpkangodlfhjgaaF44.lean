import Derived.Test.YtpkangodlfhjgaaF43
import Derived.Test.YtpkangodlfhjgaaLc
set_option linter.unusedVariables false
set_option linter.unusedSimpArgs false
namespace Go.Proofs.Ytpkangodlfhjgaa
open Go Go.Lf Go.Proofs
attribute [local irreducible] Lf.rg Lf.ro Lf.PWp Lf.SOp Lf.ACall Lf.Scoped Lf.dg Lf.dw
set_option maxRecDepth 20000
set_option maxHeartbeats 4000000
theorem bqT (x : Bool) : (x == x) = true := by simp
def rfR (t g s : Int) (b : List UInt8) : Fm := if fauM t g s b = (0, 0) then rfM t g s b else fm0
theorem fau_z {t g s : Int} {b : List UInt8} (h : (fauM t g s b).1 = 0) : fauM t g s b = (0, 0) := by
  unfold fauM at h ⊢
  repeat' split at h
  all_goals first | (exact absurd h (by decide)) | (simp only [*, if_true, if_false]; done) | skip
  all_goals (repeat' split)
  all_goals first | rfl | (exfalso; simp_all; done)
theorem par_all (t g s : Int) (b : List UInt8) : (parM t g s b).2 = fauM t g s b ∧ gm (parM t g s b).1 = gm (rfR t g s b) := by
  unfold rfR
  by_cases h : fauM t g s b = (0, 0)
  · obtain ⟨h1, h2⟩ := par_ok h
    rw [if_pos h, h1, h2, h]; exact ⟨rfl, rfl⟩
  · rw [if_neg h, par_no h]; exact ⟨rfl, rfl⟩
theorem rfparse (w t g s : Int) (r f : Bool) (b : List UInt8) (hg0 : 0 ≤ g) (hg1 : g < 256) (hb : b.length ≤ 1000000000) : AEq Try.prog 17 [.ag [i64 w, i64 t, i64 g, i64 s, bl r, .sl f false (b.map byteA)]] [] (.tu [.ag (fmA (rfR t g s b)), .ag [i64 (fauM t g s b).1, i64 (fauM t g s b).2]]) [] := by
  by_cases h : fauM t g s b = (0, 0)
  · rw [show rfR t g s b = rfM t g s b from if_pos h, h]
    exact rfp_ok w t g s r f b hg0 hg1 hb h
  · rw [show rfR t g s b = fm0 from if_neg h]
    exact rfp_fault w t g s r f b hg0 hg1 hb (fun e => h (fau_z e))
theorem byL_len (b : List UInt8) (a n : Int) : (byL b a n).length ≤ b.length := by
  unfold byL
  split
  · rw [List.length_take, List.length_drop]; omega
  · exact Nat.zero_le _
theorem fparL_len (b : List UInt8) : (parL b).length ≤ b.length := by
  unfold parL
  split
  · rw [parS_len]; omega
  · exact Nat.zero_le _
theorem parM_len (t g s : Int) (b : List UInt8) : (parM t g s b).1.d.length ≤ b.length ∧ (parM t g s b).1.st.length ≤ b.length := by
  have h1 := byL_len b
  have h2 := fparL_len b
  unfold parM
  split
  · exact ⟨Nat.zero_le _, Nat.zero_le _⟩
  · split
    · exact ⟨Nat.zero_le _, Nat.zero_le _⟩
    · unfold insM
      dsimp only
      repeat' split
      all_goals (refine ⟨?_, ?_⟩ <;> (first | exact h1 _ _ | exact h2 | exact Nat.zero_le _))
end Go.Proofs.Ytpkangodlfhjgaa
