import Derived.Test.YtpkangodlfhjgaaA03
set_option linter.unusedVariables false
set_option linter.unusedSimpArgs false
namespace Go.Proofs.Ytpkangodlfhjgaa
open Go Go.Lf Go.Proofs
attribute [local irreducible] Lf.rg Lf.ro Lf.PWp Lf.SOp Lf.ACall Lf.Scoped Lf.dg
set_option maxRecDepth 20000
set_option maxHeartbeats 4000000
theorem putL_len (b : List UInt8) (n size : Int) : (putL b n size).length ≤ b.length + 4 := by
  unfold putL
  split
  · rename_i h
    have : okS size = true := by
      cases ho : okS size with
      | true => rfl
      | false => rw [putE, if_pos ho] at h; omega
    simp only [okS, Bool.and_eq_true, decide_eq_true_eq] at this
    rw [List.length_append, beB_len]; omega
  · simp
end Go.Proofs.Ytpkangodlfhjgaa
