import Derived.Test.YtohbfcmmpaikhaaDoorZ07
import Derived.Test.YtohbfcmmpaikhaaDoorTy
import Derived.Test.YtohbfcmmpaikhaaDoorLc
import Derived.Test.YtohbfcmmpaikhaaDoorZ06
import Derived.Test.YtohbfcmmpaikhaaDoorZ04
set_option linter.unusedVariables false
set_option linter.unusedSimpArgs false
namespace Go.Proofs.YtohbfcmmpaikhaaDoor
open Go Go.Lf Go.Proofs
attribute [local irreducible] Lf.rg Lf.ro Lf.PWp Lf.SOp Lf.ACall Lf.Scoped Lf.dg
set_option maxRecDepth 20000
set_option maxHeartbeats 4000000
/-! what is put is got -/
theorem pw7s (a : Nat) : pwI (7 * ((a + 1 : Nat) : Int)) = 128 * pwI (7 * (a : Int)) := by
 unfold pwI
 have e1 : (7 * ((a + 1 : Nat) : Int)).toNat = 7 * a + 7 := by omega
 have e2 : (7 * (a : Int)).toNat = 7 * a := by omega
 rw [e1, e2, Int.pow_add]
 have : (2 : Int) ^ 7 = 128 := by decide
 rw [this, Int.mul_comm]
theorem pw7p (a : Nat) : 1 ≤ pwI (7 * (a : Int)) := by
 unfold pwI
 have e : ((2 : Int) ^ (7 * (a : Int)).toNat) = ((2 ^ (7 * (a : Int)).toNat : Nat) : Int) := by simp
 rw [e]
 have := Nat.pow_pos (n := (7 * (a : Int)).toNat) (show 0 < 2 by decide)
 omega
theorem pgF_dig : ∀ (k a : Nat) (m n0 : Int) (p z : List UInt8), p.length = a + 1 → 0 ≤ m → m < 128 ^ (k + 1) → n0 + m * pwI (7 * (a : Int)) ≤ 2147483647 → pgF (p ++ (digF k m ++ z)) (k + 1) a n0 = (n0 + m * pwI (7 * (a : Int)), (a : Int) + 1 + ((digF k m).length : Int), 0) := by
 have last : ∀ (k a : Nat) (m n0 : Int) (p z : List UInt8), p.length = a + 1 → 0 ≤ m → m < 128 → n0 + m * pwI (7 * (a : Int)) ≤ 2147483647 → pgF (p ++ (oneB m ++ z)) (k + 1) a n0 = (n0 + m * pwI (7 * (a : Int)), (a : Int) + 1 + ((oneB m).length : Int), 0) := by
  intro k a m n0 p z hp h0 h1 hn
  have hx : (p ++ (oneB m ++ z))[a + 1]? = some (byI m) := by
   rw [List.getElem?_append_right (by omega), hp, Nat.sub_self]; rfl
  have hv := byI_val h0 (show m ≤ 255 by omega)
  have hmm : ((byI m).toNat : Int) % 128 = m := by omega
  rw [pgF_end hx (by omega) (by rw [hmm]; omega), hmm, oneB_len]
  simp only [Prod.mk.injEq, and_true, true_and]
  omega
 intro k
 induction k with
 | zero => intro a m n0 p z hp h0 h1 hn; exact last 0 a m n0 p z hp h0 (by simpa using h1) hn
 | succ k ih =>
  intro a m n0 p z hp h0 h1 hn
  by_cases hlt : m < 128
  ·rw [digF_lt hlt]; exact last (k + 1) a m n0 p z hp h0 hlt hn
  ·rw [digF_ge hlt]
   have hv := byI_val (x := 128 + m % 128) (by omega) (by omega)
   have hx : (p ++ (oneB (128 + m % 128) ++ digF k (m / 128) ++ z))[a + 1]? = some (byI (128 + m % 128)) := by
    rw [List.getElem?_append_right (by omega), hp, Nat.sub_self]; rfl
   have hmm : ((byI (128 + m % 128)).toNat : Int) % 128 = m % 128 := by omega
   have hs : n0 + m % 128 * pwI (7 * (a : Int)) + m / 128 * pwI (7 * ((a + 1 : Nat) : Int)) = n0 + m * pwI (7 * (a : Int)) := by
    rw [pw7s]
    have e : m / 128 * (128 * pwI (7 * (a : Int))) = (128 * (m / 128)) * pwI (7 * (a : Int)) := by rw [← Int.mul_assoc, Int.mul_comm (m / 128) 128]
    rw [e, Int.add_assoc, ← Int.add_mul]
    congr 2; omega
   rw [pgF_more hx (by omega), hmm]
   rw [Int.pow_succ] at h1
   have hp2 : (p ++ oneB (128 + m % 128)).length = a + 1 + 1 := by rw [List.length_append, oneB_len, hp]
   have h3 := ih (a + 1) (m / 128) (n0 + m % 128 * pwI (7 * (a : Int))) (p ++ oneB (128 + m % 128)) z hp2 (by omega) (by omega) (by rw [hs]; exact hn)
   rw [hs] at h3
   rw [show p ++ (oneB (128 + m % 128) ++ digF k (m / 128) ++ z) = p ++ oneB (128 + m % 128) ++ (digF k (m / 128) ++ z) by simp [List.append_assoc], h3, List.length_append, oneB_len]
   simp only [Prod.mk.injEq, and_true, true_and]
   omega
theorem pg_back {f c n : Int} (z : List UInt8) (h1 : 1 ≤ c) (h8 : c ≤ 8) (h0 : 0 ≤ f) (h255 : f ≤ 255) (hf : f % pwI c = 0) (hn0 : 0 ≤ n) (hn1 : n ≤ 2147483647) : pgG (pfxP f c n ++ z) c = (n, ((pfxP f c n).length : Int), 0) := by
 have hp := pwI_bd h1 h8
 have hfp : ∀ m, 0 ≤ m → m < pwI c → (f + m) % pwI c = m := by
  intro m hm0 hm1
  rw [Int.add_emod, hf, Int.zero_add, Int.emod_emod_of_dvd _ (Int.dvd_refl _), Int.emod_eq_of_lt hm0 hm1]
 by_cases hlt : n < pwI c - 1
 ·have hle := (pwI_or h1 h8 hf h0 h255 hn0 (by omega)).2
  rw [pfxP_lt hlt]
  have hx : (oneB (f + n) ++ z)[0]? = some (byI (f + n)) := rfl
  have hv := byI_val (x := f + n) (by omega) (by omega)
  have hm := hfp n hn0 (by omega)
  rw [pgG_lt hx (by rw [hv, hm]; exact hlt), hv, hm, oneB_len]; rfl
 ·have hle := (pwI_or (n := pwI c - 1) h1 h8 hf h0 h255 (by omega) (by omega)).2
  rw [pfxP_ge hlt]
  have hx : (oneB (f + pwI c - 1) ++ digF 4 (n - (pwI c - 1)) ++ z)[0]? = some (byI (f + pwI c - 1)) := rfl
  have hv := byI_val (x := f + pwI c - 1) (by omega) (by omega)
  have hm := hfp (pwI c - 1) (by omega) (by omega)
  have hm2 : ((byI (f + pwI c - 1)).toNat : Int) % pwI c = pwI c - 1 := by rw [hv, show f + pwI c - 1 = f + (pwI c - 1) from by omega, hm]
  have h70 : pwI (7 * ((0 : Nat) : Int)) = 1 := by decide
  rw [pgG_ge hx (by rw [hm2]; omega), hm2, List.append_assoc, pgF_dig 4 0 _ _ _ _ (oneB_len _) (by omega) (by omega) (by rw [h70]; omega), h70, List.length_append, oneB_len]
  simp only [Prod.mk.injEq, and_true, true_and]
  omega
theorem pfx_first {f c n : Int} (h1 : 1 ≤ c) (h8 : c ≤ 8) (h0 : 0 ≤ f) (h255 : f ≤ 255) (hf : f % pwI c = 0) (hn0 : 0 ≤ n) : ∃ x : UInt8, ∃ r, pfxP f c n = x :: r ∧ f ≤ (x.toNat : Int) ∧ (x.toNat : Int) < f + pwI c := by
 have hp := pwI_bd h1 h8
 by_cases hlt : n < pwI c - 1
 ·have hle := (pwI_or h1 h8 hf h0 h255 hn0 (by omega)).2
  have hv := byI_val (x := f + n) (by omega) (by omega)
  rw [pfxP_lt hlt]
  exact ⟨byI (f + n), [], rfl, by omega, by omega⟩
 ·have hle := (pwI_or (n := pwI c - 1) h1 h8 hf h0 h255 (by omega) (by omega)).2
  have hv := byI_val (x := f + pwI c - 1) (by omega) (by omega)
  rw [pfxP_ge hlt]
  exact ⟨byI (f + pwI c - 1), digF 4 (n - (pwI c - 1)), rfl, by omega, by omega⟩
end Go.Proofs.YtohbfcmmpaikhaaDoor

set_option linter.unusedVariables false
set_option linter.unusedSimpArgs false
namespace Go.Proofs.YtohbfcmmpaikhaaDoor
open Go Go.Lf Go.Proofs
attribute [local irreducible] Lf.rg Lf.ro Lf.PWp Lf.SOp Lf.ACall Lf.Scoped Lf.dg Lf.dw
set_option maxRecDepth 20000
set_option maxHeartbeats 4000000
section
variable {P : Program} {N : Nat} {o : Oper} {Γ : Env} {σ : Sto} {K : AV → Sto → Prop} {x y : Operand} {ts : Array TypeId} {k k' : IntKind} {a b : Int}
theorem n_max_l (ho : o.op = .call { callee := .builtin .max, args := #[x, y], argTypes := ts }) (hx : ev Γ x = .lit (.int k a)) (hy : ev Γ y = .lit (.int k' b)) (h : b ≤ a) (hK : K (.lit (.int k a)) σ) : SOp P N o Γ σ K := by
 refine SOp.pure (.lit (.int k a)) (fun ρ w ac hf hr => ⟨.int k a, ?_, rfl⟩) hK
 have e1 := hf.lit hx
 have e2 := hf.lit hy
 have h2 : ¬ b > a := by omega
 simp [execOp, ho, resolve, invoke, builtin, Builtin.max_, Builtin.max2, e1, e2, h2]
theorem n_max_r (ho : o.op = .call { callee := .builtin .max, args := #[x, y], argTypes := ts }) (hx : ev Γ x = .lit (.int k a)) (hy : ev Γ y = .lit (.int k' b)) (h : a ≤ b) (hK : K (.lit (.int k b)) σ) : SOp P N o Γ σ K := by
 refine SOp.pure (.lit (.int k b)) (fun ρ w ac hf hr => ⟨.int k b, ?_, rfl⟩) hK
 have e1 := hf.lit hx
 have e2 := hf.lit hy
 by_cases h2 : b > a
 ·simp [execOp, ho, resolve, invoke, builtin, Builtin.max_, Builtin.max2, e1, e2, h2]
 ·obtain rfl : a = b := by omega
  simp [execOp, ho, resolve, invoke, builtin, Builtin.max_, Builtin.max2, e1, e2]
theorem n_max_m (ho : o.op = .call { callee := .builtin .max, args := #[x, y], argTypes := ts }) (hx : ev Γ x = .lit (.int k a)) (hy : ev Γ y = .lit (.int k b)) (hK : K (.lit (.int k (max a b))) σ) : SOp P N o Γ σ K := by
 by_cases h : b ≤ a
 ·rw [show max a b = a from by omega] at hK
  exact n_max_l ho hx hy h hK
 ·rw [show max a b = b from by omega] at hK
  exact n_max_r ho hx hy (by omega) hK
end
end Go.Proofs.YtohbfcmmpaikhaaDoor

set_option linter.unusedVariables false
set_option linter.unusedSimpArgs false
namespace Go.Proofs.YtohbfcmmpaikhaaDoor
open Go Go.Lf Go.Proofs
attribute [local irreducible] Lf.rg Lf.ro Lf.PWp Lf.SOp Lf.ACall Lf.Scoped Lf.dg Lf.dw
set_option maxRecDepth 20000
set_option maxHeartbeats 4000000
/-! the greater of two by n_max_m -/
def slB (s : Bool) (l : List UInt8) : List UInt8 := if s then rowB (encL l) else l
def slF (s : Bool) : Int := if s then 128 else 0
def slP (s : Bool) (l : List UInt8) : List UInt8 := pfxP (slF s) 7 ((slB s l).length : Int) ++ slB s l
theorem slP_f (l : List UInt8) : slP false l = pfxP 0 7 (l.length : Int) ++ l := rfl
theorem slP_t (l : List UInt8) : slP true l = pfxP 128 7 ((rowB (encL l)).length : Int) ++ rowB (encL l) := rfl
theorem enc_bd (l : List UInt8) : (rowB (encL l)).length ≤ 4 * l.length := by
 have h1 := encL_len l
 rw [rowB_len]; omega
theorem pfxP_len (f b n : Int) : 1 ≤ (pfxP f b n).length ∧ (pfxP f b n).length ≤ 6 := by
 unfold pfxP
 split
 ·rw [oneB_len]; omega
 ·have := digF_len 4 (n - (pwI b - 1))
  rw [List.length_append, oneB_len]; omega
theorem p7_0 : (0 : Int) % pwI 7 = 0 := by decide
theorem p7_128 : (128 : Int) % pwI 7 = 0 := by decide
theorem and128 : ∀ x : Fin 256, iand .u8 (x.val : Int) 128 = if (x.val : Int) < 128 then 0 else 128 := by decide +kernel
theorem and128_lo {x : UInt8} (h : (x.toNat : Int) < 128) : iand .u8 (x.toNat : Int) 128 = 0 := by
 have := and128 ⟨x.toNat, x.toNat_lt⟩
 dsimp only at this
 rw [this, if_pos h]
theorem and128_hi {x : UInt8} (h : ¬ (x.toNat : Int) < 128) : iand .u8 (x.toNat : Int) 128 = 128 := by
 have := and128 ⟨x.toNat, x.toNat_lt⟩
 dsimp only at this
 rw [this, if_neg h]
theorem pgF_bd (b : List UInt8) : ∀ (k a : Nat) (n : Int), 0 ≤ n → a + k ≤ 5 → 0 ≤ (pgF b k a n).1 ∧ (pgF b k a n).1 ≤ 2147483647 ∧ 0 ≤ (pgF b k a n).2.1 ∧ (pgF b k a n).2.1 ≤ (b.length : Int) ∧ (pgF b k a n).2.1 ≤ 6
 | 0, a, n, h, h2 => by rw [pgF_0]; dsimp only; omega
 | k + 1, a, n, h, h2 => by
  cases hx : b[a + 1]? with
  | none => rw [pgF_none hx]; dsimp only; omega
  | some x =>
   have hl := (List.getElem?_eq_some_iff.1 hx).1
   have hp := pw7p a
   have hm : 0 ≤ (x.toNat : Int) % 128 * pwI (7 * (a : Int)) := Int.mul_nonneg (by omega) (by omega)
   by_cases h1 : (x.toNat : Int) < 128
   ·by_cases h3 : 2147483647 < n + (x.toNat : Int) % 128 * pwI (7 * (a : Int))
    ·rw [pgF_big hx h1 h3]; dsimp only; omega
    ·rw [pgF_end hx h1 h3]; dsimp only; omega
   ·rw [pgF_more hx h1]
    exact pgF_bd b k (a + 1) _ (by omega) (by omega)
theorem pgG_bd (b : List UInt8) {c : Int} (h1 : 1 ≤ c) (h8 : c ≤ 8) : 0 ≤ (pgG b c).1 ∧ (pgG b c).1 ≤ 2147483647 ∧ 0 ≤ (pgG b c).2.1 ∧ (pgG b c).2.1 ≤ (b.length : Int) ∧ (pgG b c).2.1 ≤ 6 := by
 have hp := pwI_bd h1 h8
 cases hx : b[0]? with
 | none => rw [pgG_none hx]; dsimp only; omega
 | some x =>
  have hl := (List.getElem?_eq_some_iff.1 hx).1
  have hm0 : 0 ≤ (x.toNat : Int) % pwI c := Int.emod_nonneg _ (by omega)
  by_cases h : (x.toNat : Int) % pwI c < pwI c - 1
  ·rw [pgG_lt hx h]; dsimp only; omega
  ·rw [pgG_ge hx h]; exact pgF_bd b 5 0 _ hm0 (by omega)
theorem pgG_ok (b : List UInt8) {c : Int} (h : (pgG b c).2.2 = 0) : 1 ≤ b.length := by
 cases hx : b[0]? with
 | none => rw [pgG_none hx] at h; exact absurd h (by decide)
 | some x => have hl := (List.getElem?_eq_some_iff.1 hx).1; omega
def hiB (b : List UInt8) : Bool := match b[0]? with
 | some x => decide (¬ (x.toNat : Int) < 128)
 | none => false
theorem hiB_eq {b : List UInt8} {x : UInt8} (h : b[0]? = some x) : hiB b = decide (¬ (x.toNat : Int) < 128) := by unfold hiB; rw [h]
def cutB (b : List UInt8) (k n : Nat) : List UInt8 := (b.drop k).take n
def slG (b : List UInt8) (most : Int) : List UInt8 × Bool × Int × Int :=
 if (pgG b 7).2.2 ≠ 0 then ([], false, 0, (pgG b 7).2.2)
 else if max most 0 < (pgG b 7).1 then ([], false, 0, 9)
 else if (b.length : Int) - (pgG b 7).2.1 < (pgG b 7).1 then ([], false, 0, 3)
 else if hiB b = false then (cutB b (pgG b 7).2.1.toNat (pgG b 7).1.toNat, false, (pgG b 7).2.1 + (pgG b 7).1, 0)
 else if (huM (bitsL (cutB b (pgG b 7).2.1.toNat (pgG b 7).1.toNat)) 0 0 []).2 ≠ 0 then ([], false, 0, (huM (bitsL (cutB b (pgG b 7).2.1.toNat (pgG b 7).1.toNat)) 0 0 []).2)
 else ((huM (bitsL (cutB b (pgG b 7).2.1.toNat (pgG b 7).1.toNat)) 0 0 []).1, true, (pgG b 7).2.1 + (pgG b 7).1, 0)
attribute [local irreducible] pwI pfxP pgF pgG huM bitsL rowB encL
theorem sput (l : List UInt8) (s : Bool) (hl : l.length ≤ 100000) : AEq Tryd.prog 51 [.lit (.string ⟨l.toArray⟩), bl s] [] (.sl false false ((slP s l).map byteA)) [] := by
 have h70 := p7_0
 have h71 := p7_128
 have hel := enc_bd l
 cases s with
 | false =>
  have hpl := pfxP_len 0 7 (l.length : Int)
  rw [slP_f, List.map_append]
  refine acall_body Tryd.func51 rfl Tryd.ntmps51 (by simp) (fun hsc => ?_); simp only [Lf.enter, Nat.reduceAdd]; clear hsc
  have hU := True.intro
  repeat' (first | (guard_target =~ PWp _ _ _ _ _ _ _; first | (refine pwp_seq_k (fun K hK => ?_)) | (refine pwp_rg_then ?_) | (refine pwp_ret ?_) | (refine pwp_skip ?_) | ((refine pwp_cond_d (fun hcd => ?_) (fun hcd => ?_)) <;> (try simp only [hcP] at hcd) <;> (try exact cdT))) | (guard_target =~ rg _ _ _ _ _ _ _; first | (guard_target =~ rg _ _ _ [] _ _ _; first | (refine rg_end ?_)) | (refine rg_a rfl (h := ?_)) | (refine rg_x rfl (hy := rfl) (h := ?_)) | (refine rg_v rfl (h := ?_)) | (refine rg_s rfl ?_)) | (guard_target =~ SOp _ _ _ _ _ _; first | (guard_target =~ SOp _ _ ⟨_, .call ⟨.value (.func 50), _, _⟩, _, _, _, none⟩ _ _ _; first | (refine n_call (f := 50) rfl Tryd.call50 (h := AEq.sub' [] (hc := pput_r _ _ _ aoT aoT aoT aoT aoT aoT aoT) (hq := ?_)))) | (guard_target =~ SOp _ _ ⟨_, .call ⟨.builtin .append, _, _⟩, _, _, _, none⟩ _ _ _; first | (refine n_append_row rfl (he := by first | exact eo3 | exact eo4 | exact eo5 | exact eo9 | exact eo22 | exact eo28 | fail) (hK := ?_))) | (guard_target =~ SOp _ _ ⟨_, .convert _ _ _, _, _, _, none⟩ _ _ _; first | (refine n_bytes rfl (by first | (simp (disch := omega) only [go_sem, seval, ↓reduceIte, hU]; done) | rfl) sT (by first | (simp (disch := omega) only [go_sem, seval, ↓reduceIte, hU]; done) | rfl) sT (by (try simp only [List.length_map, List.length_append, List.length_cons, List.length_nil, List.length_replicate, List.length_take, List.length_drop, List.length_set]); omega) ?_))) | (guard_target =~ (_ ∨ _) ∧ _; first | ((refine end_d [] (by rw [Tryd.results51, Lf.res1]) (ale_1 ?_) ?_) <;> (try (first | exact aleT | exact stq (by with_reducible rfl) | exact stq (by rfl) | exact stq (by simp (disch := omega) only [go_sem, seval, ↓reduceIte, hU]))))) | (refine hK _ _ ?_; clear hK K))
 | true =>
  have hpl := pfxP_len 128 7 ((rowB (encL l)).length : Int)
  rw [slP_t, List.map_append]
  refine acall_body Tryd.func51 rfl Tryd.ntmps51 (by simp) (fun hsc => ?_); simp only [Lf.enter, Nat.reduceAdd]; clear hsc
  have hU := True.intro
  repeat' (first | (guard_target =~ PWp _ _ _ _ _ _ _; first | (refine pwp_seq_k (fun K hK => ?_)) | (refine pwp_rg_then ?_) | (refine pwp_ret ?_) | ((refine pwp_cond_d (fun hcd => ?_) (fun hcd => ?_)) <;> (try simp only [hcP] at hcd) <;> (try exact cdT))) | (guard_target =~ rg _ _ _ _ _ _ _; first | (guard_target =~ rg _ _ _ [] _ _ _; first | (refine rg_end ?_)) | (refine rg_a rfl (h := ?_)) | (refine rg_x rfl (hy := rfl) (h := ?_)) | (refine rg_v rfl (h := ?_)) | (refine rg_s rfl ?_)) | (guard_target =~ SOp _ _ _ _ _ _; first | (guard_target =~ SOp _ _ ⟨_, .call ⟨.value (.func 77), _, _⟩, _, _, _, none⟩ _ _ _; first | (refine n_call (f := 77) rfl Tryd.call77 (h := AEq.pure' agT (hencode _ _ _ aoT) (hq := ?_)))) | (guard_target =~ SOp _ _ ⟨_, .call ⟨.value (.func 50), _, _⟩, _, _, _, none⟩ _ _ _; first | (refine n_call (f := 50) rfl Tryd.call50 (h := AEq.sub' [] (hc := pput_r _ _ _ aoT aoT aoT aoT aoT aoT aoT) (hq := ?_)))) | (guard_target =~ SOp _ _ ⟨_, .call ⟨.builtin .append, _, _⟩, _, _, _, none⟩ _ _ _; first | (refine n_append_row rfl (he := by first | exact eo3 | exact eo4 | exact eo5 | exact eo9 | exact eo22 | exact eo28 | fail) (hK := ?_))) | (guard_target =~ SOp _ _ ⟨_, .convert _ _ _, _, _, _, none⟩ _ _ _; first | (refine n_bytes rfl (by first | (simp (disch := omega) only [go_sem, seval, ↓reduceIte, hU]; done) | rfl) sT (by first | (simp (disch := omega) only [go_sem, seval, ↓reduceIte, hU]; done) | rfl) sT (by (try simp only [List.length_map, List.length_append, List.length_cons, List.length_nil, List.length_replicate, List.length_take, List.length_drop, List.length_set]); omega) ?_))) | (guard_target =~ (_ ∨ _) ∧ _; first | ((refine end_d [] (by rw [Tryd.results51, Lf.res1]) (ale_1 ?_) ?_) <;> (try (first | exact aleT | exact stq (by with_reducible rfl) | exact stq (by rfl) | exact stq (by simp (disch := omega) only [go_sem, seval, ↓reduceIte, hU]))))) | (refine hK _ _ ?_; clear hK K))
theorem slG_e {b : List UInt8} {most : Int} (h : (pgG b 7).2.2 ≠ 0) : slG b most = ([], false, 0, (pgG b 7).2.2) := by rw [slG, if_pos h]
theorem slG_long {b : List UInt8} {most : Int} (h : (pgG b 7).2.2 = 0) (h2 : max most 0 < (pgG b 7).1) : slG b most = ([], false, 0, 9) := by rw [slG, if_neg (by simpa using h), if_pos h2]
theorem slG_short {b : List UInt8} {most : Int} (h : (pgG b 7).2.2 = 0) (h2 : ¬ max most 0 < (pgG b 7).1) (h3 : (b.length : Int) - (pgG b 7).2.1 < (pgG b 7).1) : slG b most = ([], false, 0, 3) := by rw [slG, if_neg (by simpa using h), if_neg h2, if_pos h3]
theorem slG_lit {b : List UInt8} {most : Int} {k n : Nat} (h : (pgG b 7).2.2 = 0) (h2 : ¬ max most 0 < (pgG b 7).1) (h3 : ¬ (b.length : Int) - (pgG b 7).2.1 < (pgG b 7).1) (hk : (pgG b 7).2.1 = k) (hn : (pgG b 7).1 = n) (h4 : hiB b = false) : slG b most = (cutB b k n, false, (k : Int) + (n : Int), 0) := by
 rw [slG, if_neg (by simpa using h), if_neg h2, if_neg h3, if_pos h4, hk, hn, Int.toNat_natCast, Int.toNat_natCast]
theorem slG_bad {b : List UInt8} {most : Int} {k n : Nat} (h : (pgG b 7).2.2 = 0) (h2 : ¬ max most 0 < (pgG b 7).1) (h3 : ¬ (b.length : Int) - (pgG b 7).2.1 < (pgG b 7).1) (hk : (pgG b 7).2.1 = k) (hn : (pgG b 7).1 = n) (h4 : hiB b = true) (h5 : (huM (bitsL (cutB b k n)) 0 0 []).2 ≠ 0) : slG b most = ([], false, 0, (huM (bitsL (cutB b k n)) 0 0 []).2) := by
 rw [slG, if_neg (by simpa using h), if_neg h2, if_neg h3, if_neg (by simp [h4]), hk, hn, Int.toNat_natCast, Int.toNat_natCast, if_pos h5]
theorem slG_cod {b : List UInt8} {most : Int} {k n : Nat} (h : (pgG b 7).2.2 = 0) (h2 : ¬ max most 0 < (pgG b 7).1) (h3 : ¬ (b.length : Int) - (pgG b 7).2.1 < (pgG b 7).1) (hk : (pgG b 7).2.1 = k) (hn : (pgG b 7).1 = n) (h4 : hiB b = true) (h5 : (huM (bitsL (cutB b k n)) 0 0 []).2 = 0) : slG b most = ((huM (bitsL (cutB b k n)) 0 0 []).1, true, (k : Int) + (n : Int), 0) := by
 rw [slG, if_neg (by simpa using h), if_neg h2, if_neg h3, if_neg (by simp [h4]), hk, hn, Int.toNat_natCast, Int.toNat_natCast, if_neg (by simpa using h5)]
theorem slG_cases (b : List UInt8) (most : Int) : ((pgG b 7).2.2 ≠ 0 ∧ slG b most = ([], false, 0, (pgG b 7).2.2)) ∨ ((pgG b 7).2.2 = 0 ∧ 1 ≤ b.length ∧ max most 0 < (pgG b 7).1 ∧ slG b most = ([], false, 0, 9)) ∨ ((pgG b 7).2.2 = 0 ∧ 1 ≤ b.length ∧ ¬ max most 0 < (pgG b 7).1 ∧ (b.length : Int) - (pgG b 7).2.1 < (pgG b 7).1 ∧ slG b most = ([], false, 0, 3)) ∨ ((pgG b 7).2.2 = 0 ∧ 1 ≤ b.length ∧ ¬ max most 0 < (pgG b 7).1 ∧ ¬ (b.length : Int) - (pgG b 7).2.1 < (pgG b 7).1) := by
 by_cases h : (pgG b 7).2.2 = 0
 ·have h1 := pgG_ok b h
  by_cases h2 : max most 0 < (pgG b 7).1
  ·exact .inr (.inl ⟨h, h1, h2, slG_long h h2⟩)
  by_cases h3 : (b.length : Int) - (pgG b 7).2.1 < (pgG b 7).1
  ·exact .inr (.inr (.inl ⟨h, h1, h2, h3, slG_short h h2 h3⟩))
  ·exact .inr (.inr (.inr ⟨h, h1, h2, h3⟩))
 ·exact .inl ⟨h, slG_e h⟩
attribute [local irreducible] slG cutB
theorem sget0 (f q : Bool) (b : List UInt8) (hb : b.length ≤ 100000) (most : Int) (t : List UInt8) (s : Bool) (k e : Int) (htot : slG b most = (t, s, k, e)) : AEq Tryd.prog 45 [.sl f q (b.map byteA), i64 most] [] (.tu [.ag [.lit (.string ⟨t.toArray⟩), bl s], i64 k, i64 e]) [] := by
 have hbd := pgG_bd b (c := 7) (by decide) (by decide)
 rcases slG_cases b most with ⟨h1, h2⟩ | ⟨h1, h0, h3, h2⟩ | ⟨h1, h0, h3, h4, h2⟩ | ⟨h1, h0, h3, h4⟩
 ·rw [h2] at htot
  obtain ⟨rfl, rfl, rfl, rfl⟩ : t = [] ∧ s = false ∧ k = 0 ∧ e = (pgG b 7).2.2 := by simp only [Prod.mk.injEq] at htot; exact ⟨htot.1.symm, htot.2.1.symm, htot.2.2.1.symm, htot.2.2.2.symm⟩
  refine acall_body Tryd.func45 rfl Tryd.ntmps45 (by simp) (fun hsc => ?_); simp only [Lf.enter, Nat.reduceAdd]; clear hsc
  have hU := True.intro
  repeat' (first | (guard_target =~ PWp _ _ _ _ _ _ _; first | (refine pwp_seq_k (fun K hK => ?_)) | (refine pwp_block ?_) | (refine pwp_rg_then ?_) | (refine pwp_ret ?_) | ((refine pwp_cond_d (fun hcd => ?_) (fun hcd => ?_)) <;> (try simp only [hcP] at hcd) <;> (try exact cdT))) | (guard_target =~ rg _ _ _ _ _ _ _; first | (guard_target =~ rg _ _ _ [] _ _ _; first | (refine rg_end ?_)) | (refine rg_a rfl (h := ?_)) | (refine rg_x rfl (hy := rfl) (h := ?_)) | (refine rg_v rfl (h := ?_)) | (refine rg_s rfl ?_) | (refine rg_n rfl ?_)) | (guard_target =~ SOp _ _ _ _ _ _; first | (guard_target =~ SOp _ _ ⟨_, .build _ _, _, _, _, none⟩ _ _ _; first | (refine n_build rfl (by first | exact bd25 | fail) (hK := ?_))) | (guard_target =~ SOp _ _ ⟨_, .store _ _ _, _, _, _, none⟩ _ _ _; first | (refine n_store rfl (hK := ?_))) | (guard_target =~ SOp _ _ ⟨_, .call ⟨.value (.func 43), _, _⟩, _, _, _, none⟩ _ _ _; first | (refine n_call (f := 43) rfl Tryd.call43 (h := AEq.pure' agT (pget _ _ _ (by omega) _ (by omega) (by omega)) (hq := ?_)))) | (guard_target =~ SOp _ _ ⟨_, .alloc _, _, _, _, none⟩ _ _ _; first | (refine n_alloc rfl (by first | exact zv3 | exact zv4 | exact zv5 | exact zv9 | exact zv22 | exact zv25 | exact zv28 | fail) (hK := ?_)))) | (guard_target =~ (_ ∨ _) ∧ _; first | ((refine end_q [] (by first | exact .inr rfl | exact .inl rfl | fail) (by rfl) (by rw [Tryd.results45]; exact Lf.resM3 (by (try simp (disch := omega) only [Lf.resOne, go_sem, seval, ↓reduceIte, hU]); rfl) (by (try simp (disch := omega) only [Lf.resOne, go_sem, seval, ↓reduceIte, hU]); rfl) (by (try simp (disch := omega) only [Lf.resOne, go_sem, seval, ↓reduceIte, hU]); rfl)) sT sT (ale_3 ?_ ?_ ?_) ?_) <;> (try (first | exact aleT | exact stq (by with_reducible rfl) | exact stq (by rfl) | exact stq (by simp (disch := omega) only [go_sem, seval, ↓reduceIte, hU]))))) | (refine hK _ _ ?_; clear hK K))
 ·rw [h2] at htot
  obtain ⟨rfl, rfl, rfl, rfl⟩ : t = [] ∧ s = false ∧ k = 0 ∧ e = 9 := by simp only [Prod.mk.injEq] at htot; exact ⟨htot.1.symm, htot.2.1.symm, htot.2.2.1.symm, htot.2.2.2.symm⟩
  refine acall_body Tryd.func45 rfl Tryd.ntmps45 (by simp) (fun hsc => ?_); simp only [Lf.enter, Nat.reduceAdd]; clear hsc
  have hU := @h1
  repeat' (first | (guard_target =~ PWp _ _ _ _ _ _ _; first | (refine pwp_seq_k (fun K hK => ?_)) | (refine pwp_block ?_) | (refine pwp_rg_then ?_) | (refine pwp_ret ?_) | ((refine pwp_cond_d (fun hcd => ?_) (fun hcd => ?_)) <;> (try simp only [hcP] at hcd) <;> (try exact cdT))) | (guard_target =~ rg _ _ _ _ _ _ _; first | (guard_target =~ rg _ _ _ [] _ _ _; first | (refine rg_end ?_)) | (refine rg_a rfl (h := ?_)) | (refine rg_x rfl (hy := rfl) (h := ?_)) | (refine rg_v rfl (h := ?_)) | (refine rg_s rfl ?_) | (refine rg_n rfl ?_)) | (guard_target =~ SOp _ _ _ _ _ _; first | (guard_target =~ SOp _ _ ⟨_, .build _ _, _, _, _, none⟩ _ _ _; first | (refine n_build rfl (by first | exact bd25 | fail) (hK := ?_))) | (guard_target =~ SOp _ _ ⟨_, .store _ _ _, _, _, _, none⟩ _ _ _; first | (refine n_store rfl (hK := ?_))) | (guard_target =~ SOp _ _ ⟨_, .call ⟨.builtin .max, _, _⟩, _, _, _, none⟩ _ _ _; first | (refine n_max_m rfl sT sT ?_)) | (guard_target =~ SOp _ _ ⟨_, .call ⟨.value (.func 43), _, _⟩, _, _, _, none⟩ _ _ _; first | (refine n_call (f := 43) rfl Tryd.call43 (h := AEq.pure' agT (pget _ _ _ (by omega) _ (by omega) (by omega)) (hq := ?_)))) | (guard_target =~ SOp _ _ ⟨_, .alloc _, _, _, _, none⟩ _ _ _; first | (refine n_alloc rfl (by first | exact zv3 | exact zv4 | exact zv5 | exact zv9 | exact zv22 | exact zv25 | exact zv28 | fail) (hK := ?_)))) | (guard_target =~ (_ ∨ _) ∧ _; first | ((refine end_q [] (by first | exact .inr rfl | exact .inl rfl | fail) (by rfl) (by rw [Tryd.results45]; exact Lf.resM3 (by (try simp (disch := omega) only [Lf.resOne, go_sem, seval, ↓reduceIte, hU]); rfl) (by (try simp (disch := omega) only [Lf.resOne, go_sem, seval, ↓reduceIte, hU]); rfl) (by (try simp (disch := omega) only [Lf.resOne, go_sem, seval, ↓reduceIte, hU]); rfl)) sT sT (ale_3 ?_ ?_ ?_) ?_) <;> (try (first | exact aleT | exact stq (by with_reducible rfl) | exact stq (by rfl) | exact stq (by simp (disch := omega) only [go_sem, seval, ↓reduceIte, hU]))))) | (refine hK _ _ ?_; clear hK K))
 ·rw [h2] at htot
  obtain ⟨rfl, rfl, rfl, rfl⟩ : t = [] ∧ s = false ∧ k = 0 ∧ e = 3 := by simp only [Prod.mk.injEq] at htot; exact ⟨htot.1.symm, htot.2.1.symm, htot.2.2.1.symm, htot.2.2.2.symm⟩
  refine acall_body Tryd.func45 rfl Tryd.ntmps45 (by simp) (fun hsc => ?_); simp only [Lf.enter, Nat.reduceAdd]; clear hsc
  have hU := @h1
  repeat' (first | (guard_target =~ PWp _ _ _ _ _ _ _; first | (refine pwp_seq_k (fun K hK => ?_)) | (refine pwp_block ?_) | (refine pwp_rg_then ?_) | (refine pwp_ret ?_) | ((refine pwp_cond_d (fun hcd => ?_) (fun hcd => ?_)) <;> (try simp only [hcP] at hcd) <;> (try exact cdT))) | (guard_target =~ rg _ _ _ _ _ _ _; first | (guard_target =~ rg _ _ _ [] _ _ _; first | (refine rg_end ?_)) | (refine rg_a rfl (h := ?_)) | (refine rg_x rfl (hy := rfl) (h := ?_)) | (refine rg_v rfl (h := ?_)) | (refine rg_s rfl ?_) | (refine rg_n rfl ?_)) | (guard_target =~ SOp _ _ _ _ _ _; first | (guard_target =~ SOp _ _ ⟨_, .build _ _, _, _, _, none⟩ _ _ _; first | (refine n_build rfl (by first | exact bd25 | fail) (hK := ?_))) | (guard_target =~ SOp _ _ ⟨_, .store _ _ _, _, _, _, none⟩ _ _ _; first | (refine n_store rfl (hK := ?_))) | (guard_target =~ SOp _ _ ⟨_, .call ⟨.builtin .max, _, _⟩, _, _, _, none⟩ _ _ _; first | (refine n_max_l rfl sT sT (by (try simp only [List.length_map, List.length_append, List.length_cons, List.length_nil, List.length_replicate, List.length_take, List.length_drop, List.length_set]); omega) ?_)) | (guard_target =~ SOp _ _ ⟨_, .call ⟨.value (.func 43), _, _⟩, _, _, _, none⟩ _ _ _; first | (refine n_call (f := 43) rfl Tryd.call43 (h := AEq.pure' agT (pget _ _ _ (by omega) _ (by omega) (by omega)) (hq := ?_)))) | (guard_target =~ SOp _ _ ⟨_, .alloc _, _, _, _, none⟩ _ _ _; first | (refine n_alloc rfl (by first | exact zv3 | exact zv4 | exact zv5 | exact zv9 | exact zv22 | exact zv25 | exact zv28 | fail) (hK := ?_)))) | (guard_target =~ (_ ∨ _) ∧ _; first | ((refine end_q [] (by first | exact .inr rfl | exact .inl rfl | fail) (by rfl) (by rw [Tryd.results45]; exact Lf.resM3 (by (try simp (disch := omega) only [Lf.resOne, go_sem, seval, ↓reduceIte, hU]); rfl) (by (try simp (disch := omega) only [Lf.resOne, go_sem, seval, ↓reduceIte, hU]); rfl) (by (try simp (disch := omega) only [Lf.resOne, go_sem, seval, ↓reduceIte, hU]); rfl)) sT sT (ale_3 ?_ ?_ ?_) ?_) <;> (try (first | exact aleT | exact stq (by with_reducible rfl) | exact stq (by rfl) | exact stq (by simp (disch := omega) only [go_sem, seval, ↓reduceIte, hU]))))) | (refine hK _ _ ?_; clear hK K))
 ·obtain ⟨x, hx⟩ := ex_at (l := b) (i := 0) (by omega)
  have hxl := x.toNat_lt
  obtain ⟨k0, hk⟩ : ∃ j : Nat, (pgG b 7).2.1 = j := ⟨(pgG b 7).2.1.toNat, by omega⟩
  obtain ⟨n0, hn⟩ : ∃ j : Nat, (pgG b 7).1 = j := ⟨(pgG b 7).1.toNat, by omega⟩
  have h30 := h3
  have h40 := h4
  rw [hn] at h3
  rw [hk, hn] at h4
  rw [hk, hn] at hbd
  have hcl : (cutB b k0 n0).length = n0 := by unfold cutB; rw [List.length_take, List.length_drop]; omega
  have hcb : List.drop k0 (List.take ((k0 : Int) + (n0 : Int)).toNat b) = cutB b k0 n0 := by unfold cutB; rw [show ((k0 : Int) + (n0 : Int)).toNat = k0 + n0 from by omega, List.drop_take, Nat.add_sub_cancel_left]
  by_cases hlo : (x.toNat : Int) < 128
  ·have ha := and128_lo hlo
   rw [slG_lit h1 h30 h40 hk hn (by rw [hiB_eq hx]; simp [hlo])] at htot
   obtain ⟨rfl, rfl, rfl, rfl⟩ : t = cutB b k0 n0 ∧ s = false ∧ k = (k0 : Int) + (n0 : Int) ∧ e = 0 := by simp only [Prod.mk.injEq] at htot; exact ⟨htot.1.symm, htot.2.1.symm, htot.2.2.1.symm, htot.2.2.2.symm⟩
   refine acall_body Tryd.func45 rfl Tryd.ntmps45 (by simp) (fun hsc => ?_); simp only [Lf.enter, Nat.reduceAdd]; clear hsc
   have hU := And.intro @h1 ( And.intro @hk ( And.intro @hn ( And.intro @ha (@hcb))))
   repeat' (first | (guard_target =~ PWp _ _ _ _ _ _ _; first | (refine pwp_seq_k (fun K hK => ?_)) | (refine pwp_block ?_) | (refine pwp_rg_then ?_) | (refine pwp_draw mixed (by kernel_rfl) ?_) | (refine pwp_ret ?_) | (refine pwp_skip ?_) | ((refine pwp_cond_d (fun hcd => ?_) (fun hcd => ?_)) <;> (try simp only [hcP] at hcd) <;> (try exact cdT))) | (guard_target =~ rg _ _ _ _ _ _ _; first | (guard_target =~ rg _ _ _ [] _ _ _; first | (refine rg_end ?_)) | (refine rg_a rfl (h := ?_)) | (refine rg_x rfl (hy := rfl) (h := ?_)) | (refine rg_v rfl (h := ?_)) | (refine rg_s rfl ?_) | (refine rg_n rfl ?_)) | (guard_target =~ SOp _ _ _ _ _ _; first | (guard_target =~ SOp _ _ ⟨_, .build _ _, _, _, _, none⟩ _ _ _; first | (refine n_build rfl (by first | exact bd25 | fail) (hK := ?_))) | (guard_target =~ SOp _ _ ⟨_, .store _ _ _, _, _, _, none⟩ _ _ _; first | (refine n_store rfl (hK := ?_))) | (guard_target =~ SOp _ _ ⟨_, .call ⟨.builtin .max, _, _⟩, _, _, _, none⟩ _ _ _; first | (refine n_max_m rfl sT sT ?_)) | (guard_target =~ SOp _ _ ⟨_, .call ⟨.value (.func 43), _, _⟩, _, _, _, none⟩ _ _ _; first | (refine n_call (f := 43) rfl Tryd.call43 (h := AEq.pure' agT (pget _ _ _ (by omega) _ (by omega) (by omega)) (hq := ?_)))) | (guard_target =~ SOp _ _ ⟨_, .convert _ _ _, _, _, _, none⟩ _ _ _; first | (refine n_string rfl (hK := ?_))) | (guard_target =~ SOp _ _ ⟨_, .alloc _, _, _, _, none⟩ _ _ _; first | (refine n_alloc rfl (by first | exact zv3 | exact zv4 | exact zv5 | exact zv9 | exact zv22 | exact zv25 | exact zv28 | fail) (hK := ?_)))) | (guard_target =~ dg _ _ _ _ _ _ _; first | (guard_target =~ dg _ _ _ (⟨_, .move _, _, _, _, none⟩ :: _) _ _ _; first | (refine dg_v rfl (hk := ?_))) | (guard_target =~ dg _ _ _ (⟨_, .assign _, _, _, _, none⟩ :: _) _ _ _; first | (refine dg_a rfl (hk := ?_))) | (guard_target =~ dg _ _ _ (⟨_, .binOp _ _ _ _ _, _, _, _, none⟩ :: _) _ _ _; first | (refine dg_v rfl (hk := ?_))) | (guard_target =~ dg _ _ _ (⟨_, .slice _ _ _ _ _, _, _, _, none⟩ :: _) _ _ _; first | (refine dg_c (x := _) (h := ro_s (h := n_slice rfl (hg := (fun _ => (by simp only [go_sem, seval, ↓reduceIte, hU] <;> rfl))) (hK := ro_end ⟨rfl, rfl⟩))) (hk := ?_))) | (guard_target =~ dg _ _ _ (⟨_, .load _ _, _, _, _, none⟩ :: _) _ _ _; first | (refine dg_v rfl (hk := ?_))) | (guard_target =~ dg _ _ _ (⟨_, .call ⟨.builtin .len, _, _⟩, _, _, _, none⟩ :: _) _ _ _; first | (refine dg_v rfl (hk := ?_))) | (guard_target =~ dg _ _ _ (⟨_, .convert _ _ _, _, _, _, none⟩ :: _) _ _ _; first | (refine dg_v rfl (hk := ?_))) | (guard_target =~ dg _ _ _ (⟨_, .indexAddr _ _ _, _, _, _, none⟩ :: _) _ _ _; first | (refine dg_c (x := _) (h := ro_s (h := n_index rfl (hK := ro_end ⟨rfl, rfl⟩))) (hk := ?_))) | (guard_target =~ dg _ _ _ [] _ _ _; first | (refine dg_nil ?_))) | (guard_target =~ (_ ∨ _) ∧ _; first | ((refine end_q [] (by first | exact .inr rfl | exact .inl rfl | fail) (by rfl) (by rw [Tryd.results45]; exact Lf.resM3 (by (try simp (disch := omega) only [Lf.resOne, go_sem, seval, ↓reduceIte, hU]); rfl) (by (try simp (disch := omega) only [Lf.resOne, go_sem, seval, ↓reduceIte, hU]); rfl) (by (try simp (disch := omega) only [Lf.resOne, go_sem, seval, ↓reduceIte, hU]); rfl)) sT sT (ale_3 ?_ ?_ ?_) ?_) <;> (try (first | exact aleT | exact stq (by with_reducible rfl) | exact stq (by rfl) | exact stq (by simp (disch := omega) only [go_sem, seval, ↓reduceIte, hU]))))) | (refine hK _ _ ?_; clear hK K))
  ·have ha := and128_hi hlo
   have hhi : hiB b = true := by rw [hiB_eq hx]; simp [hlo]
   by_cases h5 : (huM (bitsL (cutB b k0 n0)) 0 0 []).2 = 0
   ·rw [slG_cod h1 h30 h40 hk hn hhi h5] at htot
    obtain ⟨rfl, rfl, rfl, rfl⟩ : t = (huM (bitsL (cutB b k0 n0)) 0 0 []).1 ∧ s = true ∧ k = (k0 : Int) + (n0 : Int) ∧ e = 0 := by simp only [Prod.mk.injEq] at htot; exact ⟨htot.1.symm, htot.2.1.symm, htot.2.2.1.symm, htot.2.2.2.symm⟩
    refine acall_body Tryd.func45 rfl Tryd.ntmps45 (by simp) (fun hsc => ?_); simp only [Lf.enter, Nat.reduceAdd]; clear hsc
    have hU := And.intro @h1 ( And.intro @hk ( And.intro @hn ( And.intro @ha ( And.intro @hcb (@h5)))))
    repeat' (first | (guard_target =~ PWp _ _ _ _ _ _ _; first | (refine pwp_seq_k (fun K hK => ?_)) | (refine pwp_block ?_) | (refine pwp_rg_then ?_) | (refine pwp_draw mixed (by kernel_rfl) ?_) | (refine pwp_ret ?_) | (refine pwp_skip ?_) | ((refine pwp_cond_d (fun hcd => ?_) (fun hcd => ?_)) <;> (try simp only [hcP] at hcd) <;> (try exact cdT))) | (guard_target =~ rg _ _ _ _ _ _ _; first | (guard_target =~ rg _ _ _ [] _ _ _; first | (refine rg_end ?_)) | (refine rg_a rfl (h := ?_)) | (refine rg_x rfl (hy := rfl) (h := ?_)) | (refine rg_v rfl (h := ?_)) | (refine rg_s rfl ?_) | (refine rg_n rfl ?_)) | (guard_target =~ SOp _ _ _ _ _ _; first | (guard_target =~ SOp _ _ ⟨_, .build _ _, _, _, _, none⟩ _ _ _; first | (refine n_build rfl (by first | exact bd25 | fail) (hK := ?_))) | (guard_target =~ SOp _ _ ⟨_, .store _ _ _, _, _, _, none⟩ _ _ _; first | (refine n_store rfl (hK := ?_))) | (guard_target =~ SOp _ _ ⟨_, .call ⟨.builtin .max, _, _⟩, _, _, _, none⟩ _ _ _; first | (refine n_max_m rfl sT sT ?_)) | (guard_target =~ SOp _ _ ⟨_, .call ⟨.value (.func 43), _, _⟩, _, _, _, none⟩ _ _ _; first | (refine n_call (f := 43) rfl Tryd.call43 (h := AEq.pure' agT (pget _ _ _ (by omega) _ (by omega) (by omega)) (hq := ?_)))) | (guard_target =~ SOp _ _ ⟨_, .call ⟨.value (.func 74), _, _⟩, _, _, _, none⟩ _ _ _; first | (refine n_call (f := 74) rfl Tryd.call74 (h := AEq.pure' agT (hdecode _ _ _ (by omega)) (hq := ?_)))) | (guard_target =~ SOp _ _ ⟨_, .convert _ _ _, _, _, _, none⟩ _ _ _; first | (refine n_string rfl (hK := ?_))) | (guard_target =~ SOp _ _ ⟨_, .alloc _, _, _, _, none⟩ _ _ _; first | (refine n_alloc rfl (by first | exact zv3 | exact zv4 | exact zv5 | exact zv9 | exact zv22 | exact zv25 | exact zv28 | fail) (hK := ?_)))) | (guard_target =~ dg _ _ _ _ _ _ _; first | (guard_target =~ dg _ _ _ (⟨_, .move _, _, _, _, none⟩ :: _) _ _ _; first | (refine dg_v rfl (hk := ?_))) | (guard_target =~ dg _ _ _ (⟨_, .assign _, _, _, _, none⟩ :: _) _ _ _; first | (refine dg_a rfl (hk := ?_))) | (guard_target =~ dg _ _ _ (⟨_, .binOp _ _ _ _ _, _, _, _, none⟩ :: _) _ _ _; first | (refine dg_v rfl (hk := ?_))) | (guard_target =~ dg _ _ _ (⟨_, .slice _ _ _ _ _, _, _, _, none⟩ :: _) _ _ _; first | (refine dg_c (x := _) (h := ro_s (h := n_slice rfl (hg := (fun _ => (by simp only [go_sem, seval, ↓reduceIte, hU] <;> rfl))) (hK := ro_end ⟨rfl, rfl⟩))) (hk := ?_))) | (guard_target =~ dg _ _ _ (⟨_, .load _ _, _, _, _, none⟩ :: _) _ _ _; first | (refine dg_v rfl (hk := ?_))) | (guard_target =~ dg _ _ _ (⟨_, .call ⟨.builtin .len, _, _⟩, _, _, _, none⟩ :: _) _ _ _; first | (refine dg_v rfl (hk := ?_))) | (guard_target =~ dg _ _ _ (⟨_, .convert _ _ _, _, _, _, none⟩ :: _) _ _ _; first | (refine dg_v rfl (hk := ?_))) | (guard_target =~ dg _ _ _ (⟨_, .indexAddr _ _ _, _, _, _, none⟩ :: _) _ _ _; first | (refine dg_c (x := _) (h := ro_s (h := n_index rfl (hK := ro_end ⟨rfl, rfl⟩))) (hk := ?_))) | (guard_target =~ dg _ _ _ [] _ _ _; first | (refine dg_nil ?_))) | (guard_target =~ (_ ∨ _) ∧ _; first | ((refine end_q [] (by first | exact .inr rfl | exact .inl rfl | fail) (by rfl) (by rw [Tryd.results45]; exact Lf.resM3 (by (try simp (disch := omega) only [Lf.resOne, go_sem, seval, ↓reduceIte, hU]); rfl) (by (try simp (disch := omega) only [Lf.resOne, go_sem, seval, ↓reduceIte, hU]); rfl) (by (try simp (disch := omega) only [Lf.resOne, go_sem, seval, ↓reduceIte, hU]); rfl)) sT sT (ale_3 ?_ ?_ ?_) ?_) <;> (try (first | exact aleT | exact stq (by with_reducible rfl) | exact stq (by rfl) | exact stq (by simp (disch := omega) only [go_sem, seval, ↓reduceIte, hU]))))) | (refine hK _ _ ?_; clear hK K))
   ·rw [slG_bad h1 h30 h40 hk hn hhi h5] at htot
    obtain ⟨rfl, rfl, rfl, rfl⟩ : t = [] ∧ s = false ∧ k = 0 ∧ e = (huM (bitsL (cutB b k0 n0)) 0 0 []).2 := by simp only [Prod.mk.injEq] at htot; exact ⟨htot.1.symm, htot.2.1.symm, htot.2.2.1.symm, htot.2.2.2.symm⟩
    refine acall_body Tryd.func45 rfl Tryd.ntmps45 (by simp) (fun hsc => ?_); simp only [Lf.enter, Nat.reduceAdd]; clear hsc
    have hU := And.intro @h1 ( And.intro @hk ( And.intro @hn ( And.intro @ha (@hcb))))
    repeat' (first | (guard_target =~ PWp _ _ _ _ _ _ _; first | (refine pwp_seq_k (fun K hK => ?_)) | (refine pwp_block ?_) | (refine pwp_rg_then ?_) | (refine pwp_draw mixed (by kernel_rfl) ?_) | (refine pwp_ret ?_) | (refine pwp_skip ?_) | ((refine pwp_cond_d (fun hcd => ?_) (fun hcd => ?_)) <;> (try simp only [hcP] at hcd) <;> (try exact cdT))) | (guard_target =~ rg _ _ _ _ _ _ _; first | (guard_target =~ rg _ _ _ [] _ _ _; first | (refine rg_end ?_)) | (refine rg_a rfl (h := ?_)) | (refine rg_x rfl (hy := rfl) (h := ?_)) | (refine rg_v rfl (h := ?_)) | (refine rg_s rfl ?_) | (refine rg_n rfl ?_)) | (guard_target =~ SOp _ _ _ _ _ _; first | (guard_target =~ SOp _ _ ⟨_, .build _ _, _, _, _, none⟩ _ _ _; first | (refine n_build rfl (by first | exact bd25 | fail) (hK := ?_))) | (guard_target =~ SOp _ _ ⟨_, .store _ _ _, _, _, _, none⟩ _ _ _; first | (refine n_store rfl (hK := ?_))) | (guard_target =~ SOp _ _ ⟨_, .call ⟨.builtin .max, _, _⟩, _, _, _, none⟩ _ _ _; first | (refine n_max_m rfl sT sT ?_)) | (guard_target =~ SOp _ _ ⟨_, .call ⟨.value (.func 43), _, _⟩, _, _, _, none⟩ _ _ _; first | (refine n_call (f := 43) rfl Tryd.call43 (h := AEq.pure' agT (pget _ _ _ (by omega) _ (by omega) (by omega)) (hq := ?_)))) | (guard_target =~ SOp _ _ ⟨_, .call ⟨.value (.func 74), _, _⟩, _, _, _, none⟩ _ _ _; first | (refine n_call (f := 74) rfl Tryd.call74 (h := AEq.pure' agT (hdecode _ _ _ (by omega)) (hq := ?_)))) | (guard_target =~ SOp _ _ ⟨_, .alloc _, _, _, _, none⟩ _ _ _; first | (refine n_alloc rfl (by first | exact zv3 | exact zv4 | exact zv5 | exact zv9 | exact zv22 | exact zv25 | exact zv28 | fail) (hK := ?_)))) | (guard_target =~ dg _ _ _ _ _ _ _; first | (guard_target =~ dg _ _ _ (⟨_, .move _, _, _, _, none⟩ :: _) _ _ _; first | (refine dg_v rfl (hk := ?_))) | (guard_target =~ dg _ _ _ (⟨_, .assign _, _, _, _, none⟩ :: _) _ _ _; first | (refine dg_a rfl (hk := ?_))) | (guard_target =~ dg _ _ _ (⟨_, .binOp _ _ _ _ _, _, _, _, none⟩ :: _) _ _ _; first | (refine dg_v rfl (hk := ?_))) | (guard_target =~ dg _ _ _ (⟨_, .slice _ _ _ _ _, _, _, _, none⟩ :: _) _ _ _; first | (refine dg_c (x := _) (h := ro_s (h := n_slice rfl (hg := (fun _ => (by simp only [go_sem, seval, ↓reduceIte, hU] <;> rfl))) (hK := ro_end ⟨rfl, rfl⟩))) (hk := ?_))) | (guard_target =~ dg _ _ _ (⟨_, .load _ _, _, _, _, none⟩ :: _) _ _ _; first | (refine dg_v rfl (hk := ?_))) | (guard_target =~ dg _ _ _ (⟨_, .call ⟨.builtin .len, _, _⟩, _, _, _, none⟩ :: _) _ _ _; first | (refine dg_v rfl (hk := ?_))) | (guard_target =~ dg _ _ _ (⟨_, .convert _ _ _, _, _, _, none⟩ :: _) _ _ _; first | (refine dg_v rfl (hk := ?_))) | (guard_target =~ dg _ _ _ (⟨_, .indexAddr _ _ _, _, _, _, none⟩ :: _) _ _ _; first | (refine dg_c (x := _) (h := ro_s (h := n_index rfl (hK := ro_end ⟨rfl, rfl⟩))) (hk := ?_))) | (guard_target =~ dg _ _ _ [] _ _ _; first | (refine dg_nil ?_))) | (guard_target =~ (_ ∨ _) ∧ _; first | ((refine end_q [] (by first | exact .inr rfl | exact .inl rfl | fail) (by rfl) (by rw [Tryd.results45]; exact Lf.resM3 (by (try simp (disch := omega) only [Lf.resOne, go_sem, seval, ↓reduceIte, hU]); rfl) (by (try simp (disch := omega) only [Lf.resOne, go_sem, seval, ↓reduceIte, hU]); rfl) (by (try simp (disch := omega) only [Lf.resOne, go_sem, seval, ↓reduceIte, hU]); rfl)) sT sT (ale_3 ?_ ?_ ?_) ?_) <;> (try (first | exact aleT | exact stq (by with_reducible rfl) | exact stq (by rfl) | exact stq (by simp (disch := omega) only [go_sem, seval, ↓reduceIte, hU]))))) | (refine hK _ _ ?_; clear hK K))
end Go.Proofs.YtohbfcmmpaikhaaDoor

set_option linter.unusedVariables false
set_option linter.unusedSimpArgs false
namespace Go.Proofs.YtohbfcmmpaikhaaDoor
open Go Go.Lf Go.Proofs
attribute [local irreducible] Lf.rg Lf.ro Lf.PWp Lf.SOp Lf.ACall Lf.Scoped Lf.dg Lf.dw
set_option maxRecDepth 20000
set_option maxHeartbeats 4000000
theorem slF_mod (s : Bool) : slF s % pwI 7 = 0 := by cases s <;> decide
theorem slB_len (s : Bool) (l : List UInt8) : (slB s l).length ≤ 4 * l.length := by
 cases s
 ·show l.length ≤ _; omega
 ·exact enc_bd l
attribute [local irreducible] pwI pfxP pgG huM bitsL rowB encL slG cutB
theorem sget (f q : Bool) (b : List UInt8) (hb : b.length ≤ 100000) (most : Int) : AEq Tryd.prog 45 [.sl f q (b.map byteA), i64 most] [] (.tu [.ag [.lit (.string ⟨(slG b most).1.toArray⟩), bl (slG b most).2.1], i64 (slG b most).2.2.1, i64 (slG b most).2.2.2]) [] := sget0 f q b hb most _ _ _ _ rfl
end Go.Proofs.YtohbfcmmpaikhaaDoor

