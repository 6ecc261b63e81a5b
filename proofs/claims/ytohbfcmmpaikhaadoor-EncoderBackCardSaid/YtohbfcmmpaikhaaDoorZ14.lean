import Derived.Test.YtohbfcmmpaikhaaDoorZ13
import Derived.Test.YtohbfcmmpaikhaaDoorTy
import Derived.Test.YtohbfcmmpaikhaaDoorLc
set_option linter.unusedVariables false
set_option linter.unusedSimpArgs false
namespace Go.Proofs.YtohbfcmmpaikhaaDoor
open Go Go.Lf Go.Proofs
attribute [local irreducible] Lf.rg Lf.ro Lf.PWp Lf.SOp Lf.ACall Lf.Scoped Lf.dg
set_option maxRecDepth 20000
set_option maxHeartbeats 4000000
def firstUp (p : Int → Bool) : Nat → Int
 | 0 => 0
 | k + 1 => if firstUp p k ≠ 0 then firstUp p k else if p ((k : Int) + 1) = true then (k : Int) + 1 else 0
def IsFirst (p : Int → Bool) (r lo hi : Int) : Prop := (r = 0 ∧ ∀ i, lo ≤ i → i ≤ hi → p i = false) ∨ (lo ≤ r ∧ r ≤ hi ∧ p r = true ∧ ∀ i, lo ≤ i → i < r → p i = false)
theorem firstUp_is (p : Int → Bool) : ∀ k : Nat, IsFirst p (firstUp p k) 1 k
 | 0 => .inl ⟨rfl, fun i h1 h2 => by omega⟩
 | k + 1 => by
  have ih := firstUp_is p k
  unfold firstUp
  rcases ih with ⟨h, hn⟩ | ⟨h1, h2, h3, h4⟩
  ·rw [if_neg (by simp [h])]
   by_cases hp : p ((k : Int) + 1) = true
   ·rw [if_pos hp]
    exact .inr ⟨by omega, by omega, hp, fun i h1 h2 => hn i h1 (by omega)⟩
   ·rw [if_neg hp]
    refine .inl ⟨rfl, fun i h1 h2 => ?_⟩
    by_cases hi : i = (k : Int) + 1
    ·subst hi; simpa using hp
    ·exact hn i h1 (by omega)
  ·rw [if_pos (by omega)]
   exact .inr ⟨h1, by omega, h3, h4⟩
theorem IsFirst.uniq {p : Int → Bool} {r s hi : Int} (h : IsFirst p r 1 hi) (k : IsFirst p s 1 hi) : r = s := by
 rcases h with ⟨h, hn⟩ | ⟨h1, h2, h3, h4⟩ <;> rcases k with ⟨k, kn⟩ | ⟨k1, k2, k3, k4⟩
 ·omega
 ·rw [hn s k1 k2] at k3; cases k3
 ·rw [kn r h1 h2] at h3; cases h3
 ·rcases Int.lt_trichotomy r s with c | c | c
  ·rw [k4 r h1 c] at h3; cases h3
  ·exact c
  ·rw [h4 s k1 c] at k3; cases k3
theorem IsFirst.up {p : Int → Bool} {r : Int} (h : IsFirst p r 1 61) : r = firstUp p 61 := h.uniq (firstUp_is p 61)
def nmEq (n : ByteArray) (i : Int) : Bool := decide ((stAt i).1 = n)
def fdEq (n v : ByteArray) (i : Int) : Bool := decide ((stAt i).1 = n ∧ (stAt i).2 = v)
def stFb (n v : ByteArray) : Bool := decide (firstUp (fdEq n v) 61 ≠ 0)
def stFi (n v : ByteArray) : Int := if firstUp (fdEq n v) 61 ≠ 0 then firstUp (fdEq n v) 61 else firstUp (nmEq n) 61
theorem stF_hit {n v : ByteArray} {i : Int} (h1 : 1 ≤ i ∧ i ≤ 61) (h2 : ∀ k, 1 ≤ k → k < i → fdEq n v k = false) (h3 : fdEq n v i = true) : stFi n v = i ∧ stFb n v = true := by
 have : IsFirst (fdEq n v) i 1 61 := .inr ⟨h1.1, h1.2, h3, h2⟩
 have := this.up
 simp only [stFi, stFb, ← this]
 rw [if_pos (by omega)]
 exact ⟨rfl, by simp; omega⟩
theorem stF_miss {n v : ByteArray} {r : Int} (h1 : ∀ k, 1 ≤ k → k ≤ 61 → fdEq n v k = false) (h2 : IsFirst (nmEq n) r 1 61) : stFi n v = r ∧ stFb n v = false := by
 have h0 : IsFirst (fdEq n v) 0 1 61 := .inl ⟨rfl, h1⟩
 have := h0.up
 have h3 := h2.up
 simp only [stFi, stFb, ← this]
 simp [h3]
theorem stF_bd (n v : ByteArray) : 0 ≤ stFi n v ∧ stFi n v ≤ 61 := by
 unfold stFi
 have a := firstUp_is (fdEq n v) 61
 have b := firstUp_is (nmEq n) 61
 split
 ·rcases a with ⟨a, _⟩ | ⟨a, a', _⟩ <;> omega
 ·rcases b with ⟨b, _⟩ | ⟨b, b', _⟩ <;> omega
theorem IsFirst.not {p : Int → Bool} {r k : Int} (h : IsFirst p r 1 k) (hp : p (k + 1) = false) : IsFirst p r 1 (k + 1) := by
 rcases h with ⟨h, hn⟩ | ⟨h1, h2, h3, h4⟩
 ·refine .inl ⟨h, fun i a b => ?_⟩
  by_cases hi : i = k + 1
  ·rw [hi]; exact hp
  ·exact hn i a (by omega)
 ·exact .inr ⟨h1, by omega, h3, h4⟩
theorem IsFirst.old {p : Int → Bool} {r k : Int} (h : IsFirst p r 1 k) (hr : ¬ r = 0) : IsFirst p r 1 (k + 1) := by
 rcases h with ⟨h, hn⟩ | ⟨h1, h2, h3, h4⟩
 ·exact absurd h hr
 ·exact .inr ⟨h1, by omega, h3, h4⟩
theorem IsFirst.new {p : Int → Bool} {r k : Int} (h : IsFirst p r 1 k) (hk : 0 ≤ k) (hr : r = 0) (hp : p (k + 1) = true) : IsFirst p (k + 1) 1 (k + 1) := by
 rcases h with ⟨h, hn⟩ | ⟨h1, h2, h3, h4⟩
 ·exact .inr ⟨by omega, by omega, hp, fun i a b => hn i a (by omega)⟩
 ·omega
theorem isFirst_up0 (p : Int → Bool) : IsFirst p 0 1 0 := .inl ⟨rfl, fun i a b => by omega⟩
set_option maxRecDepth 20000 in
set_option maxHeartbeats 4000000 in
theorem st_find (n v : ByteArray) : AEq Tryd.prog 115 [.lit (.string n), .lit (.string v)] [] (.tu [i64 (stFi n v), bl (stFb n v)]) [] := by
 refine acall_body Tryd.func115 rfl Tryd.ntmps115 (by simp) (fun hsc => ?_); simp only [Lf.enter, Nat.reduceAdd]; clear hsc
 have hU := True.intro
 repeat' (first | (guard_target =~ PWp _ _ _ _ _ _ _; first | (refine pwp_seq_k (fun K hK => ?_)) | (refine pwp_block ?_) | (refine pwp_rg_then ?_)) | (guard_target =~ rg _ _ _ _ _ _ _; first | (guard_target =~ rg _ _ _ (⟨_, .assign _, _, _, _, none⟩ :: _) _ _ _; first | (refine rg_a rfl (h := ?_))) | (guard_target =~ rg _ _ _ [] _ _ _; first | (refine rg_end ?_))) | (refine hK _ _ ?_; clear hK K))
 refine pwp_loop_g [4, 5, 6, 7, 8, 9, 10, 11, 12, 13, 14, 15, 16, 17, 18, 19, 20, 21, 22, 23, 24, 25, 26, 27, 28, 29, 30] [] (fun s : Int × Int => [(7, i64 (s.1 + 1)), (6, i64 s.2)]) (fun _ => []) (fun s => 0 ≤ s.1 ∧ s.1 ≤ 61 ∧ (∀ k, 1 ≤ k → k ≤ s.1 → fdEq n v k = false) ∧ IsFirst (nmEq n) s.2 1 s.1) (fun s => (61 - s.1).toNat) (0, 0) (fun _ => rfl) rfl rfl ⟨by decide, by decide, fun k _ _ => by omega, isFirst_up0 _⟩ ?_ rfl (by intro s i x h; simp only [List.mem_cons, Prod.mk.injEq, List.not_mem_nil, or_false] at h; rcases h with ⟨rfl, _⟩ | ⟨rfl, _⟩ <;> decide) ?_
 ·(refine ⟨⟨_, (by (try simp (disch := omega) only [go_sem, seval, ↓reduceIte, hU]) <;> rfl), ?_⟩, ⟨_, (by (try simp (disch := omega) only [go_sem, seval, ↓reduceIte, hU]) <;> rfl), ?_⟩, trivial⟩ <;> (try (first | exact ale_eq (by with_reducible rfl) | exact ale_full | exact ale_sl (fun _ => rfl) | exact ale_sl (by simp) | exact ale_junk | exact ale_eq rfl)))
 ·rintro ⟨c, r⟩ ⟨h0, h1, hf, hr⟩
  dsimp only at h0 h1 hf hr
  simp only [mask, List.map_cons, List.map_nil, List.cons_append, List.nil_append]
  have ext : fdEq n v (c + 1) = false → ∀ k, 1 ≤ k → k ≤ c + 1 → fdEq n v k = false := by
   intro h k h1 h2
   by_cases hk : k = c + 1
   ·rw [hk]; exact h
   ·exact hf k h1 (by omega)
  by_cases hlt : c < 61
  ·repeat' (first | (guard_target =~ PWp _ _ _ _ _ _ _; first | (refine pwp_seq_k (fun K hK => ?_)) | (refine pwp_block ?_) | (refine pwp_rg_then ?_) | (refine pwp_rg ?_) | (refine pwp_ret ?_) | (refine pwp_skip ?_) | (refine pwp_exit ?_) | ((refine pwp_cond (by (try simp (disch := omega) only [go_sem, seval, ↓reduceIte, hU]) <;> rfl) (fun hcd => ?_) (fun hcd => ?_)) <;> (try simp only [hcP] at hcd) <;> (try (exfalso; first | omega | exact absurd hcd (by assumption) | exact absurd (by assumption) hcd)))) | (guard_target =~ rg _ _ _ _ _ _ _; first | (guard_target =~ rg _ _ _ (⟨_, .assign _, _, _, _, none⟩ :: _) _ _ _; first | (refine rg_a rfl (h := ?_))) | (guard_target =~ rg _ _ _ (⟨_, .move _, _, _, _, none⟩ :: _) _ _ _; first | (refine rg_v rfl (h := ?_))) | (guard_target =~ rg _ _ _ (⟨_, .binOp _ _ _ _ _, _, _, _, none⟩ :: _) _ _ _; first | (refine rg_v rfl (h := ?_)) | (refine rg_s rfl ?_) | (refine rg_n rfl ?_)) | (guard_target =~ rg _ _ _ (⟨_, .load _ _, _, _, _, none⟩ :: _) _ _ _; first | (refine rg_v rfl (h := ?_))) | (guard_target =~ rg _ _ _ (⟨_, .extract _ _, _, _, _, none⟩ :: _) _ _ _; first | (refine rg_x rfl (hy := rfl) (h := ?_))) | (guard_target =~ rg _ _ _ (⟨_, .fieldAddr _ _ _, _, _, _, none⟩ :: _) _ _ _; first | (refine rg_v rfl (h := ?_))) | (guard_target =~ rg _ _ _ (⟨_, .call ⟨.value (.func 109), _, _⟩, _, _, _, none⟩ :: _) _ _ _; first | (refine rg_s rfl ?_) | (refine rg_n rfl ?_)) | (guard_target =~ rg _ _ _ (⟨_, .alloc _, _, _, _, none⟩ :: _) _ _ _; first | (refine rg_s rfl ?_) | (refine rg_n rfl ?_)) | (guard_target =~ rg _ _ _ (⟨_, .store _ _ _, _, _, _, none⟩ :: _) _ _ _; first | (refine rg_s rfl ?_) | (refine rg_n rfl ?_)) | (guard_target =~ rg _ _ _ [] _ _ _; first | (refine rg_end ?_))) | (guard_target =~ SOp _ _ _ _ _ _; first | (guard_target =~ SOp _ _ ⟨_, .call ⟨.value (.func 109), _, _⟩, _, _, _, none⟩ _ _ _; first | (refine n_call (f := 109) rfl Tryd.call109 (h := AEq.pure' (hc := st_at_some _ (by omega)) (hq := ?_)))) | (guard_target =~ SOp _ _ ⟨_, .alloc _, _, _, _, none⟩ _ _ _; first | (refine n_alloc rfl (by first | exact zv3 | exact zv4 | exact zv9 | exact zv67 | fail) (hK := ?_))) | (guard_target =~ SOp _ _ ⟨_, .store _ _ _, _, _, _, none⟩ _ _ _; first | (refine n_store rfl (hK := ?_)))) | (guard_target =~ (_ ∨ _) ∧ _; first | ((refine end_q [] (by first | exact .inr rfl | exact .inl rfl | fail) (by rfl) (by rw [Tryd.results115, Lf.res2]) (by (try simp (disch := omega) only [go_sem, seval, ↓reduceIte, hU]) <;> rfl) (by (try simp (disch := omega) only [go_sem, seval, ↓reduceIte, hU]) <;> rfl) (ale_2 ?_ ?_) ?_) <;> (try (first | exact ale_eq (by with_reducible rfl) | exact ale_full | exact ale_sl (fun _ => rfl) | exact ale_sl (by simp) | exact ale_junk | exact ale_eq rfl | exact stq (by with_reducible rfl) | exact stq (by rfl) | exact stq (by simp (disch := omega) only [go_sem, seval, ↓reduceIte, hU]))))) | (refine hK _ _ ?_; clear hK K) | (apply_assumption (exfalso := false) (symm := false)))
   ·refine ⟨(c + 1, r), ⟨by omega, by omega, ext (by simp [fdEq, hcd]), hr.not (by simp [nmEq, hcd])⟩, by dsimp only; omega, ?_, (by repeat' (first | exact agr_refl | refine agr_cons (by rfl) ?_)), (by first | rfl | (simp (disch := omega) only [go_sem, seval, ↓reduceIte, hU]; done) | (simp (disch := omega) only [go_sem, seval, ↓reduceIte, hU]; rfl))⟩
    (refine ⟨⟨_, (by (try simp (disch := omega) only [go_sem, seval, ↓reduceIte, hU]) <;> rfl), ?_⟩, ⟨_, (by (try simp (disch := omega) only [go_sem, seval, ↓reduceIte, hU]) <;> rfl), ?_⟩, trivial⟩ <;> (try (first | exact ale_eq (by with_reducible rfl) | exact ale_full | exact ale_sl (fun _ => rfl) | exact ale_sl (by simp) | exact ale_junk | exact ale_eq rfl)))
   ·rename_i ha _
    exact ale_eq (by rw [(stF_hit (i := c + 1) ⟨by omega, by omega⟩ (fun k h1 h2 => hf k h1 (by omega)) (by simp [fdEq, *])).1])
   ·exact ale_eq (by rw [(stF_hit (i := c + 1) ⟨by omega, by omega⟩ (fun k h1 h2 => hf k h1 (by omega)) (by simp [fdEq, *])).2])
   ·refine ⟨(c + 1, c + 1), ⟨by omega, by omega, ext (by simp [fdEq, *]), hr.new h0 hcd (by simp [nmEq, *])⟩, by dsimp only; omega, ?_, (by repeat' (first | exact agr_refl | refine agr_cons (by rfl) ?_)), (by first | rfl | (simp (disch := omega) only [go_sem, seval, ↓reduceIte, hU]; done) | (simp (disch := omega) only [go_sem, seval, ↓reduceIte, hU]; rfl))⟩
    (refine ⟨⟨_, (by (try simp (disch := omega) only [go_sem, seval, ↓reduceIte, hU]) <;> rfl), ?_⟩, ⟨_, (by (try simp (disch := omega) only [go_sem, seval, ↓reduceIte, hU]) <;> rfl), ?_⟩, trivial⟩ <;> (try (first | exact ale_eq (by with_reducible rfl) | exact ale_full | exact ale_sl (fun _ => rfl) | exact ale_sl (by simp) | exact ale_junk | exact ale_eq rfl)))
   ·refine ⟨(c + 1, r), ⟨by omega, by omega, ext (by simp [fdEq, *]), hr.old hcd⟩, by dsimp only; omega, ?_, (by repeat' (first | exact agr_refl | refine agr_cons (by rfl) ?_)), (by first | rfl | (simp (disch := omega) only [go_sem, seval, ↓reduceIte, hU]; done) | (simp (disch := omega) only [go_sem, seval, ↓reduceIte, hU]; rfl))⟩
    (refine ⟨⟨_, (by (try simp (disch := omega) only [go_sem, seval, ↓reduceIte, hU]) <;> rfl), ?_⟩, ⟨_, (by (try simp (disch := omega) only [go_sem, seval, ↓reduceIte, hU]) <;> rfl), ?_⟩, trivial⟩ <;> (try (first | exact ale_eq (by with_reducible rfl) | exact ale_full | exact ale_sl (fun _ => rfl) | exact ale_sl (by simp) | exact ale_junk | exact ale_eq rfl)))
  ·obtain rfl : c = 61 := by omega
   have hm := stF_miss hf hr
   repeat' (first | (guard_target =~ PWp _ _ _ _ _ _ _; first | (refine pwp_seq_k (fun K hK => ?_)) | (refine pwp_rg_then ?_) | (refine pwp_ret ?_) | (refine pwp_exit ?_) | ((refine pwp_cond (by (try simp (disch := omega) only [go_sem, seval, ↓reduceIte, hU]) <;> rfl) (fun hcd => ?_) (fun hcd => ?_)) <;> (try simp only [hcP] at hcd) <;> (try (exfalso; first | omega | exact absurd hcd (by assumption) | exact absurd (by assumption) hcd)))) | (guard_target =~ rg _ _ _ _ _ _ _; first | (guard_target =~ rg _ _ _ (⟨_, .assign _, _, _, _, none⟩ :: _) _ _ _; first | (refine rg_a rfl (h := ?_))) | (guard_target =~ rg _ _ _ (⟨_, .move _, _, _, _, none⟩ :: _) _ _ _; first | (refine rg_v rfl (h := ?_))) | (guard_target =~ rg _ _ _ (⟨_, .binOp _ _ _ _ _, _, _, _, none⟩ :: _) _ _ _; first | (refine rg_v rfl (h := ?_))) | (guard_target =~ rg _ _ _ (⟨_, .load _ _, _, _, _, none⟩ :: _) _ _ _; first | (refine rg_v rfl (h := ?_))) | (guard_target =~ rg _ _ _ (⟨_, .fieldAddr _ _ _, _, _, _, none⟩ :: _) _ _ _; first | (refine rg_v rfl (h := ?_))) | (guard_target =~ rg _ _ _ [] _ _ _; first | (refine rg_end ?_))) | (guard_target =~ (_ ∨ _) ∧ _; first | ((refine end_q [] (by first | exact .inr rfl | exact .inl rfl | fail) (by rfl) (by rw [Tryd.results115, Lf.res2]) (by (try simp (disch := omega) only [go_sem, seval, ↓reduceIte, hU]) <;> rfl) (by (try simp (disch := omega) only [go_sem, seval, ↓reduceIte, hU]) <;> rfl) (ale_2 ?_ ?_) ?_) <;> (try (first | exact ale_eq (by with_reducible rfl) | exact ale_full | exact ale_sl (fun _ => rfl) | exact ale_sl (by simp) | exact ale_junk | exact ale_eq rfl | exact stq (by with_reducible rfl) | exact stq (by rfl) | exact stq (by simp (disch := omega) only [go_sem, seval, ↓reduceIte, hU]))))) | (refine hK _ _ ?_; clear hK K) | (apply_assumption (exfalso := false) (symm := false)))
   ·exact ale_eq (by rw [hm.1])
   ·exact ale_eq (by rw [hm.2])
end Go.Proofs.YtohbfcmmpaikhaaDoor

set_option linter.unusedVariables false
set_option linter.unusedSimpArgs false
namespace Go.Proofs.YtohbfcmmpaikhaaDoor
open Go Go.Lf Go.Proofs
attribute [local irreducible] Lf.rg Lf.ro Lf.PWp Lf.SOp Lf.ACall Lf.Scoped Lf.dg Lf.dw
set_option maxRecDepth 20000
set_option maxHeartbeats 4000000
structure Fl where
 (n v : ByteArray) (k : Bool)
deriving DecidableEq
@[go_sem] def flA (f : Fl) : List AV := [.lit (.string f.n), .lit (.string f.v), bl f.k]
@[go_sem] theorem purl_flA (l : List Fl) : purl (l.map flA).flatten = true := purl_map (fun _ => rfl) l
@[go_sem] theorem fz_mapfl {κ : List Nat} {σ : Sto} (l : List Fl) : List.map (fzl κ σ) (l.map flA) = l.map flA := fz_mapg (fun _ => rfl) l
def fl0 : Fl := ⟨⟨#[]⟩, ⟨#[]⟩, false⟩
def xsE : List Fl := []
def flN (f : Fl) : Fl := ⟨f.n, f.v, false⟩
def wt (f : Fl) : Int := f.n.size + f.v.size + 32
theorem wt_N (f : Fl) : wt (flN f) = wt f := rfl
theorem wt_pos (f : Fl) : 32 ≤ wt f := by unfold wt; omega
def sumW : List Fl → Int
 | [] => 0
 | f :: l => wt f + sumW l
theorem sumW_nil : sumW [] = 0 := rfl
theorem sumW_app : ∀ (a b : List Fl), sumW (a ++ b) = sumW a + sumW b
 | [], b => by rw [List.nil_append, sumW_nil]; omega
 | f :: a, b => by rw [List.cons_append, sumW, sumW, sumW_app a b]; omega
theorem sumW_pos : ∀ l, 0 ≤ sumW l ∧ (l ≠ [] → 32 ≤ sumW l)
 | [] => ⟨by rw [sumW_nil]; omega, fun h => absurd rfl h⟩
 | f :: l => by
  have := sumW_pos l
  have := wt_pos f
  rw [sumW]
  exact ⟨by omega, fun _ => by omega⟩
def keptL : List Fl → Int → List Fl
 | [], _ => []
 | x :: xs, m => if m < sumW (x :: xs) then keptL xs m else x :: xs
def fitN : List Fl → Int → Int → Nat
 | [], _, _ => 0
 | x :: l, n, m => if m < n + wt x then 0 else fitN l (n + wt x) m + 1
theorem keptL_sum (m : Int) (h0 : 0 ≤ m) : ∀ l, sumW (keptL l m) ≤ m
 | [] => h0
 | x :: xs => by
  unfold keptL
  split
  ·exact keptL_sum m h0 xs
  ·omega
theorem keptL_len (m : Int) : ∀ l, (keptL l m).length ≤ l.length
 | [] => Nat.le_refl _
 | x :: xs => by
  unfold keptL
  have := keptL_len m xs
  split
  ·rw [List.length_cons]; omega
  ·exact Nat.le_refl _
theorem keptL_mem (m : Int) : ∀ l, ∀ f ∈ keptL l m, f ∈ l
 | [] => fun f h => h
 | x :: xs => by
  intro f h
  unfold keptL at h
  split at h
  ·exact List.mem_cons_of_mem _ (keptL_mem m xs f h)
  ·exact h
theorem keptL_all {l : List Fl} {m : Int} (h : sumW l ≤ m) : keptL l m = l := by
 cases l with
 | nil => rfl
 | cons x xs => unfold keptL; rw [if_neg (by omega)]
theorem keptL_zero (l : List Fl) : keptL l 0 = [] := by
 have h := keptL_sum 0 (by decide) l
 have := sumW_pos (keptL l 0)
 by_cases he : keptL l 0 = []
 ·exact he
 ·have := this.2 he; omega
theorem dloop_is (l : List UInt8) : ∀ (k i : Nat) (r : List UInt8), i + k = l.length → ByteArray.toList.loop ⟨l.toArray⟩ i r = r.reverse ++ l.drop i := by
 intro k
 induction k with
 | zero =>
  intro i r h
  unfold ByteArray.toList.loop
  have hs : (ByteArray.mk l.toArray).size = l.length := rfl
  rw [if_neg (by rw [hs]; omega), List.drop_of_length_le (by omega), List.append_nil]
 | succ k ih =>
  intro i r h
  unfold ByteArray.toList.loop
  have hs : (ByteArray.mk l.toArray).size = l.length := rfl
  rw [if_pos (by rw [hs]; omega), ih (i + 1) _ (by omega)]
  have hg : (ByteArray.mk l.toArray).get! i = l[i]'(by omega) := by
   show (l.toArray)[i]! = _
   simp [show i < l.length by omega]
  rw [hg, List.reverse_cons, List.append_assoc]
  congr 1
  rw [List.drop_eq_getElem_cons (i := i) (by omega)]
  rfl
theorem dtoList_mk (l : List UInt8) : ByteArray.toList ⟨l.toArray⟩ = l := by
 unfold ByteArray.toList
 rw [dloop_is l l.length 0 [] (by omega)]
 simp
@[go_sem] theorem dsbeq (a b : ByteArray) : (a.toList == b.toList) = decide (a = b) := by
 obtain ⟨⟨a⟩⟩ := a; obtain ⟨⟨b⟩⟩ := b
 rw [dtoList_mk, dtoList_mk]
 by_cases h : a = b <;> simp [h]
theorem ddrop_at {α : Type} {l : List α} {i : Nat} {x : α} (h : l[i]? = some x) : l.drop i = x :: l.drop (i + 1) := by
 obtain ⟨hi, rfl⟩ := List.getElem?_eq_some_iff.1 h
 exact List.drop_eq_getElem_cons hi
theorem dtake_snoc {α : Type} {l : List α} {i : Nat} {x : α} (h : l[i]? = some x) : l.take (i + 1) = l.take i ++ [x] := by
 rw [List.take_add_one, h]; rfl
def bothG (n v : ByteArray) : List Fl → Int → Int
 | [], _ => 0
 | f :: l, i => if f.n = n ∧ f.v = v then i else bothG n v l (i + 1)
def nameG (n : ByteArray) : List Fl → Int → Int
 | [], _ => 0
 | f :: l, i => if f.n = n then i else nameG n l (i + 1)
def fnI (R : List Fl) (n v : ByteArray) : Int := if bothG n v R 1 ≠ 0 then bothG n v R 1 else nameG n R 1
def fnB (R : List Fl) (n v : ByteArray) : Bool := decide (bothG n v R 1 ≠ 0)
theorem fn_hit {R : List Fl} {n v : ByteArray} {k : Int} (h : bothG n v R 1 = k) (hk : k ≠ 0) : fnI R n v = k ∧ fnB R n v = true := by
 unfold fnI fnB
 rw [h, if_pos hk]
 exact ⟨rfl, by simp [hk]⟩
theorem fn_miss {R : List Fl} {n v : ByteArray} {k : Int} (h : bothG n v R 1 = 0) (hk : nameG n R 1 = k) : fnI R n v = k ∧ fnB R n v = false := by
 unfold fnI fnB
 rw [h, if_neg (by simp)]
 exact ⟨hk, by simp⟩
theorem bothG_bd (n v : ByteArray) : ∀ (l : List Fl) (i : Int), 1 ≤ i → 0 ≤ bothG n v l i ∧ bothG n v l i < i + l.length
 | [], i, h => by unfold bothG; rw [List.length_nil]; omega
 | f :: l, i, h => by
  unfold bothG
  have := bothG_bd n v l (i + 1) (by omega)
  rw [List.length_cons]
  split <;> omega
theorem nameG_bd (n : ByteArray) : ∀ (l : List Fl) (i : Int), 1 ≤ i → 0 ≤ nameG n l i ∧ nameG n l i < i + l.length
 | [], i, h => by unfold nameG; rw [List.length_nil]; omega
 | f :: l, i, h => by
  unfold nameG
  have := nameG_bd n l (i + 1) (by omega)
  rw [List.length_cons]
  split <;> omega
theorem fn_bd (R : List Fl) (n v : ByteArray) : 0 ≤ fnI R n v ∧ fnI R n v ≤ R.length := by
 have a := bothG_bd n v R 1 (by decide)
 have b := nameG_bd n R 1 (by decide)
 unfold fnI
 split <;> omega
theorem rev_at {l : List Fl} {i : Nat} {f : Fl} (h : l.reverse[i]? = some f) : l[l.length - (i + 1)]? = some f := by
 have hi := (List.getElem?_eq_some_iff.1 h).1
 rw [List.length_reverse] at hi
 rw [List.getElem?_reverse hi] at h
 rw [← h]; congr 1; omega
theorem daeq_post {P : Program} {f : FuncId} {args : List AV} {σ τ τ2 : Sto} {r r2 : AV} (h : AEq P f args σ r τ) (hw : ∀ ρ w v, Rel τ ρ w → GV τ ρ w → VR τ ρ w r v → ∃ ρ', Rel τ2 ρ' w ∧ VR τ2 ρ' w r2 v ∧ Step τ.length τ ρ w τ2 ρ' w) : AEq P f args σ r2 τ2 := by
 unfold AEq ACall at *
 intro ρ w vs hr hG hv
 refine (h ρ w vs hr hG hv).mono ?_
 rintro e w' ⟨x, σ3, ρ3, v, h1, ⟨rfl, rfl⟩, h3, h4, h5⟩
 obtain ⟨ρ4, k1, k2, k3⟩ := hw ρ3 w' v h3 (hG.carry h5) h4
 exact ⟨_, _, ρ4, v, h1, ⟨rfl, rfl⟩, k1, k2, h5.trans (k3.mono h5.len')⟩
theorem dpost_rowc {σ : Sto} {q : Bool} {cs : List AV} {r : AV} (o k e sz : Nat) (h00 : 0 < sz) (hob : σ[o]? = some (.box cs)) (hc : cs[k]? = some (.sl true q [])) (ρ : Rz) (w : World) (v : Value) (hr : Rel σ ρ w) (hG : GV σ ρ w) (hv : VR σ ρ w r v) :
    ∃ ρ', Rel ((σ ++ [Ob.row 0 e sz []]).set o (Ob.box (cs.set k (AV.row σ.length 0)))) ρ' w ∧ VR ((σ ++ [Ob.row 0 e sz []]).set o (Ob.box (cs.set k (AV.row σ.length 0)))) ρ' w r v ∧ Step σ.length σ ρ w ((σ ++ [Ob.row 0 e sz []]).set o (Ob.box (cs.set k (AV.row σ.length 0)))) ρ' w := by
  obtain ⟨ρ', _, h2, h3⟩ := wk_rowc (N := 0) (n := σ.length) (Γ := []) o k e sz h00 hob hc ρ w { tmps := #[], defers := [] } (Nat.le_refl _) ⟨rfl, ⟨rfl, hG⟩, fun i => trivial⟩ hr
  exact ⟨ρ', h2, VR.carry h3 _ _ hv, h3⟩
theorem d_weight (f : Fl) (h1 : f.n.size ≤ 1000000000) (h2 : f.v.size ≤ 1000000000) : AEq Tryd.prog 111 [.ag (flA f)] [] (i64 (wt f)) [] := by
 refine acall_body Tryd.func111 rfl Tryd.ntmps111 (by simp) (fun hsc => ?_); simp only [Lf.enter, Nat.reduceAdd]; clear hsc
 have hU := True.intro
 repeat' (first | (guard_target =~ PWp _ _ _ _ _ _ _; first | (refine pwp_seq_k (fun K hK => ?_)) | (refine pwp_rg_then ?_) | (refine pwp_ret ?_)) | (guard_target =~ rg _ _ _ _ _ _ _; first | (guard_target =~ rg _ _ _ [] _ _ _; first | (refine rg_end ?_)) | (refine rg_a rfl (h := ?_)) | (refine rg_v rfl (h := ?_)) | (refine rg_s rfl ?_)) | (guard_target =~ SOp _ _ _ _ _ _; first | (guard_target =~ SOp _ _ ⟨_, .box _ _, _, _, _, none⟩ _ _ _; first | (refine n_box rfl (hK := ?_)))) | (guard_target =~ (_ ∨ _) ∧ _; first | ((refine end_d [] (by rw [Tryd.results111, Lf.res1]) (ale_1 ?_) ?_) <;> (try (first | exact ale_eq (by with_reducible rfl) | exact ale_full | exact ale_sl (fun _ => rfl) | exact ale_sl (by simp) | exact ale_junk | exact ale_eq rfl | exact stq (by with_reducible rfl) | exact stq (by rfl) | exact stq (by simp (disch := omega) only [go_sem, seval, ↓reduceIte, hU]))))) | (refine hK _ _ ?_; clear hK K))
theorem d_may (m : Int) : AEq Tryd.prog 80 [i64 m] [] (bl (decide (0 ≤ m ∧ m ≤ 2147483647))) [] := by
 refine acall_body Tryd.func80 rfl Tryd.ntmps80 (by simp) (fun hsc => ?_); simp only [Lf.enter, Nat.reduceAdd]; clear hsc
 have hU := True.intro
 repeat' (first | (guard_target =~ PWp _ _ _ _ _ _ _; first | (refine pwp_seq_k (fun K hK => ?_)) | (refine pwp_rg_then ?_) | (refine pwp_ret ?_)) | (guard_target =~ rg _ _ _ _ _ _ _; first | (guard_target =~ rg _ _ _ (⟨_, .move _, _, _, _, some _⟩ :: _) _ _ _; first | (refine rg_gq rfl (h := ?_))) | (guard_target =~ rg _ _ _ (⟨_, .binOp _ _ _ _ _, _, _, _, some _⟩ :: _) _ _ _; first | (refine rg_gq rfl (h := ?_))) | (guard_target =~ rg _ _ _ [] _ _ _; first | (refine rg_end ?_)) | (refine rg_a rfl (h := ?_)) | (refine rg_v rfl (h := ?_))) | (guard_target =~ (_ ∨ _) ∧ _; first | ((refine end_d [] (by rw [Tryd.results80, Lf.res1]) (ale_1 ?_) ?_) <;> (try (first | exact ale_eq (by with_reducible rfl) | exact ale_full | exact ale_sl (fun _ => rfl) | exact ale_sl (by simp) | exact ale_junk | exact ale_eq rfl | exact stq (by with_reducible rfl) | exact stq (by rfl) | exact stq (by simp (disch := omega) only [go_sem, seval, ↓reduceIte, hU]))))) | (refine hK _ _ ?_; clear hK K))
 exact ale_bl (by simp)
end Go.Proofs.YtohbfcmmpaikhaaDoor

set_option linter.unusedVariables false
set_option linter.unusedSimpArgs false
namespace Go.Proofs.YtohbfcmmpaikhaaDoor
open Go Go.Lf Go.Proofs
attribute [local irreducible] Lf.rg Lf.ro Lf.PWp Lf.SOp Lf.ACall Lf.Scoped Lf.dg Lf.dw
set_option maxRecDepth 20000
set_option maxHeartbeats 4000000
theorem set_fl3 (l : List Fl) (i : Nat) (f : Fl) : (l.map flA).set i [.lit (.string f.n), .lit (.string f.v), bl f.k] = (l.set i f).map flA := List.map_set.symm
def revP (l : List Fl) : Nat → List Fl
 | 0 => l
 | i + 1 => ((revP l i).set i (l.getD (l.length - 1 - i) fl0)).set (l.length - 1 - i) (l.getD i fl0)
theorem revP_len (l : List Fl) : ∀ i, (revP l i).length = l.length
 | 0 => rfl
 | i + 1 => by rw [revP, List.length_set, List.length_set, revP_len l i]
theorem revP_get (l : List Fl) : ∀ (i : Nat), 2 * i ≤ l.length → ∀ t : Nat, t < l.length → (revP l i)[t]? = if t < i ∨ l.length ≤ t + i then l[l.length - 1 - t]? else l[t]?
 | 0, _, t, ht => by rw [if_neg (by omega)]; rfl
 | i + 1, h, t, ht => by
  have ih := revP_get l i (by omega) t ht
  have hl := revP_len l i
  have gd : ∀ j, j < l.length → some (l.getD j fl0) = l[j]? := by
   intro j hj
   rw [List.getD_eq_getElem?_getD, List.getElem?_eq_getElem hj]; rfl
  rw [revP, List.getElem?_set]
  by_cases h1 : l.length - 1 - i = t
  ·rw [if_pos h1, if_pos (by rw [List.length_set, hl]; omega), if_pos (by omega), gd i (by omega), ← h1]
   congr 1; omega
  ·rw [if_neg h1, List.getElem?_set]
   by_cases h2 : i = t
   ·rw [if_pos h2, if_pos (by rw [hl]; omega), if_pos (by omega), gd _ (by omega), h2]
   ·rw [if_neg h2, ih]
    by_cases h3 : t < i ∨ l.length ≤ t + i
    ·rw [if_pos h3, if_pos (by omega)]
    ·rw [if_neg h3, if_neg (by omega)]
theorem revP_end {l : List Fl} {i : Nat} (h : 2 * i ≤ l.length) (h2 : l.length ≤ 2 * i + 1) : revP l i = l.reverse := by
 apply List.ext_getElem?
 intro t
 by_cases ht : t < l.length
 ·rw [revP_get l i h t ht, List.getElem?_reverse ht]
  by_cases h3 : t < i ∨ l.length ≤ t + i
  ·rw [if_pos h3]
  ·rw [if_neg h3]; congr 1; omega
 ·rw [List.getElem?_eq_none (by rw [revP_len]; omega), List.getElem?_eq_none (by rw [List.length_reverse]; omega)]
theorem revP_lo {l : List Fl} {i : Nat} (h : 2 * i + 1 < l.length) : (revP l i)[i]? = some (l.getD i fl0) ∧ (revP l i)[l.length - 1 - i]? = some (l.getD (l.length - 1 - i) fl0) := by
 have gd : ∀ j, j < l.length → some (l.getD j fl0) = l[j]? := by
  intro j hj
  rw [List.getD_eq_getElem?_getD, List.getElem?_eq_getElem hj]; rfl
 constructor
 ·rw [revP_get l i (by omega) i (by omega), if_neg (by omega), gd i (by omega)]
 ·rw [revP_get l i (by omega) _ (by omega), if_neg (by omega), gd _ (by omega)]
theorem clone_f_r (f q : Bool) (l : List Fl) (h : l.length ≤ 100000000) : AEq Tryd.prog 81 [.sl f q (l.map flA)] [] (.row 0 0) [.row 0 67 3 (l.map flA)] := by
 refine acall_body Tryd.func81 rfl Tryd.ntmps81 (by simp) (fun hsc => ?_); simp only [Lf.enter, Nat.reduceAdd]; clear hsc
 have hU := True.intro
 repeat' (first | (guard_target =~ PWp _ _ _ _ _ _ _; first | ((guard_target =~ PWp _ _ _ Code.ret _ _ _); refine pwp_row 2 67 3 (by decide) (by rfl) rfl rfl ?_) | (refine pwp_seq_k (fun K hK => ?_)) | (refine pwp_rg_then ?_) | (refine pwp_ret ?_) | (refine pwp_skip ?_) | ((refine pwp_cond_d (fun hcd => ?_) (fun hcd => ?_)) <;> (try simp only [hcP] at hcd) <;> (try (exfalso; first | omega | exact absurd hcd (by assumption) | exact absurd (by assumption) hcd)))) | (guard_target =~ rg _ _ _ _ _ _ _; first | (guard_target =~ rg _ _ _ [] _ _ _; first | (refine rg_end ?_)) | (refine rg_a rfl (h := ?_)) | (refine rg_v rfl (h := ?_)) | (refine rg_s rfl ?_)) | (guard_target =~ SOp _ _ _ _ _ _; first | (guard_target =~ SOp _ _ ⟨_, .binOp _ _ _ _ _, _, _, _, none⟩ _ _ _; first | (refine n_eqnil (ne := false) rfl (hx := ⟨_, (by (try simp (disch := omega) only [go_sem, seval, ↓reduceIte, hU]) <;> rfl), rfl⟩) (hK := (fun b hb => ?_)))) | (guard_target =~ SOp _ _ ⟨_, .call ⟨.builtin .append, _, _⟩, _, _, _, none⟩ _ _ _; first | (refine n_append_new rfl (he := by first | exact eo4 | exact eo9 | exact eo50 | exact eo67 | fail) (hK := ?_))) | (guard_target =~ SOp _ _ ⟨_, .buildSlice _ _ _, _, _, _, none⟩ _ _ _; first | (refine n_lit rfl (he := by first | exact eo4 | exact eo9 | exact eo50 | exact eo67 | fail) (hK := ?_)))) | (guard_target =~ (_ ∨ _) ∧ _; first | ((refine end_d [0] (by rw [Tryd.results81, Lf.res1]) (ale_1 ?_) ?_) <;> (try (first | exact ale_eq (by with_reducible rfl) | exact ale_full | exact ale_sl (fun _ => rfl) | exact ale_sl (by simp) | exact ale_junk | exact ale_eq rfl | exact stq (by with_reducible rfl) | exact stq (by rfl) | exact stq (by simp (disch := omega) only [go_sem, seval, ↓reduceIte, hU]))))) | (refine hK _ _ ?_; clear hK K))
 exact stq (by have h0 := hb hcd; rw [List.length_map] at h0; rw [List.eq_nil_of_length_eq_zero h0]; rfl)
theorem rev_f (l : List Fl) (s : Nat) (h : l.length ≤ 100000000) : AEq Tryd.prog 87 [.row 0 s] [.row s 67 3 (l.map flA)] (.tu []) [.row s 67 3 (l.reverse.map flA)] := by
 refine acall_body Tryd.func87 rfl Tryd.ntmps87 (by simp) (fun hsc => ?_); simp only [Lf.enter, Nat.reduceAdd]; clear hsc
 have hU := True.intro
 repeat' (first | (guard_target =~ PWp _ _ _ _ _ _ _; first | (refine pwp_seq_k (fun K hK => ?_)) | (refine pwp_block ?_) | (refine pwp_rg_then ?_)) | (guard_target =~ rg _ _ _ _ _ _ _; first | (guard_target =~ rg _ _ _ [] _ _ _; first | (refine rg_end ?_)) | (refine rg_a rfl (h := ?_)) | (refine rg_v rfl (h := ?_))) | (refine hK _ _ ?_; clear hK K))
 refine pwp_loop_e [2, 3, 7, 8, 9, 10, 11, 12, 13, 14, 15, 16, 17, 18, 19, 20, 21, 22, 23, 24, 25, 26, 27] (fun i : Nat => [(2, i64 i), (3, i64 ((l.length : Int) - 1 - i))]) (fun i => [.row s 67 3 ((revP l i).map flA)]) (fun i => 2 * i ≤ l.length) (fun i => l.length - i) 0 (Nat.zero_le _) ?_ rfl ?_
 ·(refine ⟨⟨_, (by (try simp (disch := omega) only [go_sem, seval, ↓reduceIte, hU]) <;> rfl), ?_⟩, ⟨_, (by (try simp (disch := omega) only [go_sem, seval, ↓reduceIte, hU]) <;> rfl), ?_⟩, trivial⟩ <;> (try (first | exact ale_eq (by with_reducible rfl) | exact ale_full | exact ale_sl (fun _ => rfl) | exact ale_sl (by simp) | exact ale_junk | exact ale_eq rfl)))
  all_goals exact ale_i (by omega)
 ·rintro i hi
  simp only [mask, List.map_cons, List.map_nil, List.cons_append, List.nil_append]
  have hl := revP_len l i
  by_cases hlt : 2 * i + 1 < l.length
  ·obtain ⟨hx, hy⟩ := revP_lo hlt
   have hj : ((l.length : Int) - 1 - i).toNat = l.length - 1 - i := by omega
   have hr : revP l (i + 1) = ((revP l i).set i (l.getD (l.length - 1 - i) fl0)).set (l.length - 1 - i) (l.getD i fl0) := rfl
   have hxA : (List.map flA (revP l i))[i]? = some (flA (l.getD i fl0)) := by rw [List.getElem?_map, hx]; rfl
   have hyA : (List.map flA (revP l i))[l.length - 1 - i]? = some (flA (l.getD (l.length - 1 - i) fl0)) := by rw [List.getElem?_map, hy]; rfl
   have hyB : (List.map flA ((revP l i).set i (l.getD (l.length - 1 - i) fl0)))[l.length - 1 - i]? = some (flA (l.getD (l.length - 1 - i) fl0)) := by rw [List.getElem?_map, List.getElem?_set, if_neg (by omega), hy]; rfl
   have hU := And.intro @set_fl3 ( And.intro @hj ( And.intro @hxA ( And.intro @hyA (@hyB))))
   repeat' (first | (guard_target =~ PWp _ _ _ _ _ _ _; first | (refine pwp_draw_ord_end (id := 3) [0, 1, 4, 5, 6, 7, 8, 9, 10, 11, 12, 13, 2, 3, 14, 15] [13, 15] mixed (by kernel_rfl) (by kernel_rfl) ?_) | (refine pwp_seq_k (fun K hK => ?_)) | (refine pwp_block ?_) | (refine pwp_rg_then ?_) | (refine pwp_skip ?_) | ((refine pwp_cond_d (fun hcd => ?_) (fun hcd => ?_)) <;> (try simp only [hcP] at hcd) <;> (try (exfalso; first | omega | exact absurd hcd (by assumption) | exact absurd (by assumption) hcd)))) | (guard_target =~ rg _ _ _ _ _ _ _; first | (guard_target =~ rg _ _ _ [] _ _ _; first | (refine rg_end ?_)) | (refine rg_a rfl (h := ?_)) | (refine rg_v rfl (h := ?_))) | (guard_target =~ dw _ _ _ _ _ _ _ _ _ _; first | ((first | guard_target =~ dw _ _ _ _ _ (0 :: _) _ _ _ _ | guard_target =~ dw _ _ _ _ _ (1 :: _) _ _ _ _ | guard_target =~ dw _ _ _ _ _ (2 :: _) _ _ _ _ | guard_target =~ dw _ _ _ _ _ (3 :: _) _ _ _ _ | guard_target =~ dw _ _ _ _ _ (4 :: _) _ _ _ _ | guard_target =~ dw _ _ _ _ _ (5 :: _) _ _ _ _ | guard_target =~ dw _ _ _ _ _ (8 :: _) _ _ _ _ | guard_target =~ dw _ _ _ _ _ (9 :: _) _ _ _ _); first | (refine dw_p rfl rfl (h := (fun τ => ro_v rfl (h := ro_end ⟨rfl, rfl⟩))) (hk := ?_)) | (refine dw_c rfl rfl (h := ro_v rfl (h := ro_end ⟨rfl, rfl⟩)) (hk := ?_))) | ((first | guard_target =~ dw _ _ _ _ _ (6 :: _) _ _ _ _ | guard_target =~ dw _ _ _ _ _ (10 :: _) _ _ _ _ | guard_target =~ dw _ _ _ _ _ (12 :: _) _ _ _ _ | guard_target =~ dw _ _ _ _ _ (14 :: _) _ _ _ _); first | (refine dw_c rfl rfl (h := ro_s (h := n_index_row rfl (hK := ro_end ⟨rfl, rfl⟩))) (hk := ?_))) | ((first | guard_target =~ dw _ _ _ _ _ (7 :: _) _ _ _ _ | guard_target =~ dw _ _ _ _ _ (11 :: _) _ _ _ _); first | (refine dw_p rfl rfl (h := (fun τ => ro_v rfl (h := ro_end ⟨rfl, rfl⟩))) (hk := ?_)) | (refine dw_c rfl rfl (h := ro_v rfl (h := ro_end ⟨rfl, rfl⟩)) (hk := ?_))) | ((first | guard_target =~ dw _ _ _ _ _ (13 :: _) _ _ _ _ | guard_target =~ dw _ _ _ _ _ (15 :: _) _ _ _ _); first | (refine dw_wn rfl rfl (h := ro_n (h := n_store_ep rfl (hK := ro_end ⟨rfl, rfl⟩))) (hk := ?_))) | (guard_target =~ dw _ _ _ _ _ [] _ _ _ _; first | (refine dw_nil ?_))) | (refine hK _ _ ?_; clear hK K))
   refine ⟨i + 1, by omega, by omega, ?_, (by repeat' (first | exact agr_refl | refine agr_cons (by rfl) ?_)), by first | (rw [hr]; done) | (rw [hr]; rfl) | fail⟩
   (refine ⟨⟨_, (by (try simp (disch := omega) only [go_sem, seval, ↓reduceIte, hU]) <;> rfl), ?_⟩, ⟨_, (by (try simp (disch := omega) only [go_sem, seval, ↓reduceIte, hU]) <;> rfl), ?_⟩, trivial⟩ <;> (try (first | exact ale_eq (by with_reducible rfl) | exact ale_full | exact ale_sl (fun _ => rfl) | exact ale_sl (by simp) | exact ale_junk | exact ale_eq rfl)))
   all_goals exact ale_i (by omega)
  ·have he := revP_end hi (by omega)
   have hU := @he
   repeat' (first | (guard_target =~ PWp _ _ _ _ _ _ _; first | (refine pwp_seq_k (fun K hK => ?_)) | (refine pwp_rg_then ?_) | (refine pwp_exit ?_) | ((refine pwp_cond_d (fun hcd => ?_) (fun hcd => ?_)) <;> (try simp only [hcP] at hcd) <;> (try (exfalso; first | omega | exact absurd hcd (by assumption) | exact absurd (by assumption) hcd)))) | (guard_target =~ rg _ _ _ _ _ _ _; first | (guard_target =~ rg _ _ _ [] _ _ _; first | (refine rg_end ?_)) | (refine rg_v rfl (h := ?_))) | (guard_target =~ (_ ∨ _) ∧ _; first | ((refine end_d [0] (by rw [Tryd.results87, Lf.res0]) ale_0 ?_) <;> (try (first | exact ale_eq (by with_reducible rfl) | exact ale_full | exact ale_sl (fun _ => rfl) | exact ale_sl (by simp) | exact ale_junk | exact ale_eq rfl | exact stq (by with_reducible rfl) | exact stq (by rfl) | exact stq (by simp (disch := omega) only [go_sem, seval, ↓reduceIte, hU]))))) | (refine hK _ _ ?_; clear hK K))
end Go.Proofs.YtohbfcmmpaikhaaDoor

