import Derived.Test.YtpkangodlfhjgaaG22
set_option linter.unusedVariables false
set_option linter.unusedSimpArgs false
namespace Go.Proofs.Ytpkangodlfhjgaa
open Go Go.Lf Go.Proofs
attribute [local irreducible] Lf.rg Lf.ro Lf.PWp Lf.SOp Lf.ACall Lf.Scoped Lf.dg
set_option maxRecDepth 20000
set_option maxHeartbeats 4000000
theorem okSet_of (b : List UInt8) (h : 6 ≤ b.length) : okSet (decS b) ∧ setB (decS b) = b.take 6 := by
  have e1 : getE b 2 = 0 := by unfold getE; rw [okS_yes (by omega), if_neg (by simp), if_neg (by omega)]
  have e2 : getE (b.drop 2) 4 = 0 := by unfold getE; rw [okS_yes (by omega), if_neg (by simp), if_neg (by rw [List.length_drop]; omega)]
  obtain ⟨_, _, _, a1, a2⟩ := back2 b 2 e1
  obtain ⟨_, _, _, b1, b2⟩ := back2 (b.drop 2) 4 e2
  refine ⟨⟨a1, b1⟩, ?_⟩
  rw [putL_of _ _ _ a1, List.nil_append] at a2
  rw [putL_of _ _ _ b1, List.nil_append] at b2
  show beB (getN b 2) 2 ++ beB (getN (b.drop 2) 4) 4 = _
  have a3 : beB (getN b 2) 2 = b.take 2 := a2
  have b3 : beB (getN (b.drop 2) 4) 4 = (b.drop 2).take 4 := b2
  rw [a3, b3]
  exact List.take_add.symm
theorem spF_par (b : List UInt8) (k : Nat) (h : 6 * k ≤ b.length) : spF (parS b k) = b.take (6 * k) ∧ spE (parS b k) = 0 := by
  induction k with
  | zero => exact ⟨rfl, rfl⟩
  | succ k ih =>
    obtain ⟨i1, i2⟩ := ih (by omega)
    have ho := okSet_of (b.drop (6 * k)) (by rw [List.length_drop]; omega)
    have hE : ∀ (l : List (Int × Int)) (s : Int × Int), spE l = 0 → okSet s → spE (l ++ [s]) = 0 := by
      intro l s h1 h2
      induction l with
      | nil => show (if okSet s then spE [] else 5) = 0; rw [if_pos h2]; rfl
      | cons t l ih =>
        have h1' : (if okSet t then spE l else 5) = 0 := h1
        show (if okSet t then spE (l ++ [s]) else 5) = 0
        split at h1'
        · rename_i ht; rw [if_pos ht]; exact ih h1'
        · cases h1'
    refine ⟨?_, hE _ _ i2 ho.1⟩
    show spF (parS b k ++ [decS (b.drop (6 * k))]) = _
    rw [spF_snoc, i1, ho.2, show 6 * (k + 1) = 6 * k + 6 from by omega]
    exact List.take_add.symm
theorem xback13 (b : List UInt8) (h : parE b = 0) : spB (parL b) = b ∧ spE (parL b) = 0 := by
  have h6 : b.length % 6 = 0 := by
    unfold parE at h
    split at h
    · assumption
    · cases h
  have := spF_par b (b.length / 6) (by omega)
  have e : parL b = parS b (b.length / 6) := if_pos h6
  rw [e]
  refine ⟨?_, this.2⟩
  unfold spB
  rw [if_pos this.2, this.1, List.take_of_length_le (by omega)]
def nuL (t g : Int) : Nat := if t = 1 then (if hasB 1 g 32 = true then 5 else 0) else if t = 2 then 5 else if t = 3 then 4 else if t = 5 then 4 else if t = 7 then 8 else if t = 8 then 4 else 0
theorem pos5 {b : List UInt8} {a n m : Int} (hn : 0 ≤ n) (hm : 0 ≤ m) (h : shB b a (n + m) = false) : posN b (posN b a n) m = a + (n + m) := by
  have h := of_decide_eq_false h
  unfold posN
  rw [if_pos (show a + n ≤ b.length by omega), if_pos (by omega)]; omega
theorem pos4 {b : List UInt8} {a n : Int} (h : shB b a n = false) : posN b a n = a + n := by
  have h := of_decide_eq_false h
  exact if_pos (by omega)
theorem numT_at {t g : Int} {b : List UInt8} {a : Int} (h : (numT t g b a).sh = false) : (numT t g b a).pos = a + nuL t g := by
  unfold numT nuL at *
  repeat' split
  all_goals (simp only [*, if_true, if_false, ↓reduceIte] at h)
  all_goals first
    | exact pos5 (n := 4) (m := 1) (by decide) (by decide) h
    | exact pos5 (n := 4) (m := 4) (by decide) (by decide) h
    | exact pos4 h
    | (dsimp only; omega)
theorem numT_z (t g : Int) (b : List UInt8) (a : Int) :
    (¬ ((t = 1 ∧ hasB 1 g 32 = true) ∨ t = 2) → (numT t g b a).pa = 0 ∧ (numT t g b a).wt = 0 ∧ (numT t g b a).al = false) ∧ (¬ t = 5 → (numT t g b a).pr = 0) ∧ (¬ t = 7 → (numT t g b a).la = 0) ∧ (¬ (t = 3 ∨ t = 7) → (numT t g b a).co = 0) ∧ (¬ t = 8 → (numT t g b a).sp = 0) := by
  refine ⟨fun h => ?_, fun h => ?_, fun h => ?_, fun h => ?_, fun h => ?_⟩
  · have h2 : ¬ t = 2 := fun e => h (.inr e)
    unfold numT
    by_cases h1 : t = 1
    · rw [if_pos h1, if_neg (fun e => h (.inl ⟨h1, e⟩))]; exact ⟨rfl, rfl, rfl⟩
    · rw [if_neg h1, if_neg h2]
      repeat' split
      all_goals exact ⟨rfl, rfl, rfl⟩
  all_goals
    unfold numT
    repeat' split
    all_goals first | rfl | (exfalso; omega)
theorem nuB_can {t g s p : Int} {d : List UInt8} {e : List (Int × Int)} {wt pa : Int} {al : Bool} {pr la co sp : Int} (h : Can t g s p d e wt pa al pr la co sp) (h4 : ¬ t = 4) : (nuB t g e wt pa al pr la co sp).length = nuL t g := by
  obtain ⟨g0, g1, hst, hpad, hde, hwg, hpr, hla, hco, hsp⟩ := h
  have hwt : 0 ≤ wt ∧ wt ≤ 255 := by rcases hwg with ⟨_, _, b⟩ | ⟨_, _, b, _⟩ <;> omega
  have k1 : (wgB pa al wt).length = 5 := by unfold wgB; rw [nbB_y (xput1 hwt), List.length_append, loB_len]; rfl
  have hc : 0 ≤ co ∧ co ≤ 4294967295 := by omega
  have k2 : (nbB co 4).length = 4 := by rw [nbB_y (xput4c hc)]; exact beB_len _ _
  unfold nuB nuL
  rw [hasZ_b g0]
  repeat' split
  all_goals first | exact k1 | exact k2 | exact loB_len _ _ | (rw [List.length_append, loB_len, k2]) | rfl | (exact absurd (by assumption) h4)
theorem can_par {t g s w : Int} {b : List UInt8} {r : Bool} (hk : hdOk ⟨b.length, t, g, s, r⟩) (hf : fauM t g s b = (0, 0)) {x : Fm} (hx : (parM t g s b).1 = x) :
    x.t = t ∧ x.g = g ∧ x.s = s ∧ Can x.t x.g x.s x.p x.d x.st x.wt x.pa x.al x.pr x.la x.co x.sp ∧ (wrB x.t x.g x.p x.d x.st x.wt x.pa x.al x.pr x.la x.co x.sp).length = b.length ∧ lenB t g b.length = true := by
  obtain ⟨_, _, _, _, g0, g2, _, _⟩ := hk
  dsimp only at g0 g2
  have hst := fau_str hf
  obtain ⟨hL, _, _⟩ := fau_ok hf
  have e0 : parM t g s b = insM t g s b := by
    unfold parM; rw [if_neg (by rw [hst]; simp), if_neg (by rw [hL]; simp)]
  have hz := (par_ok hf).1
  rw [e0] at hz hx
  have hb := numT_bd t g b (insA t g b)
  have hn0 := numT_z t g b (insA t g b)
  have hpd : (hasB t g 8 = true ∧ 0 ≤ padI t g b ∧ padI t g b ≤ 255) ∨ (hasB t g 8 = false ∧ padI t g b = -1) := by
    cases h8 : hasB t g 8 with
    | true => exact .inl ⟨rfl, by unfold padI; rw [if_pos h8]; exact getN1_bd b⟩
    | false => exact .inr ⟨rfl, by unfold padI; rw [if_neg (by rw [h8]; simp)]⟩
  have hpos := numT_at (t := t) (g := g) (b := b) (a := insA t g b)
  have hcan : ∀ (d : List UInt8) (e : List (Int × Int)), ((t = 4 ∧ d = [] ∧ spE e = 0) ∨ (¬ t = 4 ∧ e = [])) → Can t g s (padI t g b) d e (numT t g b (insA t g b)).wt (numT t g b (insA t g b)).pa (numT t g b (insA t g b)).al (numT t g b (insA t g b)).pr (numT t g b (insA t g b)).la (numT t g b (insA t g b)).co (numT t g b (insA t g b)).sp := by
    intro d e hde
    obtain ⟨b1, b2, b3, b4, b5, b6⟩ := hb
    obtain ⟨n1, n2, n3, n4, n5⟩ := hn0
    refine ⟨g0, by omega, hst, hpd, hde, ?_, ?_, ?_, ?_, ?_⟩
    · by_cases c : (t = 1 ∧ hasB 1 g 32 = true) ∨ t = 2
      · exact .inl ⟨c, b2, b1⟩
      · exact .inr ⟨c, n1 c⟩
    · by_cases c : t = 5
      · exact .inl ⟨c, b3⟩
      · exact .inr ⟨c, n2 c⟩
    · by_cases c : t = 7
      · exact .inl ⟨c, b4⟩
      · exact .inr ⟨c, n3 c⟩
    · by_cases c : t = 3 ∨ t = 7
      · exact .inl ⟨c, b5⟩
      · exact .inr ⟨c, n4 c⟩
    · by_cases c : t = 8
      · exact .inl ⟨c, b6⟩
      · exact .inr ⟨c, n5 c⟩
  rcases insM_cases t g s b with ⟨_, e⟩ | ⟨_, _, e⟩ | ⟨hS, hP, h4, e⟩ | ⟨hS, hP, h4, e⟩
  · rw [e] at hz; exact absurd hz (by simp)
  · rw [e] at hz; exact absurd hz (by simp)
  · rw [e] at hx
    subst hx
    have h80 : hasB t g 8 = false := by
      cases h : hasB t g 8 with
      | false => rfl
      | true => have := hasZ8_t (by rw [hasZ_b g0]; exact h : hasZ t g 8 = true); omega
    have h6 : b.length % 6 = 0 := by
      unfold lenB at hL
      rw [if_neg (by omega), if_neg (by omega), if_neg (by omega), if_neg (by omega), if_pos h4] at hL
      split at hL
      · have := of_decide_eq_true hL; omega
      · exact of_decide_eq_true hL
    have hE : parE b = 0 := if_pos h6
    obtain ⟨k1, k2⟩ := xback13 b hE
    refine ⟨rfl, rfl, rfl, hcan [] (parL b) (.inl ⟨h4, rfl, k2⟩), ?_, hL⟩
    dsimp only
    unfold wrB
    rw [if_neg (by rw [hasZ_b g0, h80]; simp)]
    have hn : ∀ wt pa al pr la co sp, nuB t g (parL b) wt pa al pr la co sp = spB (parL b) := by intros; unfold nuB; rw [if_neg (by omega), if_neg (by omega), if_neg (by omega), if_neg (by omega), if_neg (by omega), if_neg (by omega), if_pos h4]
    rw [hn, k1]
    unfold eB; simp
  · rw [e] at hx
    subst hx
    have hc := hcan (byL b (numT t g b (insA t g b)).pos (b.length - (numT t g b (insA t g b)).pos - max (padI t g b) 0)) [] (.inr ⟨h4, rfl⟩)
    refine ⟨rfl, rfl, rfl, hc, ?_, hL⟩
    have hnl := nuB_can hc h4
    have hS2 := hS
    unfold insS at hS2
    rw [Bool.or_eq_false_iff] at hS2
    obtain ⟨s1, s2⟩ := hS2
    have hp := hpos s2
    have hp2 := numT_pos t g b (insA t g b)
    have hA : (hasB t g 8 = true ∧ insA t g b = 1 ∧ 1 ≤ b.length) ∨ (hasB t g 8 = false ∧ insA t g b = 0) := by
      cases h8 : hasB t g 8 with
      | false => exact .inr ⟨rfl, by unfold insA; rw [if_neg (by rw [h8]; simp)]⟩
      | true =>
        rw [h8, Bool.true_and] at s1
        have s1 := of_decide_eq_false s1
        exact .inl ⟨rfl, by unfold insA; rw [if_pos h8]; exact if_pos (by omega), by omega⟩
    have hple : (numT t g b (insA t g b)).pos ≤ b.length := (hp2 (by omega) (by omega)).2
    have hp0 : 0 ≤ (numT t g b (insA t g b)).pos := (hp2 (by omega) (by omega)).1
    generalize hpos2 : (numT t g b (insA t g b)).pos = ps at hp hple hp0 hP hnl ⊢
    have hdl : (byL b ps (b.length - ps - max (padI t g b) 0)).length = (b.length - ps - max (padI t g b) 0).toNat := by
      have hE : byE b ps ((b.length : Int) - ps - max (padI t g b) 0) = 0 := by
        unfold byE; rw [if_neg (by omega), if_neg (by omega)]
      unfold byL
      rw [if_pos hE, List.length_take, List.length_drop]
      omega
    dsimp only at hnl ⊢
    unfold wrB
    rw [hasZ_b g0]
    rcases hA with ⟨h8, a1, a2⟩ | ⟨h8, a1⟩
    · rw [if_pos h8]
      unfold eB
      simp only [List.length_append, List.length_nil, List.length_replicate, beB_len]
      rw [hnl, hdl]
      rcases hpd with ⟨_, q1, q2⟩ | ⟨q, _⟩
      · omega
      · rw [h8] at q; cases q
    · rw [if_neg (by rw [h8]; simp)]
      unfold eB
      simp only [List.length_append, List.length_nil]
      rw [hnl, hdl]
      rcases hpd with ⟨q, _⟩ | ⟨_, q⟩
      · rw [h8] at q; cases q
      · omega
theorem em_par {t g s : Int} {b : List UInt8} {r : Bool} (hk : hdOk ⟨b.length, t, g, s, r⟩) (hf : fauM t g s b = (0, 0)) {x : Fm} (hx : (parM t g s b).1 = x) :
    EmOk 0 x.t x.g x.s x.p x.d x.st x.wt x.pa x.al x.pr x.la x.co x.sp ∧ (wrB x.t x.g x.p x.d x.st x.wt x.pa x.al x.pr x.la x.co x.sp).length = b.length := by
  obtain ⟨e1, e2, e3, hc, hl, hL⟩ := can_par (w := 0) hk hf hx
  refine ⟨rt_em hc ?_ (.inl rfl) ?_, hl⟩
  · rw [hl, e1, e2]; exact hL
  · rw [hl, e1, e2, e3]; exact hk
end Go.Proofs.Ytpkangodlfhjgaa
