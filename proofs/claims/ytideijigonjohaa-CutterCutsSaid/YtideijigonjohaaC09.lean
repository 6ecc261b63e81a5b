import Derived.Test.YtideijigonjohaaC08
import Derived.Test.YtideijigonjohaaLc
set_option linter.unusedVariables false
set_option linter.unusedSimpArgs false
namespace Go.Proofs.Ytideijigonjohaa
open Go Go.Lf Go.Proofs
attribute [local irreducible] Lf.rg Lf.ro Lf.PWp Lf.SOp Lf.ACall Lf.Scoped Lf.dg Lf.dw
set_option maxRecDepth 20000
set_option maxHeartbeats 4000000
theorem hdG_take {x : List UInt8} (h : 9 ≤ x.length) : hdG x = hdG (x.take 9) := by
  have := hdG_app (x := x.take 9) (b := x.drop 9) (by rw [List.length_take]; omega)
  rw [List.take_append_drop] at this
  exact this
theorem lastH_is (w : Int) : ∀ (n : Nat) (b : List UInt8) (g : Hd), b.length = n → 9 ≤ (cutH w b).2.length → lastH b g = hdG ((cutH w b).2.take 9) := by
  intro n
  induction n using Nat.strongRecOn with
  | _ n ih =>
    intro b g hb h9
    by_cases h : 9 ≤ b.length ∧ 9 + hdN b ≤ b.length
    · rw [cutH_yes h.1 h.2] at h9 ⊢
      rw [lastH_yes h.1 h.2]
      exact ih (b.drop (9 + hdN b)).length (by rw [List.length_drop]; omega) _ _ rfl h9
    · rw [cutH_no h] at h9 ⊢
      dsimp only at h9 ⊢
      rw [lastH_no h, if_pos h9, hdG_take h9]
theorem phL_three {tp : Bool} {tl : List UInt8} (h : phL tp tl = 3) : tp = false ∧ 9 ≤ tl.length := by
  unfold phL at h
  split at h
  · exact absurd h (by decide)
  · split at h
    · exact absurd h (by decide)
    · rename_i a b
      exact ⟨by simpa using a, by omega⟩
theorem gQ_is {w ph : Int} {hb hv b tl : List UInt8} {g : Hd} {tf : List Fr} {tp : Bool} (h : cutQ w ph hb hv b = (tf, tp, tl)) (h3 : phL tp tl = 3) : gQ ph hb hv b g = hdG (tl.take 9) := by
  obtain ⟨rfl, h9⟩ := phL_three h3
  unfold cutQ at h
  unfold gQ
  by_cases h1 : ph = 1
  · rw [if_pos h1] at h ⊢
    unfold cutP at h
    rw [if_pos rfl] at h
    by_cases hs : (hv ++ b).length < 24
    · rw [if_pos hs] at h
      simp at h
    · rw [if_neg hs] at h ⊢
      simp only [Prod.mk.injEq] at h
      obtain ⟨_, _, rfl⟩ := h
      exact lastH_is w _ _ _ rfl h9
  · rw [if_neg h1] at h ⊢
    by_cases h2 : ph = 2
    · rw [if_pos h2] at h ⊢
      rw [cutP_f] at h
      simp only [Prod.mk.injEq] at h
      obtain ⟨_, _, rfl⟩ := h
      exact lastH_is w _ _ _ rfl h9
    · rw [if_neg h2] at h ⊢
      rw [cutP_f] at h
      simp only [Prod.mk.injEq] at h
      obtain ⟨_, _, rfl⟩ := h
      exact lastH_is w _ _ _ rfl h9
theorem cutQ_L (w : Int) (tp : Bool) (tl b : List UInt8) : cutQ w (phL tp tl) (tl.take 9) (hvL tp tl) b = cutP w tp (tl ++ b) := by
  cases tp with
  | true => rw [phL_t, hvL_t]; unfold cutQ; rw [if_pos rfl]
  | false =>
    by_cases h : tl.length < 9
    · obtain ⟨h1, h2⟩ := phL_f h
      rw [h1, h2]
      unfold cutQ
      rw [if_neg (by decide), if_pos rfl]
    · have e : tl.take 9 ++ tl.drop 9 = tl := List.take_append_drop 9 tl
      obtain ⟨h1, h2, _⟩ := phL_b (h := tl.take 9) (b := tl.drop 9) (by rw [List.length_take]; omega)
      rw [e] at h1 h2
      rw [h1, h2]
      unfold cutQ
      rw [if_neg (by decide), if_neg (by decide), ← List.append_assoc, e]
theorem phL_cases (tp : Bool) (tl : List UInt8) : phL tp tl = 1 ∨ phL tp tl = 2 ∨ (phL tp tl = 3 ∧ (tl.take 9).length = 9) := by
  cases tp with
  | true => exact .inl rfl
  | false =>
    by_cases h : tl.length < 9
    · exact .inr (.inl (phL_f h).1)
    · refine .inr (.inr ⟨?_, by rw [List.length_take]; omega⟩)
      unfold phL; rw [if_neg (by simp), if_neg h]
theorem needQ_I {ph : Int} {hb : List UInt8} (hp : ph = 1 ∨ ph = 2 ∨ ph = 3) : (needQ ph hb : Int) = needI ph hb := by
  rcases hp with rfl | rfl | rfl
  · rfl
  · rfl
  · have := hdG_l hb
    show (hdN hb : Int) = (hdG hb).l
    unfold hdN; omega
theorem cutH_bd (w : Int) : ∀ (n : Nat) (x : List UInt8), x.length = n → ∀ f ∈ (cutH w x).1, f.b.length ≤ n := by
  intro n
  induction n using Nat.strongRecOn with
  | _ n ih =>
    intro x hx f hf
    by_cases h : 9 ≤ x.length ∧ 9 + hdN x ≤ x.length
    · rw [cutH_yes h.1 h.2] at hf
      rcases List.mem_cons.1 hf with rfl | hf
      · show ((x.drop 9).take (hdN x)).length ≤ n
        rw [List.length_take, List.length_drop]; omega
      · have := ih (x.drop (9 + hdN x)).length (by rw [List.length_drop]; omega) _ rfl f hf
        rw [List.length_drop] at this; omega
    · rw [cutH_no h] at hf
      simp at hf
theorem cutP_bd {w : Int} {pre : Bool} {x tl : List UInt8} {tf : List Fr} {tp : Bool} (h : cutP w pre x = (tf, tp, tl)) : tf.length ≤ x.length + 1 ∧ (∀ f ∈ tf, f.b.length ≤ x.length + 24) ∧ tl.length ≤ x.length := by
  unfold cutP at h
  split at h
  · split at h
    · simp only [Prod.mk.injEq] at h
      obtain ⟨rfl, rfl, rfl⟩ := h
      exact ⟨Nat.zero_le _, by simp, Nat.le_refl _⟩
    · simp only [Prod.mk.injEq] at h
      obtain ⟨rfl, rfl, rfl⟩ := h
      have h1 := cutH_len w _ (x.drop 24) rfl
      have h2 := cutH_bd w _ (x.drop 24) rfl
      have h3 := (cutH_left w _ (x.drop 24) rfl).1
      rw [List.length_drop] at h1 h2 h3
      refine ⟨by rw [List.length_cons]; omega, ?_, by omega⟩
      intro f hf
      rcases List.mem_cons.1 hf with rfl | hf
      · show (x.take 24).length ≤ _
        rw [List.length_take]; omega
      · have := h2 f hf; omega
  · simp only [Prod.mk.injEq] at h
    obtain ⟨rfl, rfl, rfl⟩ := h
    have h1 := cutH_len w _ x rfl
    have h2 := cutH_bd w _ x rfl
    have h3 := (cutH_left w _ x rfl).1
    exact ⟨by omega, fun f hf => by have := h2 f hf; omega, h3⟩
theorem cutP_need {w : Int} {pre : Bool} {x tl : List UInt8} {tf : List Fr} {tp : Bool} (h : cutP w pre x = (tf, tp, tl)) : (hvL tp tl).length < needQ (phL tp tl) (tl.take 9) := by
  have key : ∀ y : List UInt8, ¬ (9 ≤ y.length ∧ 9 + hdN y ≤ y.length) → (hvL false y).length < needQ (phL false y) (y.take 9) := by
    intro y hy
    by_cases h9 : y.length < 9
    · obtain ⟨h1, h2⟩ := phL_f h9
      rw [h1, h2]; exact h9
    · have e : y.take 9 ++ y.drop 9 = y := List.take_append_drop 9 y
      obtain ⟨h1, h2, _⟩ := phL_b (h := y.take 9) (b := y.drop 9) (by rw [List.length_take]; omega)
      rw [e] at h1 h2
      rw [h1, h2]
      show (y.drop 9).length < hdN (y.take 9)
      have e2 : hdN (y.take 9) = hdN y := by unfold hdN; rw [hdG_take (x := y) (by omega)]
      rw [e2, List.length_drop]; omega
  unfold cutP at h
  split at h
  · split at h
    · simp only [Prod.mk.injEq] at h
      obtain ⟨rfl, rfl, rfl⟩ := h
      rename_i h24
      exact h24
    · simp only [Prod.mk.injEq] at h
      obtain ⟨rfl, rfl, rfl⟩ := h
      exact key _ (cutH_left w _ _ rfl).2
  · simp only [Prod.mk.injEq] at h
    obtain ⟨rfl, rfl, rfl⟩ := h
    exact key _ (cutH_left w _ _ rfl).2
theorem cutP_more {w : Int} {pre tp tp2 : Bool} {A b tl tl2 : List UInt8} {tf F2 : List Fr} (h : cutP w pre A = (tf, tp, tl)) (h2 : cutP w tp (tl ++ b) = (F2, tp2, tl2)) : cutP w pre (A ++ b) = (tf ++ F2, tp2, tl2) := by
  rw [cutP_app, h]
  dsimp only
  rw [h2]
structure Pt where
  (w n : Int) (x : List UInt8) (g : Hd) (s : Nat)
def PtOk (k : Int) (A : List UInt8) (p : Pt) : Prop := (p.w = 0 ∧ A = [] ∧ p.x = []) ∨ ∃ tf tp tl, cutP k (decide (k = 0)) A = (tf, tp, tl) ∧ p.w = phL tp tl ∧ p.n = needI p.w (tl.take 9) ∧ p.x = hvL tp tl ∧ (p.w = 3 → p.g = hdG (tl.take 9))
theorem cutP_nil (k : Int) : cutP k (decide (k = 0)) [] = ([], decide (k = 0), []) := by
  unfold cutP
  split
  · rename_i h
    rw [if_pos (by decide), h]
  · rename_i h
    have h2 : decide (k = 0) = false := by simpa using h
    rw [cutH_no (by simp), h2]
theorem pt_left {k : Int} {A tl : List UInt8} {p : Pt} {tf : List Fr} {tp : Bool} (h : PtOk k A p) (e : cutP k (decide (k = 0)) A = (tf, tp, tl)) : (p.w = 3 → (tl.length : Int) = 9 + p.x.length) ∧ (¬ p.w = 3 → tl.length = p.x.length) := by
  rcases h with ⟨h1, rfl, h2⟩ | ⟨tf', tp', tl', h1, h2, h3, h4, h5⟩
  · rw [cutP_nil] at e
    simp only [Prod.mk.injEq] at e
    obtain ⟨rfl, rfl, rfl⟩ := e
    rw [h1, h2]
    exact ⟨fun h => absurd h (by decide), fun _ => rfl⟩
  · rw [h1] at e
    simp only [Prod.mk.injEq] at e
    obtain ⟨rfl, rfl, rfl⟩ := e
    rw [h2, h4]
    refine ⟨fun h => ?_, fun h => ?_⟩
    · obtain ⟨rfl, h9⟩ := phL_three h
      unfold hvL
      rw [if_neg (by simp), if_neg (by omega), List.length_drop]; omega
    · unfold hvL
      unfold phL at h
      split
      · rfl
      · rename_i hp
        rw [if_neg hp] at h
        split
        · rfl
        · rename_i h9
          rw [if_neg h9] at h
          exact absurd rfl h
theorem pt_new {k ph0 : Int} {b tl : List UInt8} {tf : List Fr} {tp : Bool} (g : Hd) (hk : k = 0 ∧ ph0 = 1 ∨ k = 1 ∧ ph0 = 2) (h : cutQ k ph0 [] [] b = (tf, tp, tl)) : cutP k (decide (k = 0)) b = (tf, tp, tl) ∧ PtOk k b ⟨phL tp tl, needI (phL tp tl) (tl.take 9), hvL tp tl, gQ ph0 [] [] b g, 1⟩ := by
  have e : cutP k (decide (k = 0)) b = (tf, tp, tl) := by
    rw [← h]
    unfold cutQ
    rcases hk with ⟨rfl, rfl⟩ | ⟨rfl, rfl⟩
    · rw [if_pos rfl]; rfl
    · rw [if_neg (by decide), if_pos rfl]; rfl
  exact ⟨e, .inr ⟨tf, tp, tl, e, rfl, rfl, rfl, fun h3 => gQ_is h h3⟩⟩
theorem pt_hyp {k : Int} {A : List UInt8} {p : Pt} (h : PtOk k A p) (hw : ¬ p.w = 0) : ∃ hb, (p.w = 1 ∨ p.w = 2 ∨ (p.w = 3 ∧ hb.length = 9 ∧ p.g = hdG hb)) ∧ p.n = needI p.w hb ∧ (needQ p.w hb : Int) = needI p.w hb ∧ p.x.length < needQ p.w hb ∧ p.n ≤ 4294967296 ∧
    ∃ tf tp tl, cutP k (decide (k = 0)) A = (tf, tp, tl) ∧ ∀ b, cutQ k p.w hb p.x b = cutP k tp (tl ++ b) := by
  rcases h with ⟨h1, _⟩ | ⟨tf, tp, tl, h1, h2, h3, h4, h5⟩
  · exact absurd h1 hw
  · refine ⟨tl.take 9, ?_, h3, ?_, ?_, ?_, tf, tp, tl, h1, ?_⟩
    · rcases phL_cases tp tl with e | e | ⟨e, e9⟩
      · exact .inl (h2.trans e)
      · exact .inr (.inl (h2.trans e))
      · exact .inr (.inr ⟨h2.trans e, e9, h5 (h2.trans e)⟩)
    · refine needQ_I ?_
      rcases phL_cases tp tl with e | e | ⟨e, e9⟩
      · exact .inl (h2.trans e)
      · exact .inr (.inl (h2.trans e))
      · exact .inr (.inr (h2.trans e))
    · rw [h2, h4]; exact cutP_need h1
    · rw [h3, h2]
      have := hdG_l (tl.take 9)
      rcases phL_cases tp tl with e | e | ⟨e, e9⟩
      · rw [e, needI_1]; decide
      · rw [e, needI_2]; decide
      · rw [e, needI_3]; omega
    · intro b
      rw [h2, h4]; exact cutQ_L k tp tl b
theorem pt_stop {k : Int} {A b hb tl : List UInt8} {p : Pt} {tf : List Fr} {tp : Bool} (hp : p.w = 1 ∨ p.w = 2 ∨ (p.w = 3 ∧ hb.length = 9 ∧ p.g = hdG hb)) (hn : p.n = needI p.w hb) (h : p.x.length + b.length < needQ p.w hb) (e : cutP k (decide (k = 0)) A = (tf, tp, tl)) (hq : cutQ k p.w hb p.x b = cutP k tp (tl ++ b)) (s : Nat) : PtOk k (A ++ b) ⟨p.w, p.n, p.x ++ b, p.g, s⟩ ∧ (cutP k (decide (k = 0)) (A ++ b)).1 = tf := by
  have hp' : p.w = 1 ∨ p.w = 2 ∨ (p.w = 3 ∧ hb.length = 9) := by
    rcases hp with h | h | ⟨h, h', _⟩
    · exact .inl h
    · exact .inr (.inl h)
    · exact .inr (.inr ⟨h, h'⟩)
  have hl : (p.x ++ b).length < needQ p.w hb := by rw [List.length_append]; exact h
  have q := cutQ_stop (w := k) hp' hl
  rw [hq] at q
  have e2 := cutP_more e q
  obtain ⟨l1, l2, l3⟩ := phL_pre hp' hl
  refine ⟨.inr ⟨_, _, _, e2, l1.symm, ?_, l2.symm, ?_⟩, by rw [e2, List.append_nil]⟩
  · show p.n = needI p.w _
    rw [hn]
    rcases hp with h | h | ⟨h, h9, _⟩
    · rw [h, needI_1, needI_1]
    · rw [h, needI_2, needI_2]
    · rw [h]
      show needI 3 hb = needI 3 ((hb ++ (p.x ++ b)).take 9)
      rw [List.take_append_of_le_length (by omega), List.take_of_length_le (by omega)]
  · intro h3
    dsimp only at h3
    rcases hp with h | h | ⟨h, h9, hg⟩
    · rw [h] at h3; exact absurd h3 (by decide)
    · rw [h] at h3; exact absurd h3 (by decide)
    · show p.g = _
      rw [hg, h]
      show hdG hb = hdG ((hb ++ (p.x ++ b)).take 9)
      rw [List.take_append_of_le_length (by omega), List.take_of_length_le (by omega)]
theorem pt_some {k : Int} {A b hb tl tl2 : List UInt8} {p : Pt} {tf F2 : List Fr} {tp tp2 : Bool} (e : cutP k (decide (k = 0)) A = (tf, tp, tl)) (hq : cutQ k p.w hb p.x b = cutP k tp (tl ++ b)) (h2 : cutQ k p.w hb p.x b = (F2, tp2, tl2)) : PtOk k (A ++ b) ⟨phL tp2 tl2, needI (phL tp2 tl2) (tl2.take 9), hvL tp2 tl2, gQ p.w hb p.x b p.g, 1⟩ ∧ (cutP k (decide (k = 0)) (A ++ b)).1 = tf ++ F2 := by
  have e2 := cutP_more e (hq.symm.trans h2)
  exact ⟨.inr ⟨_, _, _, e2, rfl, rfl, rfl, fun h3 => gQ_is h2 h3⟩, by rw [e2]⟩
def sideB (k : Int) : List Ch → List UInt8
  | [] => []
  | c :: l => (if c.w = k then c.b else []) ++ sideB k l
theorem sideB_app (k : Int) : ∀ a b : List Ch, sideB k (a ++ b) = sideB k a ++ sideB k b
  | [], b => rfl
  | c :: a, b => by rw [List.cons_append, sideB, sideB, sideB_app k a b, List.append_assoc]
theorem sideB_snoc {k : Int} {l : List Ch} {i : Nat} {c : Ch} (h : l[i]? = some c) : sideB k (l.take (i + 1)) = sideB k (l.take i) ++ (if c.w = k then c.b else []) := by
  rw [take_snoc h, sideB_app]
  simp only [sideB, List.append_nil]
theorem sideB_len (k : Int) : ∀ l : List Ch, (sideB k l).length ≤ sumC l
  | [] => Nat.le_refl _
  | c :: l => by
    have := sideB_len k l
    rw [sideB, sumC, List.length_append]
    split
    · omega
    · simp only [List.length_nil]; omega
theorem sumC_take : ∀ (l : List Ch) (n : Nat), sumC (l.take n) ≤ sumC l
  | [], n => by rw [List.take_nil]; exact Nat.le_refl _
  | c :: l, 0 => by rw [List.take_zero, sumC]; omega
  | c :: l, n + 1 => by
    have := sumC_take l n
    rw [List.take_succ_cons, sumC, sumC]; omega
def newF (k : Int) (A b : List UInt8) : List Fr := (cutP k (decide (k = 0)) (A ++ b)).1.drop (cutP k (decide (k = 0)) A).1.length
theorem newF_is {k : Int} {A b : List UInt8} {tf F2 : List Fr} (e : (cutP k (decide (k = 0)) A).1 = tf) (h : (cutP k (decide (k = 0)) (A ++ b)).1 = tf ++ F2) : newF k A b = F2 := by
  unfold newF
  rw [e, h, List.drop_left]
def wantAt (l : List Ch) (i : Nat) : Bool × List Fr := match l[i]? with
  | none => (true, [])
  | some c => if c.w = 0 then (false, newF 0 (sideB 0 (l.take i)) c.b) else if c.w = 1 then (false, newF 1 (sideB 1 (l.take i)) c.b) else (true, [])
theorem wantAt_0 {l : List Ch} {i : Nat} {c : Ch} (h : l[i]? = some c) (hc : c.w = 0) : wantAt l i = (false, newF 0 (sideB 0 (l.take i)) c.b) := by
  unfold wantAt; rw [h]; exact if_pos hc
theorem wantAt_1 {l : List Ch} {i : Nat} {c : Ch} (h : l[i]? = some c) (hc : c.w = 1) : wantAt l i = (false, newF 1 (sideB 1 (l.take i)) c.b) := by
  unfold wantAt; rw [h]
  show (if c.w = 0 then _ else _) = _
  rw [if_neg (by omega), if_pos hc]
theorem wantAt_n {l : List Ch} {i : Nat} {c : Ch} (h : l[i]? = some c) (h0 : ¬ c.w = 0) (h1 : ¬ c.w = 1) : wantAt l i = (true, []) := by
  unfold wantAt; rw [h]
  show (if c.w = 0 then _ else _) = _
  rw [if_neg h0, if_neg h1]
def wantL (l : List Ch) (n : Nat) : List (Bool × List Fr) := (List.range n).map (wantAt l)
theorem wantL_0 (l : List Ch) : wantL l 0 = [] := rfl
theorem wantL_snoc (l : List Ch) (n : Nat) : wantL l (n + 1) = wantL l n ++ [wantAt l n] := by
  unfold wantL; rw [List.range_succ, List.map_append]; rfl
theorem wantL_len (l : List Ch) (n : Nat) : (wantL l n).length = n := by unfold wantL; rw [List.length_map, List.length_range]
theorem wantL_at {l : List Ch} {n i : Nat} (h : i < n) : (wantL l n)[i]? = some (wantAt l i) := by
  unfold wantL
  rw [List.getElem?_map, List.getElem?_range h]; rfl
@[go_sem] def wnA (x : Bool × List Fr) : List AV := [.sl x.1 false (x.2.map frA)]
@[go_sem] theorem purl_wnA (l : List (Bool × List Fr)) : purl (l.map wnA).flatten = true := purl_map (fun a => by simp [wnA, purl, pur, purl_frA]) l
@[go_sem] theorem fz_mapwn {κ : List Nat} {σ : Sto} (l : List (Bool × List Fr)) : List.map (fzl κ σ) (l.map wnA) = l.map wnA := fz_mapg (fun a => by simp [wnA, fzl, fz]) l
end Go.Proofs.Ytideijigonjohaa
