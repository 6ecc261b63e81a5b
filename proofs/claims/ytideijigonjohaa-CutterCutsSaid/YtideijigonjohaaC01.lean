import Derived.Test.YtideijigonjohaaH14
import Derived.Test.YtideijigonjohaaM01
import Derived.Test.YtideijigonjohaaM04
import Derived.Test.YtideijigonjohaaLc
set_option linter.unusedVariables false
set_option linter.unusedSimpArgs false
namespace Go.Proofs.Ytideijigonjohaa
open Go Go.Lf Go.Proofs
attribute [local irreducible] Lf.rg Lf.ro Lf.PWp Lf.SOp Lf.ACall Lf.Scoped Lf.dg Lf.dw
set_option maxRecDepth 20000
set_option maxHeartbeats 4000000
theorem hdG_app {x b : List UInt8} (h : 9 ≤ x.length) : hdG (x ++ b) = hdG x := by
  have e : (x ++ b).take x.length = x := List.take_left
  have key : ∀ a n : Nat, a + n ≤ 9 → getN (x.drop a) n = getN ((x ++ b).drop a) n := by
    intro a n han
    have := getN_take (x ++ b) a n x.length (by omega) (by rw [List.length_append]; omega)
    rw [e] at this
    exact this
  have k0 := key 0 3 (by decide)
  have k3 := key 3 1 (by decide)
  have k4 := key 4 1 (by decide)
  have k5 := key 5 4 (by decide)
  simp only [List.drop_zero] at k0
  have c1 : ((1 : Nat) : Int) = 1 := rfl
  have c3 : ((3 : Nat) : Int) = 3 := rfl
  have c4 : ((4 : Nat) : Int) = 4 := rfl
  rw [c3] at k0
  rw [c1] at k3 k4
  rw [c4] at k5
  unfold hdG
  rw [← k0, ← k3, ← k4, ← k5]
theorem hdG_l (b : List UInt8) : 0 ≤ (hdG b).l ∧ (hdG b).l < 4294967296 := getN_bd b 3
structure Fr where
  (w t g s : Int) (r : Bool) (b : List UInt8)
deriving DecidableEq
def hdN (b : List UInt8) : Nat := (hdG b).l.toNat
def frB (w : Int) (b : List UInt8) : Fr := ⟨w, (hdG b).t, (hdG b).g, (hdG b).s, (hdG b).r, (b.drop 9).take (hdN b)⟩
def cutH (w : Int) (b : List UInt8) : List Fr × List UInt8 :=
  if h : 9 ≤ b.length ∧ 9 + hdN b ≤ b.length then
    let r := cutH w (b.drop (9 + hdN b))
    (frB w b :: r.1, r.2)
  else ([], b)
termination_by b.length
decreasing_by rw [List.length_drop]; omega
theorem cutH_yes {w : Int} {b : List UInt8} (h1 : 9 ≤ b.length) (h2 : 9 + hdN b ≤ b.length) : cutH w b = (frB w b :: (cutH w (b.drop (9 + hdN b))).1, (cutH w (b.drop (9 + hdN b))).2) := by
  rw [cutH, dif_pos ⟨h1, h2⟩]
theorem cutH_no {w : Int} {b : List UInt8} (h : ¬ (9 ≤ b.length ∧ 9 + hdN b ≤ b.length)) : cutH w b = ([], b) := by
  rw [cutH, dif_neg h]
theorem hdN_app {x b : List UInt8} (h : 9 ≤ x.length) : hdN (x ++ b) = hdN x := by unfold hdN; rw [hdG_app h]
theorem frB_app {w : Int} {x b : List UInt8} (h : 9 ≤ x.length) (h2 : 9 + hdN x ≤ x.length) : frB w (x ++ b) = frB w x := by
  unfold frB
  rw [hdG_app h, hdN_app h, List.drop_append_of_le_length h, List.take_append_of_le_length (by rw [List.length_drop]; omega)]
theorem cutH_app (w : Int) (b : List UInt8) : ∀ (n : Nat) (x : List UInt8), x.length = n → cutH w (x ++ b) = ((cutH w x).1 ++ (cutH w ((cutH w x).2 ++ b)).1, (cutH w ((cutH w x).2 ++ b)).2) := by
  intro n
  induction n using Nat.strongRecOn with
  | _ n ih =>
    intro x hx
    by_cases h : 9 ≤ x.length ∧ 9 + hdN x ≤ x.length
    · obtain ⟨h1, h2⟩ := h
      rw [cutH_yes h1 h2]
      have h3 : 9 ≤ (x ++ b).length := by rw [List.length_append]; omega
      have h4 : 9 + hdN (x ++ b) ≤ (x ++ b).length := by rw [hdN_app h1, List.length_append]; omega
      rw [cutH_yes h3 h4, frB_app h1 h2, hdN_app h1, List.drop_append_of_le_length h2]
      have := ih (x.drop (9 + hdN x)).length (by rw [List.length_drop]; omega) (x.drop (9 + hdN x)) rfl
      rw [this]
      simp
    · rw [cutH_no h]; simp
theorem cutH_left (w : Int) : ∀ (n : Nat) (x : List UInt8), x.length = n → (cutH w x).2.length ≤ n ∧ ¬ (9 ≤ (cutH w x).2.length ∧ 9 + hdN (cutH w x).2 ≤ (cutH w x).2.length) := by
  intro n
  induction n using Nat.strongRecOn with
  | _ n ih =>
    intro x hx
    by_cases h : 9 ≤ x.length ∧ 9 + hdN x ≤ x.length
    · rw [cutH_yes h.1 h.2]
      have := ih (x.drop (9 + hdN x)).length (by rw [List.length_drop]; omega) (x.drop (9 + hdN x)) rfl
      rw [List.length_drop] at this
      refine ⟨?_, this.2⟩
      have h2 := this.1
      show (cutH w (x.drop (9 + hdN x))).2.length ≤ n
      omega
    · rw [cutH_no h]
      refine ⟨?_, h⟩
      show x.length ≤ n
      omega
theorem cutH_len (w : Int) : ∀ (n : Nat) (x : List UInt8), x.length = n → 9 * (cutH w x).1.length ≤ n := by
  intro n
  induction n using Nat.strongRecOn with
  | _ n ih =>
    intro x hx
    by_cases h : 9 ≤ x.length ∧ 9 + hdN x ≤ x.length
    · rw [cutH_yes h.1 h.2]
      have := ih (x.drop (9 + hdN x)).length (by rw [List.length_drop]; omega) (x.drop (9 + hdN x)) rfl
      rw [List.length_drop] at this
      rw [List.length_cons]; omega
    · rw [cutH_no h]; simp
def cutP (w : Int) (pre : Bool) (b : List UInt8) : List Fr × Bool × List UInt8 :=
  if pre = true then
    if b.length < 24 then ([], true, b) else (⟨w, -1, 0, 0, false, b.take 24⟩ :: (cutH w (b.drop 24)).1, false, (cutH w (b.drop 24)).2)
  else ((cutH w b).1, false, (cutH w b).2)
theorem cutP_app (w : Int) (pre : Bool) (x b : List UInt8) : cutP w pre (x ++ b) = ((cutP w pre x).1 ++ (cutP w (cutP w pre x).2.1 ((cutP w pre x).2.2 ++ b)).1, (cutP w (cutP w pre x).2.1 ((cutP w pre x).2.2 ++ b)).2) := by
  cases pre with
  | false =>
    unfold cutP
    simp only [Bool.false_eq_true, if_false]
    rw [cutH_app w b _ x rfl]
  | true =>
    by_cases h : x.length < 24
    · have e : cutP w true x = ([], true, x) := by unfold cutP; rw [if_pos rfl, if_pos h]
      rw [e]; simp
    · have e : cutP w true x = (⟨w, -1, 0, 0, false, x.take 24⟩ :: (cutH w (x.drop 24)).1, false, (cutH w (x.drop 24)).2) := by unfold cutP; rw [if_pos rfl, if_neg h]
      have h2 : ¬ (x ++ b).length < 24 := by rw [List.length_append]; omega
      have e2 : cutP w true (x ++ b) = (⟨w, -1, 0, 0, false, (x ++ b).take 24⟩ :: (cutH w ((x ++ b).drop 24)).1, false, (cutH w ((x ++ b).drop 24)).2) := by unfold cutP; rw [if_pos rfl, if_neg h2]
      have e3 : ∀ y, cutP w false y = ((cutH w y).1, false, (cutH w y).2) := fun y => by unfold cutP; rw [if_neg (by simp)]
      rw [e2, e, e3, List.take_append_of_le_length (by omega), List.drop_append_of_le_length (by omega), cutH_app w b _ (x.drop 24) rfl]
      simp
theorem cutP_f (w : Int) (b : List UInt8) : cutP w false b = ((cutH w b).1, false, (cutH w b).2) := by unfold cutP; rw [if_neg (by simp)]
theorem cutP_no {w : Int} {b : List UInt8} (h : ¬ (9 ≤ b.length ∧ 9 + hdN b ≤ b.length)) : cutP w false b = ([], false, b) := by rw [cutP_f, cutH_no h]
def cutQ (w : Int) (ph : Int) (hb hv b : List UInt8) : List Fr × Bool × List UInt8 := if ph = 1 then cutP w true (hv ++ b) else if ph = 2 then cutP w false (hv ++ b) else cutP w false (hb ++ (hv ++ b))
def needQ (ph : Int) (hb : List UInt8) : Nat := if ph = 1 then 24 else if ph = 2 then 9 else hdN hb
def preQ (ph : Int) (hb hv : List UInt8) : List UInt8 := if ph = 3 then hb ++ hv else hv
theorem cutQ_stop {w : Int} {ph : Int} {hb hv b : List UInt8} (hp : ph = 1 ∨ ph = 2 ∨ (ph = 3 ∧ hb.length = 9)) (h : (hv ++ b).length < needQ ph hb) : cutQ w ph hb hv b = ([], decide (ph = 1), preQ ph hb (hv ++ b)) := by
  rcases hp with rfl | rfl | ⟨rfl, h9⟩
  · have h2 : (hv ++ b).length < 24 := h
    unfold cutQ cutP
    rw [if_pos rfl, if_pos rfl, if_pos h2]; rfl
  · have h2 : (hv ++ b).length < 9 := h
    unfold cutQ
    rw [if_neg (by decide), if_pos rfl, cutP_no (by omega)]; rfl
  · have h2 : (hv ++ b).length < hdN hb := h
    unfold cutQ
    rw [if_neg (by decide), if_neg (by decide), cutP_no]
    · rfl
    · rw [hdN_app (by omega), List.length_append]; omega
theorem cutQ_pre {w : Int} {hb x b : List UInt8} {hv : List UInt8} {k : Nat} (h : (hv ++ b.take k).length = 24) : cutQ w 1 hb hv b = (⟨w, -1, 0, 0, false, hv ++ b.take k⟩ :: (cutQ w 2 [] [] (b.drop k)).1, (cutQ w 2 [] [] (b.drop k)).2) := by
  have e : hv ++ b = (hv ++ b.take k) ++ b.drop k := by rw [List.append_assoc, List.take_append_drop]
  unfold cutQ
  rw [if_pos rfl, if_neg (by decide), if_pos rfl, List.nil_append, e, cutP_f]
  unfold cutP
  rw [if_pos rfl, if_neg (by rw [List.length_append]; omega), List.take_append_of_le_length (by omega), List.drop_append_of_le_length (by omega), List.take_of_length_le (by omega), List.drop_eq_nil_of_le (by omega), List.nil_append]
theorem cutQ_head {w : Int} {hb b : List UInt8} {hv : List UInt8} {k : Nat} : cutQ w 2 hb hv b = cutQ w 3 (hv ++ b.take k) [] (b.drop k) := by
  have e : hv ++ b = (hv ++ b.take k) ++ b.drop k := by rw [List.append_assoc, List.take_append_drop]
  unfold cutQ
  rw [if_neg (by decide), if_pos rfl, if_neg (by decide), if_neg (by decide), List.nil_append, ← e]
theorem cutQ_body {w : Int} {hb b : List UInt8} {hv : List UInt8} {k : Nat} (h9 : hb.length = 9) (h : (hv ++ b.take k).length = hdN hb) : cutQ w 3 hb hv b = (⟨w, (hdG hb).t, (hdG hb).g, (hdG hb).s, (hdG hb).r, hv ++ b.take k⟩ :: (cutQ w 2 [] [] (b.drop k)).1, (cutQ w 2 [] [] (b.drop k)).2) := by
  have e : hb ++ (hv ++ b) = (hb ++ (hv ++ b.take k)) ++ b.drop k := by rw [List.append_assoc, List.append_assoc, List.take_append_drop]
  have hn : hdN (hb ++ (hv ++ b)) = hdN hb := hdN_app (by omega)
  have hl : (hb ++ (hv ++ b)).length = 9 + hdN hb + (b.drop k).length := by rw [e, List.length_append, List.length_append, h9, h]
  unfold cutQ
  rw [if_neg (by decide), if_neg (by decide), if_neg (by decide), if_pos rfl, List.nil_append, cutP_f, cutP_f, cutH_yes (by omega) (by omega)]
  have hd : (hb ++ (hv ++ b)).drop (9 + hdN (hb ++ (hv ++ b))) = b.drop k := by
    rw [hn, e, List.drop_append_of_le_length (by rw [List.length_append]; omega), List.drop_eq_nil_of_le (by rw [List.length_append]; omega), List.nil_append]
  have hf : frB w (hb ++ (hv ++ b)) = ⟨w, (hdG hb).t, (hdG hb).g, (hdG hb).s, (hdG hb).r, hv ++ b.take k⟩ := by
    unfold frB
    rw [hdG_app (by omega), hn]
    congr 1
    rw [e, List.append_assoc, List.drop_append_of_le_length (by omega), List.drop_eq_nil_of_le (by omega), List.nil_append, List.take_append_of_le_length (by omega), List.take_of_length_le (by omega)]
  rw [hd, hf]
def lastH (b : List UInt8) (g : Hd) : Hd :=
  if h : 9 ≤ b.length ∧ 9 + hdN b ≤ b.length then lastH (b.drop (9 + hdN b)) (hdG b)
  else if 9 ≤ b.length then hdG b else g
termination_by b.length
decreasing_by rw [List.length_drop]; omega
theorem lastH_yes {b : List UInt8} {g : Hd} (h1 : 9 ≤ b.length) (h2 : 9 + hdN b ≤ b.length) : lastH b g = lastH (b.drop (9 + hdN b)) (hdG b) := by
  rw [lastH, dif_pos ⟨h1, h2⟩]
theorem lastH_no {b : List UInt8} {g : Hd} (h : ¬ (9 ≤ b.length ∧ 9 + hdN b ≤ b.length)) : lastH b g = if 9 ≤ b.length then hdG b else g := by
  rw [lastH, dif_neg h]
theorem lastH_nine {b : List UInt8} {g g' : Hd} (h : 9 ≤ b.length) : lastH b g = lastH b g' := by
  by_cases h2 : 9 + hdN b ≤ b.length
  · rw [lastH_yes h h2, lastH_yes h h2]
  · rw [lastH_no (fun e => h2 e.2), lastH_no (fun e => h2 e.2), if_pos h, if_pos h]
def gQ (ph : Int) (hb hv b : List UInt8) (g : Hd) : Hd := if ph = 1 then (if (hv ++ b).length < 24 then g else lastH ((hv ++ b).drop 24) g) else if ph = 2 then lastH (hv ++ b) g else lastH (hb ++ (hv ++ b)) g
theorem gQ_stop {ph : Int} {hb hv b : List UInt8} {g : Hd} (hp : ph = 1 ∨ ph = 2 ∨ (ph = 3 ∧ hb.length = 9 ∧ g = hdG hb)) (h : (hv ++ b).length < needQ ph hb) : gQ ph hb hv b g = g := by
  rcases hp with rfl | rfl | ⟨rfl, h9, rfl⟩
  · have h2 : (hv ++ b).length < 24 := h
    unfold gQ; rw [if_pos rfl, if_pos h2]
  · have h2 : (hv ++ b).length < 9 := h
    unfold gQ; rw [if_neg (by decide), if_pos rfl, lastH_no (by omega), if_neg (by omega)]
  · have h2 : (hv ++ b).length < hdN hb := h
    unfold gQ
    rw [if_neg (by decide), if_neg (by decide), lastH_no (by rw [hdN_app (by omega), List.length_append]; omega), if_pos (by rw [List.length_append]; omega), hdG_app (by omega)]
theorem gQ_pre {hb b : List UInt8} {hv : List UInt8} {k : Nat} {g : Hd} (h : (hv ++ b.take k).length = 24) : gQ 1 hb hv b g = gQ 2 [] [] (b.drop k) g := by
  have e : hv ++ b = (hv ++ b.take k) ++ b.drop k := by rw [List.append_assoc, List.take_append_drop]
  unfold gQ
  rw [if_pos rfl, if_neg (by rw [e, List.length_append]; omega), if_neg (by decide), if_pos rfl, List.nil_append, e, List.drop_append_of_le_length (by omega), List.drop_eq_nil_of_le (by omega), List.nil_append]
theorem gQ_head {hb b : List UInt8} {hv : List UInt8} {k : Nat} {g : Hd} (h : (hv ++ b.take k).length = 9) : gQ 2 hb hv b g = gQ 3 (hv ++ b.take k) [] (b.drop k) (hdG (hv ++ b.take k)) := by
  have e : hv ++ b = (hv ++ b.take k) ++ b.drop k := by rw [List.append_assoc, List.take_append_drop]
  unfold gQ
  rw [if_neg (by decide), if_pos rfl, if_neg (by decide), if_neg (by decide), List.nil_append, ← e]
  exact lastH_nine (by rw [e, List.length_append]; omega)
theorem gQ_body {hb b : List UInt8} {hv : List UInt8} {k : Nat} {g : Hd} (h9 : hb.length = 9) (h : (hv ++ b.take k).length = hdN hb) : gQ 3 hb hv b g = gQ 2 [] [] (b.drop k) (hdG hb) := by
  have e : hb ++ (hv ++ b) = (hb ++ (hv ++ b.take k)) ++ b.drop k := by rw [List.append_assoc, List.append_assoc, List.take_append_drop]
  have hn : hdN (hb ++ (hv ++ b)) = hdN hb := hdN_app (by omega)
  have hl : (hb ++ (hv ++ b)).length = 9 + hdN hb + (b.drop k).length := by rw [e, List.length_append, List.length_append, h9, h]
  unfold gQ
  rw [if_neg (by decide), if_neg (by decide), if_neg (by decide), if_pos rfl, List.nil_append, lastH_yes (by omega) (by omega), hdG_app (by omega), hn, e, List.drop_append_of_le_length (by rw [List.length_append]; omega), List.drop_eq_nil_of_le (by rw [List.length_append]; omega), List.nil_append]
def phL (pre : Bool) (p : List UInt8) : Int := if pre = true then 1 else if p.length < 9 then 2 else 3
def hvL (pre : Bool) (p : List UInt8) : List UInt8 := if pre = true then p else if p.length < 9 then p else p.drop 9
def needL (pre : Bool) (p : List UInt8) : Nat := needQ (phL pre p) (p.take 9)
theorem phL_pre {ph : Int} {hb hv : List UInt8} (hp : ph = 1 ∨ ph = 2 ∨ (ph = 3 ∧ hb.length = 9)) (h : hv.length < needQ ph hb) : phL (decide (ph = 1)) (preQ ph hb hv) = ph ∧ hvL (decide (ph = 1)) (preQ ph hb hv) = hv ∧ needL (decide (ph = 1)) (preQ ph hb hv) = needQ ph hb := by
  rcases hp with rfl | rfl | ⟨rfl, h9⟩
  · exact ⟨rfl, rfl, rfl⟩
  · have h2 : hv.length < 9 := h
    have e : preQ 2 hb hv = hv := rfl
    have e1 : phL false hv = 2 := by unfold phL; rw [if_neg (by simp), if_pos h2]
    rw [e]
    refine ⟨e1, ?_, ?_⟩
    · show hvL false hv = hv
      unfold hvL; rw [if_neg (by simp), if_pos h2]
    · show needL false hv = _
      unfold needL; rw [e1]; rfl
  · have e : preQ 3 hb hv = hb ++ hv := rfl
    have hl : ¬ (hb ++ hv).length < 9 := by rw [List.length_append]; omega
    have e1 : phL false (hb ++ hv) = 3 := by unfold phL; rw [if_neg (by simp), if_neg hl]
    rw [e]
    refine ⟨e1, ?_, ?_⟩
    · show hvL false (hb ++ hv) = hv
      unfold hvL; rw [if_neg (by simp), if_neg hl, List.drop_append_of_le_length (by omega), List.drop_eq_nil_of_le (by omega), List.nil_append]
    · show needL false (hb ++ hv) = _
      unfold needL; rw [e1, List.take_append_of_le_length (by omega), List.take_of_length_le (by omega)]
@[go_sem] def frA (f : Fr) : List AV := [i64 f.w, i64 f.t, i64 f.g, i64 f.s, bl f.r, .sl false false (f.b.map byteA)]
@[go_sem] theorem purl_frA (l : List Fr) : purl (l.map frA).flatten = true := purl_map (fun a => by simp [frA, purl, pur]) l
@[go_sem] theorem fz_mapfr {κ : List Nat} {σ : Sto} (l : List Fr) : List.map (fzl κ σ) (l.map frA) = l.map frA := fz_mapg (fun _ => rfl) l
def needI (ph : Int) (hb : List UInt8) : Int := if ph = 1 then 24 else if ph = 2 then 9 else (hdG hb).l
theorem needI_1 (hb : List UInt8) : needI 1 hb = 24 := rfl
theorem needI_2 (hb : List UInt8) : needI 2 hb = 9 := rfl
theorem needI_3 (hb : List UInt8) : needI 3 hb = (hdG hb).l := rfl
theorem phL_t (p : List UInt8) : phL true p = 1 := rfl
theorem hvL_t (p : List UInt8) : hvL true p = p := rfl
theorem phL_f {p : List UInt8} (h : p.length < 9) : phL false p = 2 ∧ hvL false p = p := by
  constructor
  · unfold phL; rw [if_neg (by simp), if_pos h]
  · unfold hvL; rw [if_neg (by simp), if_pos h]
theorem phL_b {h b : List UInt8} (h9 : h.length = 9) : phL false (h ++ b) = 3 ∧ hvL false (h ++ b) = b ∧ needI 3 ((h ++ b).take 9) = (hdG h).l := by
  have hl : ¬ (h ++ b).length < 9 := by rw [List.length_append]; omega
  refine ⟨?_, ?_, ?_⟩
  · unfold phL; rw [if_neg (by simp), if_neg hl]
  · unfold hvL; rw [if_neg (by simp), if_neg hl, List.drop_append_of_le_length (by omega), List.drop_eq_nil_of_le (by omega), List.nil_append]
  · rw [List.take_append_of_le_length (by omega), List.take_of_length_le (by omega)]; rfl
end Go.Proofs.Ytideijigonjohaa
