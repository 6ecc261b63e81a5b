import Derived.Test.YtohbfcmmpaikhaaDoorZ22
import Derived.Test.YtohbfcmmpaikhaaDoorZ20
import Derived.Test.YtohbfcmmpaikhaaDoorLc
import Derived.Test.YtohbfcmmpaikhaaDoorZ10
set_option linter.unusedVariables false
set_option linter.unusedSimpArgs false
namespace Go.Proofs.YtohbfcmmpaikhaaDoor
open Go Go.Lf Go.Proofs
attribute [local irreducible] Lf.rg Lf.ro Lf.PWp Lf.SOp Lf.ACall Lf.Scoped Lf.dg Lf.dw
set_option maxRecDepth 20000
set_option maxHeartbeats 4000000
structure Rw where
 (k i : Int) (nm : ByteArray) (ns : Bool) (vl : ByteArray) (vs : Bool)
def whl (R : List Fl) (n v : ByteArray) (k : Bool) (w : Int) : Bool := plB R n v && !k && decide (w ≠ 1) && decide (w ≠ 2)
def oneR (R : List Fl) (n v : ByteArray) (k : Bool) (w : Int) (nn sn sv : Bool) : Rw := if whl R n v k w = true then ⟨1, plI R n v, ⟨#[]⟩, false, ⟨#[]⟩, false⟩ else if nn = false ∧ nmI R n ≠ 0 then ⟨kdI k w, nmI R n, ⟨#[]⟩, false, v, sv⟩ else ⟨kdI k w, 0, n, sn, v, sv⟩
def oneT (t : DT) (n v : ByteArray) (k : Bool) (w : Int) : DT := if whl t.xs.reverse n v k w = true then t else if kdI k w = 2 then addT t ⟨n, v, k⟩ else t
theorem oneR_w {R : List Fl} {n v : ByteArray} {k : Bool} {w : Int} {nn sn sv : Bool} (h : whl R n v k w = true) : oneR R n v k w nn sn sv = ⟨1, plI R n v, ⟨#[]⟩, false, ⟨#[]⟩, false⟩ := if_pos h
theorem oneT_w {t : DT} {n v : ByteArray} {k : Bool} {w : Int} (h : whl t.xs.reverse n v k w = true) : oneT t n v k w = t := if_pos h
theorem oneR_n {R : List Fl} {n v : ByteArray} {k : Bool} {w : Int} {nn sn sv : Bool} {r : Rw} (h : whl R n v k w = false) (hr : oneR R n v k w nn sn sv = r) : (nn = true ∧ r = ⟨kdI k w, 0, n, sn, v, sv⟩) ∨ (nn = false ∧ nmI R n = 0 ∧ r = ⟨kdI k w, 0, n, sn, v, sv⟩) ∨ (nn = false ∧ nmI R n ≠ 0 ∧ r = ⟨kdI k w, nmI R n, ⟨#[]⟩, false, v, sv⟩) := by
 unfold oneR at hr
 rw [if_neg (by simp [h])] at hr
 cases nn with
 | true => rw [if_neg (by simp)] at hr; exact .inl ⟨rfl, hr.symm⟩
 | false =>
  by_cases h0 : nmI R n = 0
  ·rw [if_neg (by simp [h0])] at hr; exact .inr (.inl ⟨rfl, h0, hr.symm⟩)
  ·rw [if_pos ⟨rfl, h0⟩] at hr; exact .inr (.inr ⟨rfl, h0, hr.symm⟩)
theorem oneT_n {xs : List Fl} {s : Nat} {m : Int} {n v : ByteArray} {k : Bool} {w : Int} {t : DT} (h : whl xs.reverse n v k w = false) (ht : oneT ⟨xs, s, m⟩ n v k w = t) : (kdI k w = 2 ∧ k = false ∧ wt ⟨n, v, k⟩ ≤ m ∧ t = ⟨addX xs m ⟨n, v, k⟩, s + 2, m⟩) ∨ (kdI k w = 2 ∧ k = false ∧ m < wt ⟨n, v, k⟩ ∧ t = ⟨xsE, s + 1, m⟩) ∨ (kdI k w ≠ 2 ∧ t = ⟨xs, s, m⟩) := by
 unfold oneT at ht
 dsimp only at ht
 rw [if_neg (by simp [h])] at ht
 have hk : kdI k w = 2 → k = false := by unfold kdI; cases k <;> simp
 by_cases h2 : kdI k w = 2
 ·rw [if_pos h2] at ht
  unfold addT at ht
  dsimp only at ht
  split at ht
  ·exact .inl ⟨h2, hk h2, by assumption, ht.symm⟩
  ·exact .inr (.inl ⟨h2, hk h2, by omega, ht.symm⟩)
 ·rw [if_neg h2] at ht
  exact .inr (.inr ⟨h2, ht.symm⟩)
theorem whl_t {R : List Fl} {n v : ByteArray} {k : Bool} {w : Int} (h : whl R n v k w = true) : plB R n v = true ∧ k = false ∧ w ≠ 1 ∧ w ≠ 2 := by
 unfold whl at h
 simp only [Bool.and_eq_true, Bool.not_eq_true', decide_eq_true_eq] at h
 exact ⟨h.1.1.1, h.1.1.2, h.1.2, h.2⟩
theorem whl_f {R : List Fl} {n v : ByteArray} {k : Bool} {w : Int} (h : whl R n v k w = false) : ¬ (((plB R n v = true ∧ k = false) ∧ ¬ w = 1) ∧ ¬ w = 2) := by
 rintro ⟨⟨⟨a, b⟩, c⟩, d⟩
 simp [whl, a, b, c, d] at h
theorem nmI_bd (R : List Fl) (s : ByteArray) : 0 ≤ nmI R s ∧ nmI R s ≤ 61 + R.length := by
 have a := stN_bd s
 have b := nameG_bd s R 1 (by decide)
 unfold nmI
 split
 ·omega
 ·split <;> omega
theorem pl_pos {R : List Fl} {n v : ByteArray} (h : plB R n v = true) : 1 ≤ plI R n v := by
 have hb1 := stF_bd n v
 have hb2 := fn_bd R n v
 unfold plB at h
 unfold plI
 by_cases h1 : stFb n v = true
 ·rw [if_pos h1]
  unfold stFb at h1
  unfold stFi
  have := of_decide_eq_true h1
  rw [if_pos this]
  rcases firstUp_is (fdEq n v) 61 with ⟨h, _⟩ | ⟨h, _⟩
  ·exact absurd h this
  ·exact h
 ·rw [if_neg h1, if_pos (by simpa [h1] using h)]; omega
theorem rpl_t {R : List Fl} {n v : ByteArray} (h : plB R n v = true) : rplI R n v = plI R n v ∧ 0 < plI R n v := ⟨if_pos h, pl_pos h⟩
theorem rpl_bd (R : List Fl) (n v : ByteArray) : 0 ≤ rplI R n v ∧ rplI R n v ≤ 61 + R.length := by
 have hb1 := stF_bd n v
 have hb2 := fn_bd R n v
 unfold rplI plI
 split
 ·split
  ·omega
  ·split
   ·omega
   ·split <;> omega
 ·omega
attribute [local irreducible] wt sumW keptL flN addX stAt xsE addT plB plI nmI oneR oneT addL fitN rplI
set_option maxRecDepth 20000 in
theorem one_w_r (xs : List Fl) (s : Nat) (m : Int) (n v : ByteArray) (k : Bool) (w : Int) (nn sn sv : Bool) (h : xs.length ≤ 90000) (hw : whl xs.reverse n v k w = true) : AEq Tryd.prog 70 [.ptr 0 0, .ag [.lit (.string n), .lit (.string v), bl k], .ag [i64 w, bl nn, bl sn, bl sv]] [.box [.row 1 s, i64 (sumW xs), i64 m], .row s 67 3 (xs.map flA)] (.ag [i64 1, i64 (plI xs.reverse n v), .lit (.string ⟨#[]⟩), bl false, .lit (.string ⟨#[]⟩), bl false, i64 0]) [.box [.row 1 s, i64 (sumW xs), i64 m], .row s 67 3 (xs.map flA)] := by
 obtain ⟨hp, rfl, h1, h2⟩ := whl_t hw
 refine acall_body Tryd.func70 rfl Tryd.ntmps70 (by simp) (fun hsc => ?_); simp only [Lf.enter, Nat.reduceAdd]; clear hsc
 have hU := @hp
 repeat' (first | (guard_target =~ PWp _ _ _ _ _ _ _; first | (refine pwp_seq_k (fun K hK => ?_)) | (refine pwp_rg_then ?_) | (refine pwp_ret ?_) | ((refine pwp_cond (by (try simp (disch := omega) only [go_sem, seval, ↓reduceIte, hU]) <;> rfl) (fun hcd => ?_) (fun hcd => ?_)) <;> (try simp only [hcP] at hcd) <;> (try (exfalso; first | omega | exact absurd hcd (by assumption) | exact absurd (by assumption) hcd)))) | (guard_target =~ rg _ _ _ _ _ _ _; first | (guard_target =~ rg _ _ _ (⟨_, .load _ _, _, _, _, none⟩ :: _) _ _ _; first | (refine rg_v rfl (h := ?_))) | (guard_target =~ rg _ _ _ (⟨_, .fieldAddr _ _ _, _, _, _, none⟩ :: _) _ _ _; first | (refine rg_v rfl (h := ?_))) | (guard_target =~ rg _ _ _ (⟨_, .move _, _, _, _, none⟩ :: _) _ _ _; first | (refine rg_v rfl (h := ?_))) | (guard_target =~ rg _ _ _ (⟨_, .store _ _ _, _, _, _, none⟩ :: _) _ _ _; first | (refine rg_s rfl ?_) | (refine rg_n rfl ?_)) | (guard_target =~ rg _ _ _ (⟨_, .build _ _, _, _, _, none⟩ :: _) _ _ _; first | (refine rg_s rfl ?_) | (refine rg_n rfl ?_)) | (guard_target =~ rg _ _ _ (⟨_, .fieldAddr _ _ _, _, _, _, some _⟩ :: _) _ _ _; first | (refine rg_gtp rfl (h := ?_)) | (refine rg_gq rfl (h := ?_))) | (guard_target =~ rg _ _ _ (⟨_, .load _ _, _, _, _, some _⟩ :: _) _ _ _; first | (refine rg_gtp rfl (h := ?_)) | (refine rg_gq rfl (h := ?_))) | (guard_target =~ rg _ _ _ (⟨_, .pick _ _ _, _, _, _, none⟩ :: _) _ _ _; first | (refine rg_v rfl (h := ?_))) | (guard_target =~ rg _ _ _ (⟨_, .extract _ _, _, _, _, none⟩ :: _) _ _ _; first | (refine rg_x rfl (hy := rfl) (h := ?_))) | (guard_target =~ rg _ _ _ (⟨_, .binOp _ _ _ _ _, _, _, _, some _⟩ :: _) _ _ _; first | (refine rg_gtp rfl (h := ?_)) | (refine rg_gq rfl (h := ?_))) | (guard_target =~ rg _ _ _ (⟨_, .alloc _, _, _, _, none⟩ :: _) _ _ _; first | (refine rg_s rfl ?_) | (refine rg_n rfl ?_)) | (guard_target =~ rg _ _ _ (⟨_, .binOp _ _ _ _ _, _, _, _, none⟩ :: _) _ _ _; first | (refine rg_v rfl (h := ?_)) | (refine rg_s rfl ?_) | (refine rg_n rfl ?_)) | (guard_target =~ rg _ _ _ (⟨_, .assign _, _, _, _, none⟩ :: _) _ _ _; first | (refine rg_a rfl (h := ?_))) | (guard_target =~ rg _ _ _ (⟨_, .box _ _, _, _, _, none⟩ :: _) _ _ _; first | (refine rg_s rfl ?_) | (refine rg_n rfl ?_)) | (guard_target =~ rg _ _ _ (⟨_, .call ⟨.value (.func 83), _, _⟩, _, _, _, none⟩ :: _) _ _ _; first | (refine rg_s rfl ?_) | (refine rg_n rfl ?_)) | (guard_target =~ rg _ _ _ (⟨_, .call ⟨.value (.func 90), _, _⟩, _, _, _, none⟩ :: _) _ _ _; first | (refine rg_s rfl ?_) | (refine rg_n rfl ?_)) | (guard_target =~ rg _ _ _ (⟨_, .unOp _ _ _, _, _, _, some _⟩ :: _) _ _ _; first | (refine rg_gtp rfl (h := ?_)) | (refine rg_gq rfl (h := ?_))) | (guard_target =~ rg _ _ _ (⟨_, .call ⟨.value (.func 91), _, _⟩, _, _, _, none⟩ :: _) _ _ _; first | (refine rg_s rfl ?_) | (refine rg_n rfl ?_)) | (guard_target =~ rg _ _ _ (⟨_, .call ⟨.value (.func 92), _, _⟩, _, _, _, none⟩ :: _) _ _ _; first | (refine rg_s rfl ?_) | (refine rg_n rfl ?_)) | (guard_target =~ rg _ _ _ (⟨_, .unOp _ _ _, _, _, _, none⟩ :: _) _ _ _; first | (refine rg_v rfl (h := ?_))) | (guard_target =~ rg _ _ _ [] _ _ _; first | (refine rg_end ?_))) | (guard_target =~ SOp _ _ _ _ _ _; first | (guard_target =~ SOp _ _ ⟨_, .store _ _ _, _, _, _, none⟩ _ _ _; first | (refine n_store rfl (hK := ?_))) | (guard_target =~ SOp _ _ ⟨_, .build _ _, _, _, _, none⟩ _ _ _; first | (refine n_build rfl (by first | exact bd25 | exact bd27 | exact bd67 | exact bd112 | exact bd122 | fail) (hK := ?_))) | (guard_target =~ SOp _ _ ⟨_, .alloc _, _, _, _, none⟩ _ _ _; first | (refine n_alloc rfl (by first | exact zv3 | exact zv4 | exact zv9 | exact zv25 | exact zv27 | exact zv50 | exact zv67 | exact zv69 | exact zv112 | exact zv122 | fail) (hK := ?_))) | (guard_target =~ SOp _ _ ⟨_, .box _ _, _, _, _, none⟩ _ _ _; first | (refine n_box rfl (hK := ?_))) | (guard_target =~ SOp _ _ ⟨_, .call ⟨.value (.func 90), _, _⟩, _, _, _, none⟩ _ _ _; first | (refine n_call (f := 90) rfl Tryd.call90 (h := AEq.sub' [_, _] (hc := pl_is _ _ _ _ _ _ _ (by omega)) (hq := ?_))))) | (guard_target =~ (_ ∨ _) ∧ _; first | ((refine end_q [0, 1] (by first | exact .inr rfl | exact .inl rfl | fail) (by rfl) (by rw [Tryd.results70, Lf.resM1]; (try simp (disch := omega) only [Lf.resOne, go_sem, seval, ↓reduceIte, hU]); rfl) (by (try simp (disch := omega) only [go_sem, seval, ↓reduceIte, hU]) <;> rfl) (by (try simp (disch := omega) only [go_sem, seval, ↓reduceIte, hU]) <;> rfl) (ale_1 ?_) ?_) <;> (try (first | exact ale_eq (by with_reducible rfl) | exact ale_full | exact ale_sl (fun _ => rfl) | exact ale_sl (by simp) | exact ale_junk | exact ale_eq rfl | exact stq (by with_reducible rfl) | exact stq (by rfl) | exact stq (by simp (disch := omega) only [go_sem, seval, ↓reduceIte, hU]))))) | (refine hK _ _ ?_; clear hK K))
 all_goals trace_state
set_option maxRecDepth 20000 in
theorem one_n_r (xs : List Fl) (s : Nat) (m : Int) (n v : ByteArray) (k : Bool) (w : Int) (nn sn sv : Bool) (h : xs.length ≤ 90000) (hS : sumW xs ≤ 2147483647) (hb : ∀ f ∈ xs, f.n.size ≤ 1000000 ∧ f.v.size ≤ 1000000) (hm0 : 0 ≤ m) (hm1 : m ≤ 2147483647) (h1 : n.size ≤ 1000000) (h2 : v.size ≤ 1000000) (hw : whl xs.reverse n v k w = false) (r : Rw) (t : DT) (hr : oneR xs.reverse n v k w nn sn sv = r) (ht : oneT ⟨xs, s, m⟩ n v k w = t) : AEq Tryd.prog 70 [.ptr 0 0, .ag [.lit (.string n), .lit (.string v), bl k], .ag [i64 w, bl nn, bl sn, bl sv]] [.box [.row 1 s, i64 (sumW xs), i64 m], .row s 67 3 (xs.map flA)] (.ag [i64 r.k, i64 r.i, .lit (.string r.nm), bl r.ns, .lit (.string r.vl), bl r.vs, i64 0]) [.box [.row 1 t.s, i64 (sumW t.xs), i64 t.m], .row t.s 67 3 (t.xs.map flA)] := by
 have hbig : ∀ f ∈ xs, f.n.size ≤ 1000000000 ∧ f.v.size ≤ 1000000000 := fun f hf => by have := hb f hf; omega
 have hax := addX_is xs m ⟨n, v, k⟩
 have hno := whl_f hw
 rcases oneR_n hw hr with ⟨rfl, rfl⟩ | ⟨rfl, hz, rfl⟩ | ⟨rfl, hz, rfl⟩
 all_goals rcases oneT_n hw ht with ⟨hk, hkf, hwt, rfl⟩ | ⟨hk, hkf, hwt, rfl⟩ | ⟨hk, rfl⟩
 all_goals clear hr ht
 all_goals dsimp only
 all_goals (refine acall_body Tryd.func70 rfl Tryd.ntmps70 (by simp) (fun hsc => ?_); simp only [Lf.enter, Nat.reduceAdd]; clear hsc)
 all_goals (have hU := @hax)
 all_goals (repeat' (first | (guard_target =~ PWp _ _ _ _ _ _ _; first | (refine pwp_draw_ord (id := 4) [9, 0, 1, 2, 3, 4, 5, 6, 7, 8, 10] [9, 10] mixed (by kernel_rfl) (by kernel_rfl) ?_) | (refine pwp_seq_k (fun K hK => ?_)) | (refine pwp_rg_then ?_) | (refine pwp_ret ?_) | (refine pwp_skip ?_) | ((refine pwp_cond (by (try simp (disch := omega) only [go_sem, seval, ↓reduceIte, hU]) <;> rfl) (fun hcd => ?_) (fun hcd => ?_)) <;> (try simp only [hcP] at hcd) <;> (try (exfalso; first | omega | exact absurd hcd (by assumption) | exact absurd (by assumption) hcd)))) | (guard_target =~ rg _ _ _ _ _ _ _; first | (guard_target =~ rg _ _ _ (⟨_, .load _ _, _, _, _, none⟩ :: _) _ _ _; first | (refine rg_v rfl (h := ?_))) | (guard_target =~ rg _ _ _ (⟨_, .fieldAddr _ _ _, _, _, _, none⟩ :: _) _ _ _; first | (refine rg_v rfl (h := ?_))) | (guard_target =~ rg _ _ _ (⟨_, .move _, _, _, _, none⟩ :: _) _ _ _; first | (refine rg_v rfl (h := ?_))) | (guard_target =~ rg _ _ _ (⟨_, .store _ _ _, _, _, _, none⟩ :: _) _ _ _; first | (refine rg_s rfl ?_) | (refine rg_n rfl ?_)) | (guard_target =~ rg _ _ _ (⟨_, .build _ _, _, _, _, none⟩ :: _) _ _ _; first | (refine rg_s rfl ?_) | (refine rg_n rfl ?_)) | (guard_target =~ rg _ _ _ (⟨_, .fieldAddr _ _ _, _, _, _, some _⟩ :: _) _ _ _; first | (refine rg_gq rfl (h := ?_))) | (guard_target =~ rg _ _ _ (⟨_, .load _ _, _, _, _, some _⟩ :: _) _ _ _; first | (refine rg_gq rfl (h := ?_))) | (guard_target =~ rg _ _ _ (⟨_, .pick _ _ _, _, _, _, none⟩ :: _) _ _ _; first | (refine rg_v rfl (h := ?_))) | (guard_target =~ rg _ _ _ (⟨_, .extract _ _, _, _, _, none⟩ :: _) _ _ _; first | (refine rg_x rfl (hy := rfl) (h := ?_))) | (guard_target =~ rg _ _ _ (⟨_, .binOp _ _ _ _ _, _, _, _, some _⟩ :: _) _ _ _; first | (refine rg_gq rfl (h := ?_))) | (guard_target =~ rg _ _ _ (⟨_, .alloc _, _, _, _, none⟩ :: _) _ _ _; first | (refine rg_s rfl ?_) | (refine rg_n rfl ?_)) | (guard_target =~ rg _ _ _ (⟨_, .binOp _ _ _ _ _, _, _, _, none⟩ :: _) _ _ _; first | (refine rg_v rfl (h := ?_)) | (refine rg_s rfl ?_) | (refine rg_n rfl ?_)) | (guard_target =~ rg _ _ _ (⟨_, .assign _, _, _, _, none⟩ :: _) _ _ _; first | (refine rg_a rfl (h := ?_))) | (guard_target =~ rg _ _ _ (⟨_, .box _ _, _, _, _, none⟩ :: _) _ _ _; first | (refine rg_s rfl ?_) | (refine rg_n rfl ?_)) | (guard_target =~ rg _ _ _ (⟨_, .call ⟨.value (.func 83), _, _⟩, _, _, _, none⟩ :: _) _ _ _; first | (refine rg_s rfl ?_) | (refine rg_n rfl ?_)) | (guard_target =~ rg _ _ _ (⟨_, .call ⟨.value (.func 90), _, _⟩, _, _, _, none⟩ :: _) _ _ _; first | (refine rg_s rfl ?_) | (refine rg_n rfl ?_)) | (guard_target =~ rg _ _ _ (⟨_, .unOp _ _ _, _, _, _, some _⟩ :: _) _ _ _; first | (refine rg_gq rfl (h := ?_))) | (guard_target =~ rg _ _ _ (⟨_, .call ⟨.value (.func 91), _, _⟩, _, _, _, none⟩ :: _) _ _ _; first | (refine rg_s rfl ?_) | (refine rg_n rfl ?_)) | (guard_target =~ rg _ _ _ (⟨_, .call ⟨.value (.func 92), _, _⟩, _, _, _, none⟩ :: _) _ _ _; first | (refine rg_s rfl ?_) | (refine rg_n rfl ?_)) | (guard_target =~ rg _ _ _ (⟨_, .unOp _ _ _, _, _, _, none⟩ :: _) _ _ _; first | (refine rg_v rfl (h := ?_))) | (guard_target =~ rg _ _ _ [] _ _ _; first | (refine rg_end ?_))) | (guard_target =~ SOp _ _ _ _ _ _; first | (guard_target =~ SOp _ _ ⟨_, .store _ _ _, _, _, _, none⟩ _ _ _; first | (refine n_store rfl (hK := ?_))) | (guard_target =~ SOp _ _ ⟨_, .build _ _, _, _, _, none⟩ _ _ _; first | (refine n_build rfl (by first | exact bd25 | exact bd27 | exact bd67 | exact bd112 | exact bd122 | fail) (hK := ?_))) | (guard_target =~ SOp _ _ ⟨_, .alloc _, _, _, _, none⟩ _ _ _; first | (refine n_alloc rfl (by first | exact zv3 | exact zv4 | exact zv9 | exact zv25 | exact zv27 | exact zv50 | exact zv67 | exact zv69 | exact zv112 | exact zv122 | fail) (hK := ?_))) | (guard_target =~ SOp _ _ ⟨_, .box _ _, _, _, _, none⟩ _ _ _; first | (refine n_box rfl (hK := ?_))) | (guard_target =~ SOp _ _ ⟨_, .call ⟨.value (.func 83), _, _⟩, _, _, _, none⟩ _ _ _; first | (refine n_call (f := 83) rfl Tryd.call83 (h := AEq.sub' [_, _] (hc := t_add_bigc _ _ _ _ _ _ (by first | assumption | omega) (by first | assumption | omega) (by first | assumption | omega) (by first | assumption | omega) (by first | assumption | omega) (by first | assumption | omega) (by first | assumption | omega)) (hq := ?_))) | (refine n_call (f := 83) rfl Tryd.call83 (h := AEq.sub' [_, _] (hc := t_add_c _ _ _ _ _ _ (by first | assumption | omega) (by first | assumption | omega) (by first | assumption | omega) (by first | assumption | omega) (by first | assumption | omega) (by first | assumption | omega) (by first | assumption | omega)) (hq := ?_)))) | (guard_target =~ SOp _ _ ⟨_, .call ⟨.value (.func 90), _, _⟩, _, _, _, none⟩ _ _ _; first | (refine n_call (f := 90) rfl Tryd.call90 (h := AEq.sub' [_, _] (hc := pl_is _ _ _ _ _ _ _ (by first | assumption | omega)) (hq := ?_)))) | (guard_target =~ SOp _ _ ⟨_, .call ⟨.value (.func 92), _, _⟩, _, _, _, none⟩ _ _ _; first | (refine n_call (f := 92) rfl Tryd.call92 (h := AEq.sub' [_, _] (hc := nm_is _ _ _ _ _ (by first | assumption | omega)) (hq := ?_))))) | (guard_target =~ dw _ _ _ _ _ _ _ _ _ _; first | ((first | guard_target =~ dw _ _ _ _ _ (0 :: _) _ _ _ _ | guard_target =~ dw _ _ _ _ _ (1 :: _) _ _ _ _ | guard_target =~ dw _ _ _ _ _ (4 :: _) _ _ _ _ | guard_target =~ dw _ _ _ _ _ (6 :: _) _ _ _ _); first | (refine dw_m rfl rfl (h := ro_v rfl (h := ro_end ⟨rfl, rfl⟩)) (h2 := allS_one (ro_v rfl (by first | (simp (disch := omega) only [go_sem, seval, ↓reduceIte, hU]; done) | rfl) (ro_end ⟨rfl, rfl⟩))) (hk := ?_))) | (guard_target =~ dw _ _ _ _ _ (2 :: _) _ _ _ _; first | (refine dw_p rfl rfl (h := (fun τ => ro_s (h := n_call (f := 91) rfl Tryd.call91 (h := AEq.pure' (by first | ((repeat' (first | exact trivial | (first | exact arg_lit | exact arg_sl id id | exact arg_nil | exact arg_sl (by simp) id | exact arg_sl (by simp) (fun _ => rfl) | exact arg_row_m (by rfl) (by rfl) (fun _ => rfl) | exact arg_vw_m (by rfl) (by rfl) (fun _ => rfl) | exact arg_rn (by rfl) (by rfl) | exact arg_junk | exact arg_row_mm (by rfl) (by rfl) (fun _ => rfl)) | refine ⟨?_, ?_⟩)); done) | fail) (ekind _ _ _ _ _ _ _) (hq := ro_end ⟨rfl, rfl⟩))))) (hk := ?_))) | ((first | guard_target =~ dw _ _ _ _ _ (3 :: _) _ _ _ _ | guard_target =~ dw _ _ _ _ _ (5 :: _) _ _ _ _); first | (refine dw_m rfl rfl (h := ro_v rfl (h := ro_end ⟨rfl, rfl⟩)) (h2 := allS_one (ro_v rfl (by first | (simp (disch := omega) only [go_sem, seval, ↓reduceIte, hU]; done) | rfl) (ro_end ⟨rfl, rfl⟩))) (hk := ?_))) | ((first | guard_target =~ dw _ _ _ _ _ (7 :: _) _ _ _ _ | guard_target =~ dw _ _ _ _ _ (8 :: _) _ _ _ _); first | (refine dw_p rfl rfl (h := (fun τ => ro_s (h := n_build rfl (by first | exact bd25 | exact bd27 | exact bd67 | exact bd112 | exact bd122 | fail) (hK := ro_end ⟨rfl, rfl⟩)))) (hk := ?_))) | (guard_target =~ dw _ _ _ _ _ (9 :: _) _ _ _ _; first | (refine dw_w rfl rfl (h := ro_s (h := n_alloc rfl (by first | exact zv3 | exact zv4 | exact zv9 | exact zv25 | exact zv27 | exact zv50 | exact zv67 | exact zv69 | exact zv112 | exact zv122 | fail) (hK := ro_end ⟨rfl, rfl⟩))) (hk := ?_))) | (guard_target =~ dw _ _ _ _ _ (10 :: _) _ _ _ _; first | (refine dw_wn rfl rfl (h := ro_n (h := n_store rfl (hK := ro_end ⟨rfl, rfl⟩))) (hk := ?_))) | (guard_target =~ dw _ _ _ _ _ [] _ _ _ _; first | (refine dw_nil ?_))) | (guard_target =~ (_ ∨ _) ∧ _; first | ((refine end_q [0, 1] (by first | exact .inr rfl | exact .inl rfl | fail) (by rfl) (by rw [Tryd.results70, Lf.resM1]; (try simp (disch := omega) only [Lf.resOne, go_sem, seval, ↓reduceIte, hU]); rfl) (by (try simp (disch := omega) only [go_sem, seval, ↓reduceIte, hU]) <;> rfl) (by (try simp (disch := omega) only [go_sem, seval, ↓reduceIte, hU]) <;> rfl) (ale_1 ?_) ?_) <;> (try (first | exact ale_eq (by with_reducible rfl) | exact ale_full | exact ale_sl (fun _ => rfl) | exact ale_sl (by simp) | exact ale_junk | exact ale_eq rfl | exact stq (by with_reducible rfl) | exact stq (by rfl) | exact stq (by simp (disch := omega) only [go_sem, seval, ↓reduceIte, hU]))))) | (refine hK _ _ ?_; clear hK K)))
 all_goals first | exact ale_eq (by rw [hz]) | trace_state
theorem one_is (xs : List Fl) (s : Nat) (m : Int) (n v : ByteArray) (k : Bool) (w : Int) (nn sn sv : Bool) (h : xs.length ≤ 90000) (hS : sumW xs ≤ 2147483647) (hb : ∀ f ∈ xs, f.n.size ≤ 1000000 ∧ f.v.size ≤ 1000000) (hm0 : 0 ≤ m) (hm1 : m ≤ 2147483647) (h1 : n.size ≤ 1000000) (h2 : v.size ≤ 1000000) (r : Rw) (t : DT) (hr : oneR xs.reverse n v k w nn sn sv = r) (ht : oneT ⟨xs, s, m⟩ n v k w = t) : AEq Tryd.prog 70 [.ptr 0 0, .ag [.lit (.string n), .lit (.string v), bl k], .ag [i64 w, bl nn, bl sn, bl sv]] [.box [.row 1 s, i64 (sumW xs), i64 m], .row s 67 3 (xs.map flA)] (.ag [i64 r.k, i64 r.i, .lit (.string r.nm), bl r.ns, .lit (.string r.vl), bl r.vs, i64 0]) [.box [.row 1 t.s, i64 (sumW t.xs), i64 t.m], .row t.s 67 3 (t.xs.map flA)] := by
 cases hw : whl xs.reverse n v k w with
 | true =>
  rw [oneR_w hw] at hr
  rw [oneT_w hw] at ht
  subst hr
  subst ht
  exact one_w_r xs s m n v k w nn sn sv h hw
 | false => exact one_n_r xs s m n v k w nn sn sv h hS hb hm0 hm1 h1 h2 hw r t hr ht
end Go.Proofs.YtohbfcmmpaikhaaDoor

set_option linter.unusedVariables false
set_option linter.unusedSimpArgs false
namespace Go.Proofs.YtohbfcmmpaikhaaDoor
open Go Go.Lf Go.Proofs
attribute [local irreducible] Lf.rg Lf.ro Lf.PWp Lf.SOp Lf.ACall Lf.Scoped Lf.dg Lf.dw
set_option maxRecDepth 20000
set_option maxHeartbeats 4000000
def ofB (b : ByteArray) : List UInt8 := b.data.toList
theorem ofB_sz (b : ByteArray) : (ofB b).length = b.size := by unfold ofB; rw [Array.length_toList]; rfl
theorem ofB_mk (b : ByteArray) : (⟨(ofB b).toArray⟩ : ByteArray) = b := by cases b; rfl
def rwB (r : Rw) : List UInt8 := rpB r.k r.i (ofB r.nm) r.ns (ofB r.vl) r.vs 0
def rszB (z : Int) : List UInt8 := rpB 5 0 [] false [] false z
def RwOk (r : Rw) : Prop := RP r.k r.i (ofB r.nm) r.ns (ofB r.vl) r.vs 0 ∧ r.nm.size ≤ 1000 ∧ r.vl.size ≤ 1000
theorem pl_bd {R : List Fl} {n v : ByteArray} (h : plB R n v = true) : plI R n v ≤ 61 + R.length := by
 have a := rpl_bd R n v
 rw [(rpl_t h).1] at a
 exact a.2
theorem kdI_cs (k : Bool) (w : Int) : kdI k w = 2 ∨ kdI k w = 3 ∨ kdI k w = 4 := by
 unfold kdI; split
 ·omega
 ·split <;> omega
theorem oneR_ok {R : List Fl} {n v : ByteArray} {k : Bool} {w : Int} {nn sn sv : Bool} {r : Rw} (hr : oneR R n v k w nn sn sv = r) (h : R.length ≤ 100000) (h1 : n.size ≤ 1000) (h2 : v.size ≤ 1000) : RwOk r := by
 have hk := kdI_cs k w
 have hb := nmI_bd R n
 have e0 : ((0 : Int) ≤ 0 ∧ (0 : Int) ≤ 2147483647) := by decide
 have ez : (⟨#[]⟩ : ByteArray).size ≤ 1000 := by decide
 cases hw : whl R n v k w with
 | true =>
  rw [oneR_w hw] at hr
  subst hr
  have hp := (whl_t hw).1
  have a := pl_pos hp
  have b := pl_bd hp
  exact ⟨⟨⟨by dsimp only; omega, by dsimp only; omega⟩, ⟨by dsimp only; omega, by dsimp only; omega⟩, e0, .inr (.inl ⟨rfl, rfl, by dsimp only; omega, ⟨rfl, rfl⟩, ⟨rfl, rfl⟩⟩)⟩, ez, ez⟩
 | false =>
  rcases oneR_n hw hr with ⟨_, rfl⟩ | ⟨_, hz, rfl⟩ | ⟨_, hz, rfl⟩
  ·exact ⟨⟨⟨by dsimp only; omega, by dsimp only; omega⟩, e0, e0, .inr (.inr ⟨by dsimp only; omega, by dsimp only; omega, rfl, .inl rfl⟩)⟩, h1, h2⟩
  ·exact ⟨⟨⟨by dsimp only; omega, by dsimp only; omega⟩, e0, e0, .inr (.inr ⟨by dsimp only; omega, by dsimp only; omega, rfl, .inl rfl⟩)⟩, h1, h2⟩
  ·exact ⟨⟨⟨by dsimp only; omega, by dsimp only; omega⟩, ⟨by dsimp only; omega, by dsimp only; omega⟩, e0, .inr (.inr ⟨by dsimp only; omega, by dsimp only; omega, rfl, .inr ⟨rfl, rfl⟩⟩)⟩, ez, h2⟩
theorem rpB_ln (k i : Int) (nm : List UInt8) (ns : Bool) (vl : List UInt8) (vs : Bool) (sz : Int) : 1 ≤ (rpB k i nm ns vl vs sz).length ∧ (rpB k i nm ns vl vs sz).length ≤ 4 * nm.length + 4 * vl.length + 18 := by
 have a := pfxP_len (frI k) (biI k) (i + sz)
 have b := slP_ln ns nm
 have c := slP_ln vs vl
 unfold rpB
 rw [List.length_append]
 split
 ·rw [List.length_append]
  split
  ·omega
  ·rw [List.length_nil]; omega
 ·rw [List.length_nil]; omega
theorem rwB_ln {r : Rw} (h : RwOk r) : 1 ≤ (rwB r).length ∧ (rwB r).length ≤ 8018 := by
 have a := rpB_ln r.k r.i (ofB r.nm) r.ns (ofB r.vl) r.vs 0
 rw [ofB_sz, ofB_sz] at a
 obtain ⟨_, h1, h2⟩ := h
 unfold rwB
 omega
theorem rszB_ln (z : Int) : 1 ≤ (rszB z).length ∧ (rszB z).length ≤ 18 := by
 have a := rpB_ln 5 0 [] false [] false z
 unfold rszB
 simpa using a
structure EQ where
 (o : List UInt8) (t : DT)
def catB (a b : List UInt8) : List UInt8 := a ++ b
def eRes (q : EQ) (z : Int) : EQ := ⟨catB q.o (rszB z), ⟨keptL q.t.xs z, q.t.s + 1, z⟩⟩
def eResL : List Int → EQ → EQ
 | [], q => q
 | z :: l, q => eResL l (eRes q z)
def op0 : Op4 := ⟨0, false, false, false⟩
def opAt (how : List Op4) (i : Nat) : Op4 := match how[i % how.length]? with | some o => o | none => op0
def eFld (q : EQ) (f : Fl) (o : Op4) : EQ := ⟨catB q.o (rwB (oneR q.t.xs.reverse f.n f.v f.k o.w o.nn o.sn o.sv)), oneT q.t f.n f.v f.k o.w⟩
def eFldL (how : List Op4) : List Fl → Nat → EQ → EQ
 | [], _, q => q
 | f :: l, i, q => eFldL how l (i + 1) (eFld q f (opAt how i))
def encM (sizes : List Int) (l : List Fl) (how : List Op4) (t : DT) : EQ := eFldL how l 0 (eResL sizes ⟨[], t⟩)
theorem opAt_0 {i : Nat} : opAt [] i = ⟨0, false, false, false⟩ := rfl
theorem opAt_some {how : List Op4} {i : Nat} {o : Op4} (h : how[i % how.length]? = some o) : opAt how i = o := by unfold opAt; rw [h]
theorem oneT_ok {t t' : DT} {n v : ByteArray} {k : Bool} {w : Int} (ht : oneT t n v k w = t') (h : TOk t) (h1 : n.size ≤ 1000000) (h2 : v.size ≤ 1000000) : TOk t' ∧ t'.xs.length ≤ t.xs.length + 1 ∧ t'.m = t.m := by
 subst ht
 unfold oneT
 split
 ·exact ⟨h, by omega, rfl⟩
 ·split
  ·exact addT_ok (f := ⟨n, v, k⟩) h h1 h2
  ·exact ⟨h, by omega, rfl⟩
theorem res_ok {t : DT} {z : Int} (h : TOk t) (h1 : 0 ≤ z) (h2 : z ≤ 2147483647) : TOk ⟨keptL t.xs z, t.s + 1, z⟩ ∧ (keptL t.xs z).length ≤ t.xs.length :=
 ⟨⟨keptL_sum _ h1 _, h1, h2, fun f hf => h.2.2.2 f (keptL_mem _ _ f hf)⟩, keptL_len _ _⟩
theorem eResL_ok : ∀ (l : List Int) (q Q : EQ), eResL l q = Q → TOk q.t → (∀ z ∈ l, 0 ≤ z ∧ z ≤ 2147483647) → TOk Q.t ∧ Q.t.xs.length ≤ q.t.xs.length ∧ Q.o.length ≤ q.o.length + 18 * l.length
 | [], q, Q, h, ht, hz => by subst h; exact ⟨ht, Nat.le_refl _, by rw [List.length_nil, eResL]; omega⟩
 | z :: l, q, Q, h, ht, hz => by
  have hz1 := hz z List.mem_cons_self
  obtain ⟨a, b⟩ := res_ok (z := z) ht hz1.1 hz1.2
  obtain ⟨c, d, e⟩ := eResL_ok l (eRes q z) Q h a (fun y hy => hz y (List.mem_cons_of_mem _ hy))
  have hl := rszB_ln z
  have e1 : (eRes q z).o.length = q.o.length + (rszB z).length := List.length_append
  have e2 : (eRes q z).t.xs.length = (keptL q.t.xs z).length := rfl
  rw [List.length_cons]
  exact ⟨c, by omega, by omega⟩
theorem eFldL_ok (how : List Op4) : ∀ (l : List Fl) (i : Nat) (q Q : EQ), eFldL how l i q = Q → TOk q.t → q.t.xs.length + l.length ≤ 100000 → (∀ f ∈ l, f.n.size ≤ 1000 ∧ f.v.size ≤ 1000) → TOk Q.t ∧ Q.t.xs.length ≤ q.t.xs.length + l.length ∧ Q.o.length ≤ q.o.length + 8018 * l.length ∧ Q.t.m = q.t.m
 | [], i, q, Q, h, ht, hx, hz => by subst h; exact ⟨ht, by rw [List.length_nil, eFldL]; omega, by rw [List.length_nil, eFldL]; omega, rfl⟩
 | f :: l, i, q, Q, h, ht, hx, hz => by
  have hz1 := hz f List.mem_cons_self
  rw [List.length_cons] at hx
  obtain ⟨a, b, c⟩ := oneT_ok (t := q.t) (n := f.n) (v := f.v) (k := f.k) (w := (opAt how i).w) rfl ht (by omega) (by omega)
  have hr := oneR_ok (R := q.t.xs.reverse) (n := f.n) (v := f.v) (k := f.k) (w := (opAt how i).w) (nn := (opAt how i).nn) (sn := (opAt how i).sn) (sv := (opAt how i).sv) rfl (by rw [List.length_reverse]; omega) hz1.1 hz1.2
  have hl := rwB_ln hr
  have e1 : (eFld q f (opAt how i)).o.length = q.o.length + (rwB (oneR q.t.xs.reverse f.n f.v f.k (opAt how i).w (opAt how i).nn (opAt how i).sn (opAt how i).sv)).length := List.length_append
  have e2 : (eFld q f (opAt how i)).t = oneT q.t f.n f.v f.k (opAt how i).w := rfl
  obtain ⟨d, e, g, m⟩ := eFldL_ok how l (i + 1) (eFld q f (opAt how i)) Q h (by rw [e2]; exact a) (by rw [e2]; omega) (fun y hy => hz y (List.mem_cons_of_mem _ hy))
  rw [e2] at e m
  rw [List.length_cons]
  exact ⟨d, by omega, by omega, by omega⟩
attribute [local irreducible] rpB
theorem pput_w (k i : Int) (nm : ByteArray) (ns : Bool) (vl : ByteArray) (vs : Bool) (h : RwOk ⟨k, i, nm, ns, vl, vs⟩) : AEq Tryd.prog 16 [.ag [i64 k, i64 i, .lit (.string nm), bl ns, .lit (.string vl), bl vs, i64 0]] [] (.tu [.sl false false ((rwB ⟨k, i, nm, ns, vl, vs⟩).map byteA), i64 0]) [] := by
 have h2 := pput_ok k i (ofB nm) ns (ofB vl) vs 0 (by rw [ofB_sz]; have := h.2.1; dsimp only at this; omega) (by rw [ofB_sz]; have := h.2.2; dsimp only at this; omega) h.1
 rw [ofB_mk, ofB_mk] at h2
 exact h2
theorem pput_z (z : Int) (h1 : 0 ≤ z) (h2 : z ≤ 2147483647) : AEq Tryd.prog 16 [.ag [i64 5, i64 0, .lit (.string ⟨#[]⟩), bl false, .lit (.string ⟨#[]⟩), bl false, i64 z]] [] (.tu [.sl false false ((rszB z).map byteA), i64 0]) [] :=
 pput_ok 5 0 [] false [] false z (by decide) (by decide) ⟨by decide, by decide, ⟨h1, h2⟩, .inl ⟨rfl, rfl, ⟨rfl, rfl⟩, ⟨rfl, rfl⟩⟩⟩
end Go.Proofs.YtohbfcmmpaikhaaDoor

