import Derived.Test.YtohbfcmmpaikhaaDoorZ25
import Derived.Test.YtohbfcmmpaikhaaDoorZ21
import Derived.Test.YtohbfcmmpaikhaaDoorLc
import Derived.Test.YtohbfcmmpaikhaaDoorZ13
set_option linter.unusedVariables false
set_option linter.unusedSimpArgs false
namespace Go.Proofs.YtohbfcmmpaikhaaDoor
open Go Go.Lf Go.Proofs
attribute [local irreducible] Lf.rg Lf.ro Lf.PWp Lf.SOp Lf.ACall Lf.Scoped Lf.dg Lf.dw
set_option maxRecDepth 20000
set_option maxHeartbeats 4000000
def fmg : Fl := ⟨⟨#[58, 109, 101, 116, 104, 111, 100]⟩, ⟨#[71, 69, 84]⟩, false⟩
def mgL : List Fl := [fmg]
def w130 : List UInt8 := [130]
theorem w130_len : w130.length = 1 := rfl
theorem mgL_len : mgL.length = 1 := rfl
theorem mgL_sz : ∀ f ∈ mgL, f.n.size ≤ 1000 ∧ f.v.size ≤ 1000 := by
 intro f hf
 obtain rfl := List.mem_singleton.1 hf
 exact ⟨by decide, by decide⟩
theorem wantL_sz : ∀ f ∈ wantL, f.n.size ≤ 1000 ∧ f.v.size ≤ 1000 := by
 intro f hf
 obtain rfl := List.mem_singleton.1 hf
 exact ⟨by decide, by decide⟩
theorem al_e1 : encM [] mgL [] ⟨xsE, 0, 100⟩ = ⟨w130, ⟨xsE, 0, 100⟩⟩ := by kernel_rfl
theorem al_e2 : encM [] wantL [] ⟨xsE, 0, 100⟩ = ⟨w5, ⟨wantL, 2, 100⟩⟩ := by kernel_rfl
theorem al_e3 : encM [] wantL [] ⟨wantL, 2, 100⟩ = ⟨w190, ⟨wantL, 2, 100⟩⟩ := by kernel_rfl
theorem al_t1 : TOk ⟨xsE, 0, 100⟩ := ⟨by decide, by decide, by decide, xsE_size⟩
theorem al_t2 : TOk ⟨wantL, 2, 100⟩ := ⟨by decide, by decide, by decide, wantL_size⟩
attribute [local irreducible] wt sumW encM xsE TOk
theorem alive24 : AEq Tryd.prog 35 [] [] (bl true) [] := by
 have h1 := w5_len
 have h2 := w190_len
 have h3 := w130_len
 have h4 := wantL_len
 have h5 := mgL_len
 have h6 := mgL_sz
 have h7 := wantL_sz
 have h8 := xsE_len
 have h9 := al_t1
 have h10 := al_t2
 have e1 := al_e1
 have e2 := al_e2
 have e3 := al_e3
 refine acall_body Tryd.func35 rfl Tryd.ntmps35 (by simp) (fun hsc => ?_); simp only [Lf.enter, Nat.reduceAdd]; clear hsc
 have hU := True.intro
 repeat' (first | (guard_target =~ PWp _ _ _ _ _ _ _; first | (refine pwp_seq_k (fun K hK => ?_)) | (refine pwp_rg_then ?_) | (refine pwp_ret ?_)) | (guard_target =~ rg _ _ _ _ _ _ _; first | (guard_target =~ rg _ _ _ (⟨_, .move _, _, _, _, some _⟩ :: _) _ _ _; first | (refine rg_gtp rfl (h := ?_)) | (refine rg_gt rfl (h := ?_))) | (guard_target =~ rg _ _ _ (⟨_, .buildSlice _ _ _, _, _, _, some _⟩ :: _) _ _ _; first | (refine rg_gtp rfl (h := ?_)) | (refine rg_gt rfl (h := ?_))) | (guard_target =~ rg _ _ _ (⟨_, .call ⟨.value (.func 19), _, _⟩, _, _, _, some _⟩ :: _) _ _ _; first | (refine rg_gtp rfl (h := ?_)) | (refine rg_gt rfl (h := ?_))) | (guard_target =~ rg _ _ _ (⟨_, .binOp _ _ _ _ _, _, _, _, some _⟩ :: _) _ _ _; first | (refine rg_gtp rfl (h := ?_)) | (refine rg_gt rfl (h := ?_))) | (guard_target =~ rg _ _ _ [] _ _ _; first | (refine rg_end ?_)) | (refine rg_a rfl (h := ?_)) | (refine rg_x rfl (hy := rfl) (h := ?_)) | (refine rg_v rfl (h := ?_)) | (refine rg_s rfl ?_)) | (guard_target =~ SOp _ _ _ _ _ _; first | (guard_target =~ SOp _ _ ⟨_, .buildSlice _ _ _, _, _, _, some _⟩ _ _ _; first | (refine n_lit (xs := List.map (byteA) (w5)) rfl (he := by first | exact eo3 | exact eo4 | exact eo5 | exact eo9 | exact eo22 | exact eo28 | exact eo50 | exact eo53 | exact eo67 | exact eo69 | exact eo74 | exact eo81 | exact eo87 | exact eo112 | exact eo122 | fail) (hc := by first | rfl | assumption | (simp (disch := omega) only [go_sem, seval, ↓reduceIte, hU]; rfl)) (hK := ?_)) | (refine n_lit (xs := List.map (byteA) (w190)) rfl (he := by first | exact eo3 | exact eo4 | exact eo5 | exact eo9 | exact eo22 | exact eo28 | exact eo50 | exact eo53 | exact eo67 | exact eo69 | exact eo74 | exact eo81 | exact eo87 | exact eo112 | exact eo122 | fail) (hc := by first | rfl | assumption | (simp (disch := omega) only [go_sem, seval, ↓reduceIte, hU]; rfl)) (hK := ?_)) | (refine n_lit (xs := List.map (byteA) (w130)) rfl (he := by first | exact eo3 | exact eo4 | exact eo5 | exact eo9 | exact eo22 | exact eo28 | exact eo50 | exact eo53 | exact eo67 | exact eo69 | exact eo74 | exact eo81 | exact eo87 | exact eo112 | exact eo122 | fail) (hc := by first | rfl | assumption | (simp (disch := omega) only [go_sem, seval, ↓reduceIte, hU]; rfl)) (hK := ?_)) | (refine n_lit (xs := List.map (flA) (wantL)) rfl (he := by first | exact eo3 | exact eo4 | exact eo5 | exact eo9 | exact eo22 | exact eo28 | exact eo50 | exact eo53 | exact eo67 | exact eo69 | exact eo74 | exact eo81 | exact eo87 | exact eo112 | exact eo122 | fail) (hc := by first | rfl | assumption | (simp (disch := omega) only [go_sem, seval, ↓reduceIte, hU]; rfl)) (hK := ?_)) | (refine n_lit (xs := List.map (flA) (mgL)) rfl (he := by first | exact eo3 | exact eo4 | exact eo5 | exact eo9 | exact eo22 | exact eo28 | exact eo50 | exact eo53 | exact eo67 | exact eo69 | exact eo74 | exact eo81 | exact eo87 | exact eo112 | exact eo122 | fail) (hc := by first | rfl | assumption | (simp (disch := omega) only [go_sem, seval, ↓reduceIte, hU]; rfl)) (hK := ?_))) | (guard_target =~ SOp _ _ ⟨_, .call ⟨.value (.func 19), _, _⟩, _, _, _, some _⟩ _ _ _; first | (refine n_call (f := 19) rfl Tryd.call19 (h := AEq.pure' (by first | ((repeat' (first | exact trivial | (first | exact arg_lit | exact arg_sl id id | exact arg_nil | exact arg_sl (by simp) id | exact arg_sl (by simp) (fun _ => rfl) | exact arg_row_m (by rfl) (by rfl) (fun _ => rfl) | exact arg_vw_m (by rfl) (by rfl) (fun _ => rfl) | exact arg_rn (by rfl) (by rfl) | exact arg_junk | exact arg_row_mm (by rfl) (by rfl) (fun _ => rfl)) | refine ⟨?_, ?_⟩)); done) | fail) (same_self _ _ _ _ _ (by first | assumption | omega)) (hq := ?_)))) | (guard_target =~ SOp _ _ ⟨_, .call ⟨.value (.func 37), _, _⟩, _, _, _, none⟩ _ _ _; first | (refine n_call (f := 37) rfl Tryd.call37 (h := AEq.sub' [_, _, _] (hc := enc_al _ _ _ (by first | assumption | omega) (by first | assumption | omega) _ _ _ (by first | assumption | omega) (by first | assumption | omega) _ _ _ _ (by first | assumption | omega)) (hq := ?_)))) | (guard_target =~ SOp _ _ ⟨_, .buildSlice _ _ _, _, _, _, none⟩ _ _ _; first | (refine n_lit (xs := List.map (byteA) (w5)) rfl (he := by first | exact eo3 | exact eo4 | exact eo5 | exact eo9 | exact eo22 | exact eo28 | exact eo50 | exact eo53 | exact eo67 | exact eo69 | exact eo74 | exact eo81 | exact eo87 | exact eo112 | exact eo122 | fail) (hc := by first | rfl | assumption | (simp (disch := omega) only [go_sem, seval, ↓reduceIte, hU]; rfl)) (hK := ?_)) | (refine n_lit (xs := List.map (byteA) (w190)) rfl (he := by first | exact eo3 | exact eo4 | exact eo5 | exact eo9 | exact eo22 | exact eo28 | exact eo50 | exact eo53 | exact eo67 | exact eo69 | exact eo74 | exact eo81 | exact eo87 | exact eo112 | exact eo122 | fail) (hc := by first | rfl | assumption | (simp (disch := omega) only [go_sem, seval, ↓reduceIte, hU]; rfl)) (hK := ?_)) | (refine n_lit (xs := List.map (byteA) (w130)) rfl (he := by first | exact eo3 | exact eo4 | exact eo5 | exact eo9 | exact eo22 | exact eo28 | exact eo50 | exact eo53 | exact eo67 | exact eo69 | exact eo74 | exact eo81 | exact eo87 | exact eo112 | exact eo122 | fail) (hc := by first | rfl | assumption | (simp (disch := omega) only [go_sem, seval, ↓reduceIte, hU]; rfl)) (hK := ?_)) | (refine n_lit (xs := List.map (flA) (wantL)) rfl (he := by first | exact eo3 | exact eo4 | exact eo5 | exact eo9 | exact eo22 | exact eo28 | exact eo50 | exact eo53 | exact eo67 | exact eo69 | exact eo74 | exact eo81 | exact eo87 | exact eo112 | exact eo122 | fail) (hc := by first | rfl | assumption | (simp (disch := omega) only [go_sem, seval, ↓reduceIte, hU]; rfl)) (hK := ?_)) | (refine n_lit (xs := List.map (flA) (mgL)) rfl (he := by first | exact eo3 | exact eo4 | exact eo5 | exact eo9 | exact eo22 | exact eo28 | exact eo50 | exact eo53 | exact eo67 | exact eo69 | exact eo74 | exact eo81 | exact eo87 | exact eo112 | exact eo122 | fail) (hc := by first | rfl | assumption | (simp (disch := omega) only [go_sem, seval, ↓reduceIte, hU]; rfl)) (hK := ?_))) | (guard_target =~ SOp _ _ ⟨_, .build _ _, _, _, _, none⟩ _ _ _; first | (refine n_build rfl (by first | exact bd67 | exact bd87 | exact bd112 | exact bd122 | fail) (hK := ?_))) | (guard_target =~ SOp _ _ ⟨_, .call ⟨.value (.func 36), _, _⟩, _, _, _, none⟩ _ _ _; first | (refine n_call (f := 36) rfl Tryd.call36 (h := AEq.sub' [] (hc := enew_ok _ (by first | assumption | omega) (by first | assumption | omega)) (hq := ?_))))) | (guard_target =~ (_ ∨ _) ∧ _; first | ((refine end_d [] (by rw [Tryd.results35, Lf.res1]) (ale_1 ?_) ?_) <;> (try (first | exact ale_eq (by with_reducible rfl) | exact ale_full | exact ale_sl (fun _ => rfl) | exact ale_sl (by simp) | exact ale_junk | exact ale_eq rfl | exact stq (by with_reducible rfl) | exact stq (by rfl) | exact stq (by simp (disch := omega) only [go_sem, seval, ↓reduceIte, hU]))))) | (refine hK _ _ ?_; clear hK K))
 all_goals trace_state
end Go.Proofs.YtohbfcmmpaikhaaDoor

set_option linter.unusedVariables false
set_option linter.unusedSimpArgs false
namespace Go.Proofs.YtohbfcmmpaikhaaDoor
open Go Go.Lf Go.Proofs
attribute [local irreducible] Lf.rg Lf.ro Lf.PWp Lf.SOp Lf.ACall Lf.Scoped Lf.dg
set_option maxRecDepth 20000
set_option maxHeartbeats 4000000
def NoK (xs : List Fl) : Prop := ∀ f ∈ xs, f.k = false
theorem noK_E : NoK xsE := fun f hf => by simp [xsE] at hf
theorem noK_kept {xs : List Fl} (h : NoK xs) (z : Int) : NoK (keptL xs z) := fun f hf => h f (keptL_mem _ _ f hf)
theorem noK_addT {t : DT} (h : NoK t.xs) (f : Fl) : NoK (addT t f).xs := by
 unfold addT
 split
 ·intro g hg
  dsimp only at hg
  unfold addX at hg
  rw [List.mem_append, List.mem_singleton] at hg
  rcases hg with hg | rfl
  ·exact noK_kept h _ g hg
  ·rfl
 ·exact noK_E
def TEq (a b : DT) : Prop := a.xs = b.xs ∧ a.m = b.m
theorem addT_eq {a b : DT} (h : TEq a b) (f : Fl) : TEq (addT a f) (addT b f) := by
 obtain ⟨x, s, m⟩ := a
 obtain ⟨y, s', m'⟩ := b
 obtain ⟨rfl, rfl⟩ := h
 unfold addT
 dsimp only
 split <;> exact ⟨rfl, rfl⟩
theorem fl_k {g : Fl} (h : g.k = false) : g = ⟨g.n, g.v, false⟩ := by cases g; simp at h; rw [h]
theorem stF_is {n v : ByteArray} {i : Int} (h : fdEq n v i = true) : stF i = ⟨n, v, false⟩ := by
 unfold fdEq at h
 have := of_decide_eq_true h
 unfold stF
 rw [this.1, this.2]
theorem bothG_at (n v : ByteArray) : ∀ (R : List Fl) (i : Int), bothG n v R i ≠ 0 → 1 ≤ i → ∃ (j : Nat) (g : Fl), R[j]? = some g ∧ g.n = n ∧ g.v = v ∧ bothG n v R i = i + j
 | [], i, h, _ => absurd rfl h
 | f :: R, i, h, hi => by
  unfold bothG at h ⊢
  by_cases hf : f.n = n ∧ f.v = v
  ·rw [if_pos hf]
   exact ⟨0, f, rfl, hf.1, hf.2, by omega⟩
  ·rw [if_neg hf] at h ⊢
   obtain ⟨j, g, h1, h2, h3, h4⟩ := bothG_at n v R (i + 1) h (by omega)
   exact ⟨j + 1, g, by simpa using h1, h2, h3, by rw [h4]; omega⟩
theorem nameG_at (n : ByteArray) : ∀ (R : List Fl) (i : Int), nameG n R i ≠ 0 → 1 ≤ i → ∃ (j : Nat) (g : Fl), R[j]? = some g ∧ g.n = n ∧ nameG n R i = i + j
 | [], i, h, _ => absurd rfl h
 | f :: R, i, h, hi => by
  unfold nameG at h ⊢
  by_cases hf : f.n = n
  ·rw [if_pos hf]
   exact ⟨0, f, rfl, hf, by omega⟩
  ·rw [if_neg hf] at h ⊢
   obtain ⟨j, g, h1, h2, h4⟩ := nameG_at n R (i + 1) h (by omega)
   exact ⟨j + 1, g, by simpa using h1, h2, by rw [h4]; omega⟩
theorem pl_at {xs : List Fl} {n v : ByteArray} (hk : NoK xs) (h : plB xs.reverse n v = true) : dAt xs (plI xs.reverse n v) = some ⟨n, v, false⟩ := by
  unfold plI
  by_cases h1 : stFb n v = true
  · rw [if_pos h1]
    have h2 := of_decide_eq_true h1
    have e : stFi n v = firstUp (fdEq n v) 61 := if_pos h2
    rcases firstUp_is (fdEq n v) 61 with ⟨h3, _⟩ | ⟨a1, a2, a3, _⟩
    · exact absurd h3 h2
    · rw [e, dAt_st a1 a2, stF_is a3]
  · have h2 : fnB xs.reverse n v = true := by
      unfold plB at h
      simpa [h1] using h
    rw [if_neg h1, if_pos h2]
    have h3 := of_decide_eq_true h2
    have e : fnI xs.reverse n v = bothG n v xs.reverse 1 := if_pos h3
    obtain ⟨j, g, b1, b2, b3, b4⟩ := bothG_at n v xs.reverse 1 h3 (by decide)
    rw [e, b4, dAt_dy (by omega), show (61 + (1 + (j : Int)) - 61).toNat - 1 = j from by omega, b1]
    have := fl_k (hk g (List.mem_reverse.1 (List.mem_of_getElem? b1)))
    rw [this, b2, b3]
theorem nm_at {xs : List Fl} {n : ByteArray} (h : nmI xs.reverse n ≠ 0) : ∃ g, dAt xs (nmI xs.reverse n) = some g ∧ g.n = n := by
 unfold nmI at h ⊢
 by_cases h1 : stN n ≠ 0
 ·rw [if_pos h1]
  rcases stN_is n with ⟨h3, _⟩ | ⟨a1, a2, a3, _⟩
  ·exact absurd h3 h1
  ·refine ⟨_, dAt_st a1 a2, ?_⟩
   show (stAt (stN n)).1 = n
   unfold nmEq at a3
   exact of_decide_eq_true a3
 ·rw [if_neg h1] at h ⊢
  by_cases h2 : nameG n xs.reverse 1 ≠ 0
  ·rw [if_pos h2]
   obtain ⟨j, g, b1, b2, b4⟩ := nameG_at n xs.reverse 1 h2 (by decide)
   refine ⟨g, ?_, b2⟩
   rw [b4, dAt_dy (by omega), show (61 + (1 + (j : Int)) - 61).toNat - 1 = j from by omega, b1]
  ·rw [if_neg h2] at h; exact absurd rfl h
def rpOf (r : Rw) (n : Int) : Rp := ⟨r.k, r.i, ofB r.nm, r.ns, ofB r.vl, r.vs, 0, n, 0⟩
theorem kdI_4 {k : Bool} {w : Int} : decide (kdI k w = 4) = k := by
 unfold kdI
 cases k
 ·simp; split <;> decide
 ·simp
theorem fld_back {t td : DT} {F : List Fl} {S : List Int} {n v : ByteArray} {k : Bool} {w : Int} {nn sn sv : Bool} {r : Rw} {t' : DT} (he : TEq t td) (hk : NoK t.xs) (hr : oneR t.xs.reverse n v k w nn sn sv = r) (ht : oneT t n v k w = t') (m : Int) :
    ∃ td', dStep ⟨F, S, td⟩ (rpOf r m) = (⟨snF F ⟨n, v, k⟩, S, td'⟩, 0) ∧ TEq t' td' ∧ NoK t'.xs := by
  have hkd := kdI_cs k w
  have hk4 := kdI_4 (k := k) (w := w)
  have hxe : td.xs = t.xs := he.1.symm
  cases hw : whl t.xs.reverse n v k w with
  | true =>
    rw [oneR_w hw] at hr
    rw [oneT_w hw] at ht
    subst hr; subst ht
    obtain ⟨hp, rfl, _, _⟩ := whl_t hw
    have hpp := pl_pos hp
    have hg : fG td.xs (rpOf ⟨1, plI t.xs.reverse n v, ⟨#[]⟩, false, ⟨#[]⟩, false⟩ m) = some ⟨n, v, false⟩ := by
      rw [fG_i (by show ¬ plI t.xs.reverse n v = 0; omega), hxe]
      exact pl_at hk hp
    refine ⟨td, ?_, he, hk⟩
    rw [dStep_f (by show (1 : Int) ≠ 5; decide) (by show (1 : Int) ≠ 2; decide) hg]
    rfl
  | false =>
    -- the field at the place of the name, or the name itself
    have hbase : ∃ g, fG td.xs (rpOf r m) = some g ∧ g.n = n ∧ r.vl = v ∧ r.k = kdI k w := by
      rcases oneR_n hw hr with ⟨_, rfl⟩ | ⟨_, _, rfl⟩ | ⟨_, hz, rfl⟩
      · exact ⟨_, fG_0 rfl, ofB_mk n, rfl, rfl⟩
      · exact ⟨_, fG_0 rfl, ofB_mk n, rfl, rfl⟩
      · obtain ⟨g, h1, h2⟩ := nm_at hz
        refine ⟨g, ?_, h2, rfl, rfl⟩
        rw [fG_i hz, hxe]; exact h1
    obtain ⟨g, hg, hgn, hvl, hrk⟩ := hbase
    have hfv : fV (rpOf r m) g = ⟨n, v, k⟩ := by
      unfold fV
      have h1 : (rpOf r m).k = kdI k w := hrk
      rw [if_neg (by rw [h1]; omega), h1, hk4]
      show (⟨g.n, ⟨(ofB r.vl).toArray⟩, k⟩ : Fl) = _
      rw [hgn, ofB_mk, hvl]
    have h5 : (rpOf r m).k ≠ 5 := by show r.k ≠ 5; rw [hrk]; omega
    by_cases h2 : kdI k w = 2
    · have h2' : (rpOf r m).k = 2 := by show r.k = 2; rw [hrk]; exact h2
      have hkf : k = false := by
        cases k with
        | false => rfl
        | true => rw [h2] at hk4; exact absurd hk4 (by decide)
      have e : t' = addT t ⟨n, v, k⟩ := by
        rw [← ht]; unfold oneT; rw [if_neg (by simp [hw]), if_pos h2]
      refine ⟨addT td ⟨n, v, k⟩, ?_, ?_, ?_⟩
      · rw [dStep_2 h2' hg, hfv]
      · rw [e]; exact addT_eq he _
      · rw [e]; exact noK_addT hk _
    · have h2' : (rpOf r m).k ≠ 2 := by show r.k ≠ 2; rw [hrk]; exact h2
      have e : t' = t := by
        rw [← ht]; unfold oneT; rw [if_neg (by simp [hw]), if_neg h2]
      refine ⟨td, ?_, ?_, ?_⟩
      · rw [dStep_f h5 h2' hg, hfv]
      · rw [e]; exact he
      · rw [e]; exact hk
theorem rw_back {r : Rw} (h : RwOk r) (z : List UInt8) : rgM (rwB r ++ z) = rpOf r ((rwB r).length : Int) := by
 obtain ⟨h1, h2, h3⟩ := h
 exact rp_back h1 z (by rw [ofB_sz]; omega) (by rw [ofB_sz]; omega)
theorem rsz_back {s : Int} (h0 : 0 ≤ s) (h1 : s ≤ 2147483647) (z : List UInt8) : rgM (rszB s ++ z) = ⟨5, 0, [], false, [], false, s, ((rszB s).length : Int), 0⟩ :=
 rp_back ⟨by decide, by decide, ⟨h0, h1⟩, .inl ⟨rfl, rfl, ⟨rfl, rfl⟩, ⟨rfl, rfl⟩⟩⟩ z (by decide) (by decide)
theorem catB_asc (a b c : List UInt8) : catB (catB a b) c = catB a (b ++ c) := List.append_assoc _ _ _
theorem catB_nil (a : List UInt8) : catB a [] = a := List.append_nil _
theorem flds_back (how : List Op4) : ∀ (l : List Fl) (i : Nat) (o : List UInt8) (t : DT), NoK t.xs → t.xs.length + l.length ≤ 100000 → (∀ f ∈ l, f.n.size ≤ 1000 ∧ f.v.size ≤ 1000) →
    ∃ (B : List UInt8) (t' : DT), eFldL how l i ⟨o, t⟩ = ⟨catB o B, t'⟩ ∧ NoK t'.xs ∧ ∀ (n : Nat) (F : List Fl) (S : List Int) (td : DT), TEq t td → B.length ≤ n → ∃ td', TEq t' td' ∧ decM n B ⟨F, S, td⟩ = (⟨F ++ l, S, td'⟩, 0)
  | [], i, o, t, hk, _, _ => ⟨[], t, by rw [catB_nil]; rfl, hk, fun n F S td he _ => ⟨td, he, by rw [decM_nil rfl, List.append_nil]⟩⟩
  | ⟨fn, fv, fk⟩ :: l, i, o, t, hk, hx, hz => by
    have hz1 := hz _ List.mem_cons_self
    dsimp only at hz1
    rw [List.length_cons] at hx
    obtain ⟨⟨ow, o1, o2, o3⟩, ho⟩ : ∃ p, opAt how i = p := ⟨_, rfl⟩
    obtain ⟨r, hr⟩ : ∃ r, oneR t.xs.reverse fn fv fk ow o1 o2 o3 = r := ⟨_, rfl⟩
    obtain ⟨t1, ht⟩ : ∃ t1, oneT t fn fv fk ow = t1 := ⟨_, rfl⟩
    have hrw := oneR_ok hr (by rw [List.length_reverse]; omega) hz1.1 hz1.2
    have hk1 : NoK t1.xs := (fld_back (F := []) (S := []) (td := t) ⟨rfl, rfl⟩ hk hr ht 0).choose_spec.2.2
    have hx1 : t1.xs.length ≤ t.xs.length + 1 := by
      rw [← ht]; unfold oneT
      split
      · omega
      · split
        · unfold addT
          split
          · exact addX_len _ _ _
          · show xsE.length ≤ _; rw [xsE_len]; omega
        · omega
    obtain ⟨B, t', h1, h2, h3⟩ := flds_back how l (i + 1) (catB o (rwB r)) t1 hk1 (by omega) (fun y hy => hz y (List.mem_cons_of_mem _ hy))
    refine ⟨rwB r ++ B, t', ?_, h2, fun n F S td he hn => ?_⟩
    · rw [eFldL, eFld, ho]
      dsimp only
      rw [hr, ht, h1, catB_asc]
    · have hln := rwB_ln hrw
      rw [List.length_append] at hn
      obtain ⟨n', rfl⟩ : ∃ j, n = j + 1 := ⟨n - 1, by omega⟩
      have hb := rw_back hrw B
      obtain ⟨td1, g1, g2, _⟩ := fld_back (F := F) (S := S) he hk hr ht ((rwB r).length : Int)
      obtain ⟨td', g3, g4⟩ := h3 n' (snF F ⟨fn, fv, fk⟩) S td1 g2 (by omega)
      refine ⟨td', g3, ?_⟩
      rw [decM_r (a := (rwB r).length) (by rw [List.length_append]; omega) (by rw [hb]; rfl) (by rw [hb]; rfl) (by rw [hb]; exact g1), List.drop_left, g4]
      unfold snF
      rw [List.append_assoc]; rfl
theorem szs_back : ∀ (z : List Int) (o : List UInt8) (t : DT), NoK t.xs → (∀ y ∈ z, 0 ≤ y ∧ y ≤ 2147483647) →
    ∃ (B : List UInt8) (t' : DT), eResL z ⟨o, t⟩ = ⟨catB o B, t'⟩ ∧ NoK t'.xs ∧ t'.xs.length ≤ t.xs.length ∧ ∀ (n : Nat) (C : List UInt8) (S : List Int) (td : DT), TEq t td → (B ++ C).length ≤ n → ∃ td' n', TEq t' td' ∧ C.length ≤ n' ∧ decM n (B ++ C) ⟨[], S, td⟩ = decM n' C ⟨[], S ++ z, td'⟩
  | [], o, t, hk, _ => ⟨[], t, by rw [catB_nil]; rfl, hk, Nat.le_refl _, fun n C S td he hn => ⟨td, n, he, hn, by rw [List.nil_append, List.append_nil]⟩⟩
  | y :: z, o, t, hk, hz => by
    have hz1 := hz _ List.mem_cons_self
    obtain ⟨B, t', h1, h2, h4, h3⟩ := szs_back z (catB o (rszB y)) ⟨keptL t.xs y, t.s + 1, y⟩ (noK_kept hk y) (fun q hq => hz q (List.mem_cons_of_mem _ hq))
    refine ⟨rszB y ++ B, t', ?_, h2, Nat.le_trans h4 (keptL_len _ _), fun n C S td he hn => ?_⟩
    · rw [eResL, eRes]
      dsimp only
      rw [h1, catB_asc]
    · have hln := rszB_ln y
      rw [List.append_assoc, List.length_append] at hn
      obtain ⟨n', rfl⟩ : ∃ j, n = j + 1 := ⟨n - 1, by omega⟩
      have hb := rsz_back hz1.1 hz1.2 (B ++ C)
      have hs : dStep ⟨[], S, td⟩ (rgM (rszB y ++ (B ++ C))) = (⟨[], snI S y, ⟨keptL td.xs y, td.s + 1, y⟩⟩, 0) := by
        rw [hb]; exact dStep_res rfl (by simp)
      obtain ⟨td', n2, g3, g5, g4⟩ := h3 n' C (snI S y) ⟨keptL td.xs y, td.s + 1, y⟩ ⟨by dsimp only; rw [he.1], rfl⟩ (by omega)
      refine ⟨td', n2, g3, g5, ?_⟩
      rw [List.append_assoc, decM_r (a := (rszB y).length) (by rw [List.length_append]; omega) (by rw [hb]) (by rw [hb]) hs, List.drop_left, g4]
      unfold snI
      rw [List.append_assoc]; rfl
theorem enc_back {z : List Int} {l : List Fl} {how : List Op4} {xs : List Fl} {s : Nat} {m : Int} {o : List UInt8} {xt : List Fl} {st : Nat} {mt : Int} (h : encM z l how ⟨xs, s, m⟩ = ⟨o, ⟨xt, st, mt⟩⟩) (hk : NoK xs) (hx : xs.length ≤ 30000) (hll : l.length ≤ 100) (hz : anyS z = false) (hlb : ∀ f ∈ l, f.n.size ≤ 1000 ∧ f.v.size ≤ 1000) :
    NoK xt ∧ ∃ sd, decM o.length o ⟨xs0, ss0, ⟨xs, 0, m⟩⟩ = (⟨l, z, ⟨xt, sd, mt⟩⟩, 0) := by
  obtain ⟨B1, t1, a1, a2, a5, a3⟩ := szs_back z [] ⟨xs, s, m⟩ hk (anyS_no hz)
  obtain ⟨B2, t2, b1, b2, b3⟩ := flds_back how l 0 (catB [] B1) t1 a2 (by dsimp only at a5; omega) hlb
  unfold encM at h
  rw [a1, b1] at h
  obtain ⟨rfl, rfl⟩ : catB (catB [] B1) B2 = o ∧ t2 = ⟨xt, st, mt⟩ := by simpa only [EQ.mk.injEq] using h
  refine ⟨b2, ?_⟩
  have e : catB (catB [] B1) B2 = B1 ++ B2 := rfl
  rw [e]
  obtain ⟨td1, n1, c1, c2, c3⟩ := a3 (B1 ++ B2).length B2 [] ⟨xs, 0, m⟩ ⟨rfl, rfl⟩ (Nat.le_refl _)
  obtain ⟨⟨xd, sd, md⟩, d1, d2⟩ := b3 n1 [] ([] ++ z) td1 c1 c2
  obtain ⟨e1, e2⟩ := d1
  dsimp only at e1 e2
  subst e1; subst e2
  refine ⟨sd, ?_⟩
  show decM (B1 ++ B2).length (B1 ++ B2) ⟨[], [], ⟨xs, 0, m⟩⟩ = _
  rw [c3, d2]
  simp
theorem tok_parts {xs : List Fl} {s : Nat} {m : Int} (h : TOk ⟨xs, s, m⟩) : sumW xs ≤ m ∧ 0 ≤ m ∧ m ≤ 2147483647 ∧ ∀ f ∈ xs, f.n.size ≤ 1000000 ∧ f.v.size ≤ 1000000 := h
theorem rw_sz {R : List Fl} {n v : ByteArray} {k : Bool} {w : Int} {nn sn sv : Bool} (h1 : (n.size : Int) ≤ 300) (h2 : (v.size : Int) ≤ 300) : (rwB (oneR R n v k w nn sn sv)).length ≤ 2418 := by
 have a := rpB_ln (oneR R n v k w nn sn sv).k (oneR R n v k w nn sn sv).i (ofB (oneR R n v k w nn sn sv).nm) (oneR R n v k w nn sn sv).ns (ofB (oneR R n v k w nn sn sv).vl) (oneR R n v k w nn sn sv).vs 0
 rw [ofB_sz, ofB_sz] at a
 have b : (oneR R n v k w nn sn sv).nm.size ≤ 300 ∧ (oneR R n v k w nn sn sv).vl.size ≤ 300 := by
  have ez : (⟨#[]⟩ : ByteArray).size = 0 := rfl
  cases hw : whl R n v k w with
  | true => rw [oneR_w hw]; dsimp only; omega
  | false =>
   rcases oneR_n (nn := nn) (sn := sn) (sv := sv) hw rfl with ⟨_, e⟩ | ⟨_, _, e⟩ | ⟨_, _, e⟩
   ·rw [e]; dsimp only; omega
   ·rw [e]; dsimp only; omega
   ·rw [e]; dsimp only; omega
 unfold rwB
 omega
theorem flds_sz (how : List Op4) : ∀ (l : List Fl) (i : Nat) (q : EQ), (∀ f ∈ l, (f.n.size : Int) ≤ 300 ∧ (f.v.size : Int) ≤ 300) → (eFldL how l i q).o.length ≤ q.o.length + 2418 * l.length
 | [], i, q, _ => by rw [eFldL, List.length_nil]; omega
 | f :: l, i, q, hz => by
  have hz1 := hz f List.mem_cons_self
  have a := flds_sz how l (i + 1) (eFld q f (opAt how i)) (fun y hy => hz y (List.mem_cons_of_mem _ hy))
  have b := rw_sz (R := q.t.xs.reverse) (k := f.k) (w := (opAt how i).w) (nn := (opAt how i).nn) (sn := (opAt how i).sn) (sv := (opAt how i).sv) hz1.1 hz1.2
  have e1 : (eFld q f (opAt how i)).o.length = q.o.length + (rwB (oneR q.t.xs.reverse f.n f.v f.k (opAt how i).w (opAt how i).nn (opAt how i).sn (opAt how i).sv)).length := List.length_append
  rw [eFldL, List.length_cons]
  omega
theorem encM_sz {z : List Int} {l : List Fl} {how : List Op4} {t : DT} {Q : EQ} (h : encM z l how t = Q) (ht : TOk t) (hx : t.xs.length ≤ 30000) (hz : anyS z = false) (hzl : z.length ≤ 12) (hll : l.length ≤ 12) (hlb : ∀ f ∈ l, (f.n.size : Int) ≤ 300 ∧ (f.v.size : Int) ≤ 300) : Q.o.length ≤ 40000 := by
 unfold encM at h
 obtain ⟨Q1, hQ1⟩ : ∃ Q1, eResL z ⟨[], t⟩ = Q1 := ⟨_, rfl⟩
 rw [hQ1] at h
 obtain ⟨a, b, c⟩ := eResL_ok z ⟨[], t⟩ Q1 hQ1 ht (anyS_no hz)
 rw [show (⟨[], t⟩ : EQ).o.length = 0 from rfl] at c
 have d := flds_sz how l 0 Q1 hlb
 rw [h] at d
 omega
end Go.Proofs.YtohbfcmmpaikhaaDoor

