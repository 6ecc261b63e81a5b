import Derived.Test.YtideijigonjohaaTy
import Derived.Test.YtideijigonjohaaLc
set_option linter.unusedVariables false
set_option linter.unusedSimpArgs false
namespace Go.Proofs.Ytideijigonjohaa
open Go Go.Lf Go.Proofs
attribute [local irreducible] Lf.rg Lf.ro Lf.PWp Lf.SOp Lf.ACall Lf.Scoped Lf.dg Lf.dw
set_option maxRecDepth 20000
set_option maxHeartbeats 4000000

/-- A field: its name, its value, whether it is never to be kept. -/
structure Fl where
  (n v : ByteArray) (k : Bool)
deriving DecidableEq
@[go_sem] def flA (f : Fl) : List AV := [.lit (.string f.n), .lit (.string f.v), bl f.k]
@[go_sem] theorem purl_flA (l : List Fl) : purl (l.map flA).flatten = true := purl_map (fun _ => rfl) l
@[go_sem] theorem fz_mapfl {κ : List Nat} {σ : Sto} (l : List Fl) : List.map (fzl κ σ) (l.map flA) = l.map flA := fz_mapg (fun _ => rfl) l
def fl0 : Fl := ⟨⟨#[]⟩, ⟨#[]⟩, false⟩
/-- No fields, as a name. -/
def xsE : List Fl := []
def flN (f : Fl) : Fl := ⟨f.n, f.v, false⟩
def wt (f : Fl) : Int := f.n.size + f.v.size + 32
theorem wt_N (f : Fl) : wt (flN f) = wt f := rfl
theorem wt_pos (f : Fl) : 32 ≤ wt f := by unfold wt; omega
def sumW : List Fl → Int
  | [] => 0
  | f :: l => wt f + sumW l
theorem sumW_nil : sumW [] = 0 := rfl
theorem sumW_app : ∀ (a b : List Fl), sumW (a ++ b) = sumW a + sumW b
  | [], b => by rw [List.nil_append, sumW_nil]; omega
  | f :: a, b => by rw [List.cons_append, sumW, sumW, sumW_app a b]; omega
theorem sumW_pos : ∀ l, 0 ≤ sumW l ∧ (l ≠ [] → 32 ≤ sumW l)
  | [] => ⟨by rw [sumW_nil]; omega, fun h => absurd rfl h⟩
  | f :: l => by
    have := sumW_pos l
    have := wt_pos f
    rw [sumW]
    exact ⟨by omega, fun _ => by omega⟩
theorem sumW_rev : ∀ l, sumW l.reverse = sumW l
  | [] => rfl
  | f :: l => by rw [List.reverse_cons, sumW_app, sumW_rev l]; simp only [sumW]; omega
/-- What is left when the oldest have gone till the weights come to at most so much. -/
def keptL : List Fl → Int → List Fl
  | [], _ => []
  | x :: xs, m => if m < sumW (x :: xs) then keptL xs m else x :: xs
/-- How many of the newest come to at most so much. -/
def fitN : List Fl → Int → Int → Nat
  | [], _, _ => 0
  | x :: l, n, m => if m < n + wt x then 0 else fitN l (n + wt x) m + 1
theorem keptL_sum (m : Int) (h0 : 0 ≤ m) : ∀ l, sumW (keptL l m) ≤ m
  | [] => h0
  | x :: xs => by
    unfold keptL
    split
    · exact keptL_sum m h0 xs
    · omega
theorem keptL_len (m : Int) : ∀ l, (keptL l m).length ≤ l.length
  | [] => Nat.le_refl _
  | x :: xs => by
    unfold keptL
    have := keptL_len m xs
    split
    · rw [List.length_cons]; omega
    · exact Nat.le_refl _
theorem keptL_mem (m : Int) : ∀ l, ∀ f ∈ keptL l m, f ∈ l
  | [] => fun f h => h
  | x :: xs => by
    intro f h
    unfold keptL at h
    split at h
    · exact List.mem_cons_of_mem _ (keptL_mem m xs f h)
    · exact h
theorem keptL_all {l : List Fl} {m : Int} (h : sumW l ≤ m) : keptL l m = l := by
  cases l with
  | nil => rfl
  | cons x xs => unfold keptL; rw [if_neg (by omega)]
theorem keptL_zero (l : List Fl) : keptL l 0 = [] := by
  have h := keptL_sum 0 (by decide) l
  have := sumW_pos (keptL l 0)
  by_cases he : keptL l 0 = []
  · exact he
  · have := this.2 he; omega
theorem fitN_len (m : Int) : ∀ (l : List Fl) (n : Int), fitN l n m ≤ l.length
  | [], _ => Nat.le_refl _
  | x :: l, n => by
    unfold fitN
    have := fitN_len m l (n + wt x)
    split
    · omega
    · rw [List.length_cons]; omega
theorem fitN_snoc (m : Int) (x : Fl) : ∀ (l : List Fl) (n : Int), fitN (l ++ [x]) n m = if n + sumW l ≤ m ∧ n + sumW l + wt x ≤ m then l.length + 1 else fitN l n m
  | [], n => by
    rw [List.nil_append, fitN, fitN, sumW_nil]
    have := wt_pos x
    by_cases h : m < n + wt x
    · rw [if_pos h, if_neg (by omega)]
    · rw [if_neg h, if_pos (by omega)]; rfl
  | y :: l, n => by
    rw [List.cons_append, fitN, fitN, sumW, fitN_snoc m x l (n + wt y)]
    have := wt_pos x
    have := sumW_pos l
    by_cases h : m < n + wt y
    · rw [if_pos h, if_pos h, if_neg (by omega)]
    · rw [if_neg h, if_neg h]
      by_cases h2 : n + wt y + sumW l ≤ m ∧ n + wt y + sumW l + wt x ≤ m
      · rw [if_pos h2, if_pos (by omega)]; rfl
      · rw [if_neg h2, if_neg (by omega)]
theorem fitN_all (m : Int) : ∀ (l : List Fl) (n : Int), n + sumW l ≤ m → fitN l n m = l.length
  | [], _, _ => rfl
  | x :: l, n, h => by
    rw [sumW] at h
    have := sumW_pos l
    rw [fitN, if_neg (by omega), fitN_all m l (n + wt x) (by omega)]; rfl
/-- Both ways leave the same. -/
theorem kept_fit (m : Int) : ∀ l : List Fl, (keptL l m).reverse = l.reverse.take (fitN l.reverse 0 m)
  | [] => rfl
  | x :: xs => by
    rw [List.reverse_cons, fitN_snoc, sumW_rev, Int.zero_add]
    unfold keptL
    have := wt_pos x
    rw [sumW]
    by_cases h : m < wt x + sumW xs
    · rw [if_pos h, if_neg (by omega), kept_fit m xs, List.take_append_of_le_length (by rw [List.length_reverse]; have := fitN_len m xs.reverse 0; rw [List.length_reverse] at this; exact this)]
    · rw [if_neg h, if_pos (by omega), List.take_of_length_le (by simp), List.reverse_cons]
theorem dloop_is (l : List UInt8) : ∀ (k i : Nat) (r : List UInt8), i + k = l.length → ByteArray.toList.loop ⟨l.toArray⟩ i r = r.reverse ++ l.drop i := by
  intro k
  induction k with
  | zero =>
    intro i r h
    unfold ByteArray.toList.loop
    have hs : (ByteArray.mk l.toArray).size = l.length := rfl
    rw [if_neg (by rw [hs]; omega), List.drop_of_length_le (by omega), List.append_nil]
  | succ k ih =>
    intro i r h
    unfold ByteArray.toList.loop
    have hs : (ByteArray.mk l.toArray).size = l.length := rfl
    rw [if_pos (by rw [hs]; omega), ih (i + 1) _ (by omega)]
    have hg : (ByteArray.mk l.toArray).get! i = l[i]'(by omega) := by
      show (l.toArray)[i]! = _
      simp [show i < l.length by omega]
    rw [hg, List.reverse_cons, List.append_assoc]
    congr 1
    rw [List.drop_eq_getElem_cons (i := i) (by omega)]
    rfl
theorem dtoList_mk (l : List UInt8) : ByteArray.toList ⟨l.toArray⟩ = l := by
  unfold ByteArray.toList
  rw [dloop_is l l.length 0 [] (by omega)]
  simp
@[go_sem] theorem dsbeq (a b : ByteArray) : (a.toList == b.toList) = decide (a = b) := by
  obtain ⟨⟨a⟩⟩ := a; obtain ⟨⟨b⟩⟩ := b
  rw [dtoList_mk, dtoList_mk]
  by_cases h : a = b <;> simp [h]
theorem ddrop_at {α : Type} {l : List α} {i : Nat} {x : α} (h : l[i]? = some x) : l.drop i = x :: l.drop (i + 1) := by
  obtain ⟨hi, rfl⟩ := List.getElem?_eq_some_iff.1 h
  exact List.drop_eq_getElem_cons hi
theorem dtake_snoc {α : Type} {l : List α} {i : Nat} {x : α} (h : l[i]? = some x) : l.take (i + 1) = l.take i ++ [x] := by
  rw [List.take_add_one, h]; rfl
/-- Where a field stands: the least place of both; else of its name. -/
def bothG (n v : ByteArray) : List Fl → Int → Int
  | [], _ => 0
  | f :: l, i => if f.n = n ∧ f.v = v then i else bothG n v l (i + 1)
def nameG (n : ByteArray) : List Fl → Int → Int
  | [], _ => 0
  | f :: l, i => if f.n = n then i else nameG n l (i + 1)
def fnI (R : List Fl) (n v : ByteArray) : Int := if bothG n v R 1 ≠ 0 then bothG n v R 1 else nameG n R 1
def fnB (R : List Fl) (n v : ByteArray) : Bool := decide (bothG n v R 1 ≠ 0)
theorem fn_hit {R : List Fl} {n v : ByteArray} {k : Int} (h : bothG n v R 1 = k) (hk : k ≠ 0) : fnI R n v = k ∧ fnB R n v = true := by
  unfold fnI fnB
  rw [h, if_pos hk]
  exact ⟨rfl, by simp [hk]⟩
theorem fn_miss {R : List Fl} {n v : ByteArray} {k : Int} (h : bothG n v R 1 = 0) (hk : nameG n R 1 = k) : fnI R n v = k ∧ fnB R n v = false := by
  unfold fnI fnB
  rw [h, if_neg (by simp)]
  exact ⟨hk, by simp⟩
theorem bothG_bd (n v : ByteArray) : ∀ (l : List Fl) (i : Int), 1 ≤ i → 0 ≤ bothG n v l i ∧ bothG n v l i < i + l.length
  | [], i, h => by unfold bothG; rw [List.length_nil]; omega
  | f :: l, i, h => by
    unfold bothG
    have := bothG_bd n v l (i + 1) (by omega)
    rw [List.length_cons]
    split <;> omega
theorem nameG_bd (n : ByteArray) : ∀ (l : List Fl) (i : Int), 1 ≤ i → 0 ≤ nameG n l i ∧ nameG n l i < i + l.length
  | [], i, h => by unfold nameG; rw [List.length_nil]; omega
  | f :: l, i, h => by
    unfold nameG
    have := nameG_bd n l (i + 1) (by omega)
    rw [List.length_cons]
    split <;> omega
theorem fn_bd (R : List Fl) (n v : ByteArray) : 0 ≤ fnI R n v ∧ fnI R n v ≤ R.length := by
  have a := bothG_bd n v R 1 (by decide)
  have b := nameG_bd n R 1 (by decide)
  unfold fnI
  split <;> omega
theorem rev_at {l : List Fl} {i : Nat} {f : Fl} (h : l.reverse[i]? = some f) : l[l.length - (i + 1)]? = some f := by
  have hi := (List.getElem?_eq_some_iff.1 h).1
  rw [List.length_reverse] at hi
  rw [List.getElem?_reverse hi] at h
  rw [← h]; congr 1; omega
/-- What a call leaves may be said more weakly, or more strongly, by a step that moves nothing. -/
theorem daeq_post {P : Program} {f : FuncId} {args : List AV} {σ τ τ2 : Sto} {r r2 : AV} (h : AEq P f args σ r τ) (hw : ∀ ρ w v, Rel τ ρ w → VR τ ρ w r v → ∃ ρ', Rel τ2 ρ' w ∧ VR τ2 ρ' w r2 v ∧ Step τ.length τ ρ w τ2 ρ' w) : AEq P f args σ r2 τ2 := by
  unfold AEq ACall at *
  intro ρ w vs hr hv
  refine (h ρ w vs hr hv).mono ?_
  rintro e w' ⟨x, σ3, ρ3, v, h1, ⟨rfl, rfl⟩, h3, h4, h5⟩
  obtain ⟨ρ4, k1, k2, k3⟩ := hw ρ3 w' v h3 h4
  exact ⟨_, _, ρ4, v, h1, ⟨rfl, rfl⟩, k1, k2, h5.trans (k3.mono h5.len')⟩
theorem dpost_rowc {σ : Sto} {q : Bool} {cs : List AV} {r : AV} (o k e sz : Nat) (h00 : 0 < sz) (hob : σ[o]? = some (.box cs)) (hc : cs[k]? = some (.sl true q [])) (ρ : Rz) (w : World) (v : Value) (hr : Rel σ ρ w) (hv : VR σ ρ w r v) :
    ∃ ρ', Rel ((σ ++ [Ob.row 0 e sz []]).set o (Ob.box (cs.set k (AV.row σ.length 0)))) ρ' w ∧ VR ((σ ++ [Ob.row 0 e sz []]).set o (Ob.box (cs.set k (AV.row σ.length 0)))) ρ' w r v ∧ Step σ.length σ ρ w ((σ ++ [Ob.row 0 e sz []]).set o (Ob.box (cs.set k (AV.row σ.length 0)))) ρ' w := by
  obtain ⟨ρ', _, h2, h3⟩ := wk_rowc (N := 0) (n := σ.length) (Γ := []) o k e sz h00 hob hc ρ w { tmps := #[], defers := [] } (Nat.le_refl _) ⟨rfl, rfl, fun i => trivial⟩ hr
  exact ⟨ρ', h2, VR.carry h3 _ _ hv, h3⟩
theorem d_weight (f : Fl) (h1 : f.n.size ≤ 1000000000) (h2 : f.v.size ≤ 1000000000) : AEq Try.prog 40 [.ag (flA f)] [] (i64 (wt f)) [] := by
  refine acall_body Try.func40 rfl Try.ntmps40 (by simp) (fun hsc => ?_); simp only [Lf.enter, Nat.reduceAdd]; clear hsc
  repeat' (first | (guard_target =~ Lf.PWp _ _ _ _ _ _ _; first | (refine pwp_seq_k (fun K hK => ?_)) | (refine pwp_rg_then ?_) | (refine pwp_ret ?_)) | (guard_target =~ Lf.rg _ _ _ _ _ _ _; first | (refine rg_end ?_) | (refine rg_a rfl (by (try simp (disch := omega) only [go_sem, seval, ↓reduceIte]); rfl) ?_) | (refine rg_v rfl (by (try simp (disch := omega) only [go_sem, seval, ↓reduceIte]); rfl) ?_) | (refine rg_s rfl ?_)) | (guard_target =~ Lf.SOp _ _ _ _ _ _; first | (refine n_box rfl (by (try simp (disch := omega) only [go_sem, seval, ↓reduceIte]); rfl) (by (try simp (disch := omega) only [go_sem, seval, ↓reduceIte]); rfl) (by first | (simp (disch := omega) only [go_sem, seval, ↓reduceIte]; done) | rfl) (by (try simp (disch := omega) only [go_sem, seval, ↓reduceIte]); rfl) (by (try simp (disch := omega) only [go_sem, seval, ↓reduceIte]); rfl) ?_)) | (guard_target =~ (_ ∨ _) ∧ _; first | ((refine end_q [] (by first | exact .inr rfl | exact .inl rfl | fail) (by rfl) (by rw [Try.results40, Lf.res1]) (by first | ((try simp (disch := omega) only [go_sem, seval, ↓reduceIte]); rfl) | (simp (disch := omega) only [go_sem, seval, ↓reduceIte]; done)) (by first | ((try simp (disch := omega) only [go_sem, seval, ↓reduceIte]); rfl) | (simp (disch := omega) only [go_sem, seval, ↓reduceIte]; done)) (ale_1 ?_) ?_) <;> (try (first | exact ale_eq (by with_reducible rfl) | exact ale_full | exact ale_sl (fun _ => rfl) | exact ale_sl (by simp) | exact ale_junk | exact ale_eq rfl | exact stq (by with_reducible rfl) | exact stq (by rfl) | exact stq (by simp (disch := omega) only [go_sem, seval, ↓reduceIte]))))) | (refine hK _ _ ?_; clear hK K))
theorem r_weight (f : Fl) (h1 : f.n.size ≤ 1000000000) (h2 : f.v.size ≤ 1000000000) : AEq Try.prog 128 [.ag (flA f)] [] (i64 (wt f)) [] := by
  refine acall_body Try.func128 rfl Try.ntmps128 (by simp) (fun hsc => ?_); simp only [Lf.enter, Nat.reduceAdd]; clear hsc
  repeat' (first | (guard_target =~ Lf.PWp _ _ _ _ _ _ _; first | (refine pwp_seq_k (fun K hK => ?_)) | (refine pwp_rg_then ?_) | (refine pwp_ret ?_)) | (guard_target =~ Lf.rg _ _ _ _ _ _ _; first | (refine rg_end ?_) | (refine rg_a rfl (by (try simp (disch := omega) only [go_sem, seval, ↓reduceIte]); rfl) ?_) | (refine rg_v rfl (by (try simp (disch := omega) only [go_sem, seval, ↓reduceIte]); rfl) ?_) | (refine rg_s rfl ?_)) | (guard_target =~ Lf.SOp _ _ _ _ _ _; first | (refine n_box rfl (by (try simp (disch := omega) only [go_sem, seval, ↓reduceIte]); rfl) (by (try simp (disch := omega) only [go_sem, seval, ↓reduceIte]); rfl) (by first | (simp (disch := omega) only [go_sem, seval, ↓reduceIte]; done) | rfl) (by (try simp (disch := omega) only [go_sem, seval, ↓reduceIte]); rfl) (by (try simp (disch := omega) only [go_sem, seval, ↓reduceIte]); rfl) ?_)) | (guard_target =~ (_ ∨ _) ∧ _; first | ((refine end_q [] (by first | exact .inr rfl | exact .inl rfl | fail) (by rfl) (by rw [Try.results128, Lf.res1]) (by first | ((try simp (disch := omega) only [go_sem, seval, ↓reduceIte]); rfl) | (simp (disch := omega) only [go_sem, seval, ↓reduceIte]; done)) (by first | ((try simp (disch := omega) only [go_sem, seval, ↓reduceIte]); rfl) | (simp (disch := omega) only [go_sem, seval, ↓reduceIte]; done)) (ale_1 ?_) ?_) <;> (try (first | exact ale_eq (by with_reducible rfl) | exact ale_full | exact ale_sl (fun _ => rfl) | exact ale_sl (by simp) | exact ale_junk | exact ale_eq rfl | exact stq (by with_reducible rfl) | exact stq (by rfl) | exact stq (by simp (disch := omega) only [go_sem, seval, ↓reduceIte]))))) | (refine hK _ _ ?_; clear hK K))
theorem d_may (m : Int) : AEq Try.prog 113 [i64 m] [] (bl (decide (0 ≤ m ∧ m ≤ 2147483647))) [] := by
  refine acall_body Try.func113 rfl Try.ntmps113 (by simp) (fun hsc => ?_); simp only [Lf.enter, Nat.reduceAdd]; clear hsc
  repeat' (first | (guard_target =~ Lf.PWp _ _ _ _ _ _ _; first | (refine pwp_seq_k (fun K hK => ?_)) | (refine pwp_rg_then ?_) | (refine pwp_ret ?_)) | (guard_target =~ Lf.rg _ _ _ _ _ _ _; first | (refine rg_end ?_) | (refine rg_a rfl (by (try simp (disch := omega) only [go_sem, seval, ↓reduceIte]); rfl) ?_) | (refine rg_v rfl (by (try simp (disch := omega) only [go_sem, seval, ↓reduceIte]); rfl) ?_) | (refine rg_gq rfl (by first | (simp only [go_sem, seval, ↓reduceIte]; done) | (simp only [go_sem, seval, ↓reduceIte]; rfl)) (by first | (simp only [go_sem, seval, ↓reduceIte]; done) | (simp only [go_sem, seval, ↓reduceIte]; rfl) | rfl) (by (try simp (disch := omega) only [go_sem, seval, ↓reduceIte]); rfl) ?_)) | (guard_target =~ (_ ∨ _) ∧ _; first | ((refine end_q [] (by first | exact .inr rfl | exact .inl rfl | fail) (by rfl) (by rw [Try.results113, Lf.res1]) (by first | ((try simp (disch := omega) only [go_sem, seval, ↓reduceIte]); rfl) | (simp (disch := omega) only [go_sem, seval, ↓reduceIte]; done)) (by first | ((try simp (disch := omega) only [go_sem, seval, ↓reduceIte]); rfl) | (simp (disch := omega) only [go_sem, seval, ↓reduceIte]; done)) (ale_1 ?_) ?_) <;> (try (first | exact ale_eq (by with_reducible rfl) | exact ale_full | exact ale_sl (fun _ => rfl) | exact ale_sl (by simp) | exact ale_junk | exact ale_eq rfl | exact stq (by with_reducible rfl) | exact stq (by rfl) | exact stq (by simp (disch := omega) only [go_sem, seval, ↓reduceIte]))))) | (refine hK _ _ ?_; clear hK K))
  exact ale_bl (by simp)
theorem r_may (m : Int) : AEq Try.prog 69 [i64 m] [] (bl (decide (0 ≤ m ∧ m ≤ 2147483647))) [] := by
  refine acall_body Try.func69 rfl Try.ntmps69 (by simp) (fun hsc => ?_); simp only [Lf.enter, Nat.reduceAdd]; clear hsc
  repeat' (first | (guard_target =~ Lf.PWp _ _ _ _ _ _ _; first | (refine pwp_seq_k (fun K hK => ?_)) | (refine pwp_rg_then ?_) | (refine pwp_ret ?_)) | (guard_target =~ Lf.rg _ _ _ _ _ _ _; first | (refine rg_end ?_) | (refine rg_a rfl (by (try simp (disch := omega) only [go_sem, seval, ↓reduceIte]); rfl) ?_) | (refine rg_v rfl (by (try simp (disch := omega) only [go_sem, seval, ↓reduceIte]); rfl) ?_) | (refine rg_gq rfl (by first | (simp only [go_sem, seval, ↓reduceIte]; done) | (simp only [go_sem, seval, ↓reduceIte]; rfl)) (by first | (simp only [go_sem, seval, ↓reduceIte]; done) | (simp only [go_sem, seval, ↓reduceIte]; rfl) | rfl) (by (try simp (disch := omega) only [go_sem, seval, ↓reduceIte]); rfl) ?_)) | (guard_target =~ (_ ∨ _) ∧ _; first | ((refine end_q [] (by first | exact .inr rfl | exact .inl rfl | fail) (by rfl) (by rw [Try.results69, Lf.res1]) (by first | ((try simp (disch := omega) only [go_sem, seval, ↓reduceIte]); rfl) | (simp (disch := omega) only [go_sem, seval, ↓reduceIte]; done)) (by first | ((try simp (disch := omega) only [go_sem, seval, ↓reduceIte]); rfl) | (simp (disch := omega) only [go_sem, seval, ↓reduceIte]; done)) (ale_1 ?_) ?_) <;> (try (first | exact ale_eq (by with_reducible rfl) | exact ale_full | exact ale_sl (fun _ => rfl) | exact ale_sl (by simp) | exact ale_junk | exact ale_eq rfl | exact stq (by with_reducible rfl) | exact stq (by rfl) | exact stq (by simp (disch := omega) only [go_sem, seval, ↓reduceIte]))))) | (refine hK _ _ ?_; clear hK K))
  exact ale_bl (by simp)
end Go.Proofs.Ytideijigonjohaa
