import Derived.Test.YtpkangodlfhjgaaH02
import Derived.Test.YtpkangodlfhjgaaA07
set_option linter.unusedVariables false
set_option linter.unusedSimpArgs false
namespace Go.Proofs.Ytpkangodlfhjgaa
open Go Go.Lf Go.Proofs
attribute [local irreducible] Lf.rg Lf.ro Lf.PWp Lf.SOp Lf.ACall Lf.Scoped Lf.dg
set_option maxRecDepth 20000
set_option maxHeartbeats 4000000
@[go_sem] theorem fz_mapset {κ : List Nat} {σ : Sto} (l : List (Int × Int)) : List.map (fzl κ σ) (l.map setA) = l.map setA := fz_mapg (fun _ => rfl) l
def decS (b : List UInt8) : Int × Int := (getN b 2, getN (b.drop 2) 4)
def parS (b : List UInt8) : Nat → List (Int × Int)
  | 0 => []
  | k + 1 => parS b k ++ [decS (b.drop (6 * k))]
def parE (b : List UInt8) : Int := if b.length % 6 = 0 then 0 else 4
def parL (b : List UInt8) : List (Int × Int) := if b.length % 6 = 0 then parS b (b.length / 6) else []
theorem parS_len (b : List UInt8) (k : Nat) : (parS b k).length = k := by induction k with | zero => rfl | succ k ih => simp [parS, ih]
theorem set_parse (f q : Bool) (b : List UInt8) (hb : b.length ≤ 100000000000) : AEq Try.prog 70 [.sl f q (b.map byteA)] [] (.tu [.sl false false ((parL b).map setA), i64 (parE b)]) [] := by
  by_cases h6 : b.length % 6 = 0
  · have h1 : parE b = 0 := if_pos h6
    have h2 : parL b = parS b (b.length / 6) := if_pos h6
    rw [h1, h2]
    refine acall_body Try.func70 rfl Try.ntmps70 (by simp) (fun hsc => ?_); simp only [Lf.enter, Nat.reduceAdd]; clear hsc
    have hU := True.intro
    repeat' (first | (guard_target =~ PWp _ _ _ _ _ _ _; first | (refine pwp_seq_k (fun K hK => ?_)) | (refine pwp_block ?_) | (refine pwp_rg_then ?_) | (refine pwp_skip ?_) | ((refine pwp_cond_d (fun hcd => ?_) (fun hcd => ?_)) <;> (try simp only [hcP] at hcd) <;> (try (exfalso; first | omega | exact absurd hcd (by assumption) | exact absurd (by assumption) hcd)))) | (guard_target =~ rg _ _ _ _ _ _ _; first | (guard_target =~ rg _ _ _ [] _ _ _; first | (refine rg_end ?_)) | (refine rg_a rfl (h := ?_)) | (refine rg_v rfl (h := ?_)) | (refine rg_s rfl ?_)) | (guard_target =~ SOp _ _ _ _ _ _; first | (guard_target =~ SOp _ _ ⟨_, .call ⟨.value (.func 66), _, _⟩, _, _, _, none⟩ _ _ _; first | (refine n_call (f := 66) rfl Try.call66 (h := AEq.sub' [] (by first | ((repeat' (first | exact trivial | (first | exact arg_lit | exact arg_sl id id | exact arg_nil | exact arg_sl (by simp) id | exact arg_sl (by simp) (fun _ => rfl) | exact arg_row_m (by rfl) (by rfl) (fun _ => rfl) | exact arg_vw_m (by rfl) (by rfl) (fun _ => rfl) | exact arg_rn (by rfl) (by rfl) | exact arg_junk) | refine ⟨?_, ?_⟩)); done) | fail) (hc := cur_new _ _ _ (by omega)) (hq := ?_))))) | (refine hK _ _ ?_; clear hK K))
    refine pwp_row 5 86 2 (by decide) (by rfl) rfl rfl ?_
    refine pwp_loop_e [5, 6, 7, 8, 9, 16, 17, 18, 19, 20, 21, 22, 23, 24, 25, 26, 27, 28, 29, 30, 31, 32, 33, 34] (fun s : Nat × Nat => [(5, .row 1 s.2)]) (fun s => [.box [.sl false false (b.map byteA), i64 (6 * s.1)], .row s.2 86 2 ((parS b s.1).map setA)]) (fun s => s.1 ≤ b.length / 6) (fun s => b.length / 6 - s.1) (0, 0) (Nat.zero_le _) ?_ rfl ?_
    · (refine ⟨⟨_, (by (try simp (disch := omega) only [go_sem, seval, ↓reduceIte, hU]) <;> rfl), ?_⟩, trivial⟩ <;> (try (first | exact ale_eq (by with_reducible rfl) | exact ale_full | exact ale_sl (fun _ => rfl) | exact ale_sl (by simp) | exact ale_junk | exact ale_eq rfl)))
    · rintro ⟨k, s⟩ hk
      simp only [mask, List.map_cons, List.map_nil, List.cons_append, List.nil_append]
      dsimp only at hk ⊢
      have hpl := parS_len b k
      by_cases hlt : k < b.length / 6
      · have e1 : (6 * (k : Int)).toNat = 6 * k := by omega
        have e2 : (6 * (k : Int) + 2).toNat = 6 * k + 2 := by omega
        have hE1 : getE (b.drop (6 * (k : Int)).toNat) 2 = 0 := by
          unfold getE
          rw [if_neg (by rw [okS_yes (by omega)]; simp), if_neg (by rw [e1, List.length_drop]; omega)]
        have hE2 : getE (b.drop (6 * (k : Int) + 2).toNat) 4 = 0 := by
          unfold getE
          rw [if_neg (by rw [okS_yes (by omega)]; simp), if_neg (by rw [e2, List.length_drop]; omega)]
        have hc1 : curN b (6 * (k : Int)) 2 = 6 * (k : Int) + 2 := by unfold curN; rw [if_pos hE1]
        have hc2 : curN b (6 * (k : Int) + 2) 4 = 6 * ((k + 1 : Nat) : Int) := by unfold curN; rw [if_pos hE2]; omega
        have hd : decS (b.drop (6 * k)) = (getN (b.drop (6 * (k : Int)).toNat) 2, getN (b.drop (6 * (k : Int) + 2).toNat) 4) := by
          unfold decS; rw [e1, e2, List.drop_drop]
        have hU := And.intro @hc1 (@hc2)
        repeat' (first | (guard_target =~ PWp _ _ _ _ _ _ _; first | (refine pwp_seq_k (fun K hK => ?_)) | (refine pwp_block ?_) | (refine pwp_rg_then ?_) | (refine pwp_rg ?_) | (refine pwp_skip ?_) | ((refine pwp_cond_d (fun hcd => ?_) (fun hcd => ?_)) <;> (try simp only [hcP] at hcd) <;> (try (exfalso; first | omega | exact absurd hcd (by assumption) | exact absurd (by assumption) hcd)))) | (guard_target =~ rg _ _ _ _ _ _ _; first | (guard_target =~ rg _ _ _ [] _ _ _; first | (refine rg_end ?_)) | (refine rg_a rfl (h := ?_)) | (refine rg_x rfl (hy := rfl) (h := ?_)) | (refine rg_v rfl (h := ?_)) | (refine rg_s rfl ?_)) | (guard_target =~ SOp _ _ _ _ _ _; first | (guard_target =~ SOp _ _ ⟨_, .call ⟨.value (.func 89), _, _⟩, _, _, _, none⟩ _ _ _; first | (refine n_call (f := 89) rfl Try.call89 (h := AEq.sub' [_] (by first | ((repeat' (first | exact trivial | (first | exact arg_lit | exact arg_sl id id | exact arg_nil | exact arg_sl (by simp) id | exact arg_sl (by simp) (fun _ => rfl) | exact arg_row_m (by rfl) (by rfl) (fun _ => rfl) | exact arg_vw_m (by rfl) (by rfl) (fun _ => rfl) | exact arg_rn (by rfl) (by rfl) | exact arg_junk) | refine ⟨?_, ?_⟩)); done) | fail) (hc := cur_num _ _ _ _ (by omega) (by omega) (by omega)) (hq := ?_)))) | (guard_target =~ SOp _ _ ⟨_, .buildSlice _ _ _, _, _, _, none⟩ _ _ _; first | (refine n_lit rfl (he := by first | exact eo3 | exact eo4 | exact eo5 | exact eo22 | exact eo26 | exact eo31 | exact eo86 | exact eo96 | exact eo123 | fail) (hK := ?_))) | (guard_target =~ SOp _ _ ⟨_, .build _ _, _, _, _, none⟩ _ _ _; first | (refine n_build rfl (by first | exact bd86 | exact bd123 | fail) (hK := ?_))) | (guard_target =~ SOp _ _ ⟨_, .call ⟨.value (.func 69), _, _⟩, _, _, _, none⟩ _ _ _; first | (refine n_call (f := 69) rfl Try.call69 (h := AEq.sub' [_] (by first | ((repeat' (first | exact trivial | (first | exact arg_lit | exact arg_sl id id | exact arg_nil | exact arg_sl (by simp) id | exact arg_sl (by simp) (fun _ => rfl) | exact arg_row_m (by rfl) (by rfl) (fun _ => rfl) | exact arg_vw_m (by rfl) (by rfl) (fun _ => rfl) | exact arg_rn (by rfl) (by rfl) | exact arg_junk) | refine ⟨?_, ?_⟩)); done) | fail) (hc := cur_left _ _ _ (by omega) (by omega)) (hq := ?_)))) | (guard_target =~ SOp _ _ ⟨_, .call ⟨.builtin .append, _, _⟩, _, _, _, none⟩ _ _ _; first | (refine n_append_row rfl (he := by first | exact eo3 | exact eo4 | exact eo5 | exact eo22 | exact eo26 | exact eo31 | exact eo86 | exact eo96 | exact eo123 | fail) (hK := ?_)))) | (refine hK _ _ ?_; clear hK K) | (dsimp only [Lf.thenQ, Lf.blockQ]))
        refine ⟨(k + 1, s + 1), by dsimp only; omega, by dsimp only; omega, ?_, (by repeat' (first | exact agr_refl | refine agr_cons (by rfl) ?_)), by first | (dsimp only; simp only [parS, hd, List.map_append, List.map_cons, List.map_nil, setA]; done) | fail⟩
        (refine ⟨⟨_, (by (try simp (disch := omega) only [go_sem, seval, ↓reduceIte, hU]) <;> rfl), ?_⟩, trivial⟩ <;> (try (first | exact ale_eq (by with_reducible rfl) | exact ale_full | exact ale_sl (fun _ => rfl) | exact ale_sl (by simp) | exact ale_junk | exact ale_eq rfl)))
      · have he : k = b.length / 6 := by omega
        subst he
        repeat' (first | (guard_target =~ PWp _ _ _ _ _ _ _; first | (refine pwp_seq_k (fun K hK => ?_)) | (refine pwp_rg_then ?_) | (refine pwp_ret ?_) | (refine pwp_exit ?_) | ((refine pwp_cond_d (fun hcd => ?_) (fun hcd => ?_)) <;> (try simp only [hcP] at hcd) <;> (try (exfalso; first | omega | exact absurd hcd (by assumption) | exact absurd (by assumption) hcd)))) | (guard_target =~ rg _ _ _ _ _ _ _; first | (guard_target =~ rg _ _ _ [] _ _ _; first | (refine rg_end ?_)) | (refine rg_a rfl (h := ?_)) | (refine rg_v rfl (h := ?_)) | (refine rg_s rfl ?_)) | (guard_target =~ SOp _ _ _ _ _ _; first | (guard_target =~ SOp _ _ ⟨_, .call ⟨.value (.func 69), _, _⟩, _, _, _, none⟩ _ _ _; first | (refine n_call (f := 69) rfl Try.call69 (h := AEq.sub' [_] (by first | ((repeat' (first | exact trivial | (first | exact arg_lit | exact arg_sl id id | exact arg_nil | exact arg_sl (by simp) id | exact arg_sl (by simp) (fun _ => rfl) | exact arg_row_m (by rfl) (by rfl) (fun _ => rfl) | exact arg_vw_m (by rfl) (by rfl) (fun _ => rfl) | exact arg_rn (by rfl) (by rfl) | exact arg_junk) | refine ⟨?_, ?_⟩)); done) | fail) (hc := cur_left _ _ _ (by omega) (by omega)) (hq := ?_))))) | (guard_target =~ (_ ∨ _) ∧ _; first | ((refine end_d [] (by rw [Try.results70, Lf.res2]) (ale_2 ?_ ?_) ?_) <;> (try (first | exact ale_eq (by with_reducible rfl) | exact ale_full | exact ale_sl (fun _ => rfl) | exact ale_sl (by simp) | exact ale_junk | exact ale_eq rfl | exact stq (by with_reducible rfl) | exact stq (by rfl) | exact stq (by simp (disch := omega) only [go_sem, seval, ↓reduceIte, hU]))))) | (refine hK _ _ ?_; clear hK K) | (apply_assumption (exfalso := false) (symm := false)))
  · have h1 : parE b = 4 := if_neg h6
    have h2 : parL b = [] := if_neg h6
    rw [h1, h2]
    refine acall_body Try.func70 rfl Try.ntmps70 (by simp) (fun hsc => ?_); simp only [Lf.enter, Nat.reduceAdd]; clear hsc
    have hU := True.intro
    repeat' (first | (guard_target =~ PWp _ _ _ _ _ _ _; first | (refine pwp_seq_k (fun K hK => ?_)) | (refine pwp_rg_then ?_) | (refine pwp_ret ?_) | ((refine pwp_cond_d (fun hcd => ?_) (fun hcd => ?_)) <;> (try simp only [hcP] at hcd) <;> (try (exfalso; first | omega | exact absurd hcd (by assumption) | exact absurd (by assumption) hcd)))) | (guard_target =~ rg _ _ _ _ _ _ _; first | (guard_target =~ rg _ _ _ [] _ _ _; first | (refine rg_end ?_)) | (refine rg_a rfl (h := ?_)) | (refine rg_v rfl (h := ?_))) | (guard_target =~ (_ ∨ _) ∧ _; first | ((refine end_d [] (by rw [Try.results70, Lf.res2]) (ale_2 ?_ ?_) ?_) <;> (try (first | exact ale_eq (by with_reducible rfl) | exact ale_full | exact ale_sl (fun _ => rfl) | exact ale_sl (by simp) | exact ale_junk | exact ale_eq rfl | exact stq (by with_reducible rfl) | exact stq (by rfl) | exact stq (by simp (disch := omega) only [go_sem, seval, ↓reduceIte, hU]))))) | (refine hK _ _ ?_; clear hK K))
theorem rset_parse (f : Bool) (b : List UInt8) (hb : b.length ≤ 100000000000) : AEq Try.prog 51 [.sl f false (b.map byteA)] [] (.tu [.sl false false ((parL b).map setA), bl (decide (parE b = 0))]) [] := by
  have h1 : b.length % 6 = 0 → parE b = 0 := fun h => if_pos h
  have h2 : b.length % 6 = 0 → parL b = parS b (b.length / 6) := fun h => if_pos h
  have h3 : ¬ b.length % 6 = 0 → parE b = 4 := fun h => if_neg h
  have h4 : ¬ b.length % 6 = 0 → parL b = [] := fun h => if_neg h
  refine acall_body Try.func51 rfl Try.ntmps51 (by simp) (fun hsc => ?_); simp only [Lf.enter, Nat.reduceAdd]; clear hsc
  have hU := True.intro
  repeat' (first | (guard_target =~ PWp _ _ _ _ _ _ _; first | (refine pwp_seq_k (fun K hK => ?_)) | (refine pwp_block ?_) | (refine pwp_rg_then ?_)) | (guard_target =~ rg _ _ _ _ _ _ _; first | (guard_target =~ rg _ _ _ [] _ _ _; first | (refine rg_end ?_)) | (refine rg_a rfl (h := ?_))) | (refine hK _ _ ?_; clear hK K))
  refine pwp_row 4 86 2 (by decide) (by rfl) rfl rfl ?_
  refine pwp_loop_e [0, 4, 5, 6, 7, 8, 9, 10, 11, 12, 13, 14, 15, 16, 17, 18, 19, 20, 21, 22, 23, 24, 25, 26, 27, 28, 29, 30] (fun s : Nat × Nat => [(4, .row 0 s.2), (0, .sl false false ((b.drop (6 * s.1)).map byteA))]) (fun s => [.row s.2 86 2 ((parS b s.1).map setA)]) (fun s => s.1 ≤ b.length / 6) (fun s => b.length / 6 - s.1) (0, 0) (Nat.zero_le _) ?_ rfl ?_
  · (refine ⟨⟨_, (by (try simp (disch := omega) only [go_sem, seval, ↓reduceIte, hU]) <;> rfl), ?_⟩, ⟨_, (by (try simp (disch := omega) only [go_sem, seval, ↓reduceIte, hU]) <;> rfl), ?_⟩, trivial⟩ <;> (try (first | exact ale_eq (by with_reducible rfl) | exact ale_full | exact ale_sl (fun _ => rfl) | exact ale_sl (by simp) | exact ale_junk | exact ale_eq rfl)))
  · rintro ⟨k, s⟩ hk
    simp only [mask, List.map_cons, List.map_nil, List.cons_append, List.nil_append]
    dsimp only at hk ⊢
    have hpl := parS_len b k
    have hdl : (b.drop (6 * k)).length = b.length - 6 * k := List.length_drop
    by_cases hlt : k < b.length / 6
    · have hd : decS (b.drop (6 * k)) = (getN (b.drop (6 * k)) 2, getN ((b.drop (6 * k)).drop 2) 4) := rfl
      have hdd : (b.drop (6 * k)).drop 6 = b.drop (6 * (k + 1)) := by rw [List.drop_drop]; congr 1
      have hd2 : ((b.drop (6 * k)).drop 2).length = b.length - 6 * k - 2 := by rw [List.length_drop, hdl]
      repeat' (first | (guard_target =~ PWp _ _ _ _ _ _ _; first | (refine pwp_seq_k (fun K hK => ?_)) | (refine pwp_block ?_) | (refine pwp_rg_then ?_) | (refine pwp_rg ?_) | (refine pwp_skip ?_) | ((refine pwp_cond_d (fun hcd => ?_) (fun hcd => ?_)) <;> (try simp only [hcP] at hcd) <;> (try (exfalso; first | omega | exact absurd hcd (by assumption) | exact absurd (by assumption) hcd)))) | (guard_target =~ rg _ _ _ _ _ _ _; first | (guard_target =~ rg _ _ _ [] _ _ _; first | (refine rg_end ?_)) | (refine rg_a rfl (h := ?_)) | (refine rg_x rfl (hy := rfl) (h := ?_)) | (refine rg_v rfl (h := ?_)) | (refine rg_s rfl ?_)) | (guard_target =~ SOp _ _ _ _ _ _; first | (guard_target =~ SOp _ _ ⟨_, .slice _ _ _ _ _, _, _, _, none⟩ _ _ _; first | (refine n_slice rfl (hg := (fun _ => (by simp only [go_sem, seval, ↓reduceIte, hU] <;> rfl))) (hK := ?_))) | (guard_target =~ SOp _ _ ⟨_, .call ⟨.value (.func 76), _, _⟩, _, _, _, none⟩ _ _ _; first | (refine n_call (f := 76) rfl Try.call76 (h := AEq.pure' (hc := rget_is _ _ _ _ (by omega)) (hq := ?_)))) | (guard_target =~ SOp _ _ ⟨_, .buildSlice _ _ _, _, _, _, none⟩ _ _ _; first | (refine n_lit rfl (he := by first | exact eo3 | exact eo4 | exact eo5 | exact eo22 | exact eo26 | exact eo31 | exact eo86 | fail) (hK := ?_))) | (guard_target =~ SOp _ _ ⟨_, .build _ _, _, _, _, none⟩ _ _ _; first | (refine n_build rfl (by first | exact bd86 | fail) (hK := ?_))) | (guard_target =~ SOp _ _ ⟨_, .call ⟨.builtin .append, _, _⟩, _, _, _, none⟩ _ _ _; first | (refine n_append_row rfl (he := by first | exact eo3 | exact eo4 | exact eo5 | exact eo22 | exact eo26 | exact eo31 | exact eo86 | fail) (hK := ?_)))) | (refine hK _ _ ?_; clear hK K) | (dsimp only [Lf.thenQ, Lf.blockQ]))
      refine ⟨(k + 1, s + 1), by dsimp only; omega, by dsimp only; omega, ?_, (by repeat' (first | exact agr_refl | refine agr_cons (by rfl) ?_)), by first | (dsimp only; simp only [parS, hd, List.map_append, List.map_cons, List.map_nil, setA]; done) | fail⟩
      (refine ⟨⟨_, (by (try simp (disch := omega) only [go_sem, seval, ↓reduceIte, hU]) <;> rfl), ?_⟩, ⟨_, (by (try simp (disch := omega) only [go_sem, seval, ↓reduceIte, hU]) <;> rfl), ?_⟩, trivial⟩ <;> (try (first | exact ale_eq (by with_reducible rfl) | exact ale_full | exact ale_sl (fun _ => rfl) | exact ale_sl (by simp) | exact ale_junk | exact ale_eq rfl)))
      all_goals exact ale_slm hdd id
    · have he : k = b.length / 6 := by omega
      subst he
      repeat' (first | (guard_target =~ PWp _ _ _ _ _ _ _; first | (refine pwp_seq_k (fun K hK => ?_)) | (refine pwp_rg_then ?_) | (refine pwp_ret ?_) | (refine pwp_skip ?_) | (refine pwp_exit ?_) | ((refine pwp_cond_d (fun hcd => ?_) (fun hcd => ?_)) <;> (try simp only [hcP] at hcd) <;> (try (exfalso; first | omega | exact absurd hcd (by assumption) | exact absurd (by assumption) hcd)))) | (guard_target =~ rg _ _ _ _ _ _ _; first | (guard_target =~ rg _ _ _ [] _ _ _; first | (refine rg_end ?_)) | (refine rg_a rfl (h := ?_)) | (refine rg_v rfl (h := ?_))) | (guard_target =~ (_ ∨ _) ∧ _; first | ((refine end_d [] (by rw [Try.results51, Lf.res2]) (ale_2 ?_ ?_) ?_) <;> (try (first | exact ale_eq (by with_reducible rfl) | exact ale_full | exact ale_sl (fun _ => rfl) | exact ale_sl (by simp) | exact ale_junk | exact ale_eq rfl | exact stq (by with_reducible rfl) | exact stq (by rfl) | exact stq (by simp (disch := omega) only [go_sem, seval, ↓reduceIte, hU]))))) | (refine hK _ _ ?_; clear hK K) | (apply_assumption (exfalso := false) (symm := false)))
      · rw [h4 (by omega)]; exact ale_full
      · exact ale_bl (by rw [h3 (by omega)]; rfl)
      · rw [h2 (by omega)]; exact ale_full
      · exact ale_bl (by rw [h1 (by omega)]; rfl)
def okSet (s : Int × Int) : Prop := putE s.1 2 = 0 ∧ putE s.2 4 = 0
instance (s : Int × Int) : Decidable (okSet s) := by unfold okSet; infer_instance
def setB (s : Int × Int) : List UInt8 := beB s.1 2 ++ beB s.2 4
def spE : List (Int × Int) → Int
  | [] => 0
  | s :: l => if okSet s then spE l else 5
def spF (l : List (Int × Int)) : List UInt8 := l.flatMap setB
def spB (l : List (Int × Int)) : List UInt8 := if spE l = 0 then spF l else []
theorem spF_snoc (l : List (Int × Int)) (s : Int × Int) : spF (l ++ [s]) = spF l ++ setB s := by simp [spF]
theorem spF_len (l : List (Int × Int)) : (spF l).length = 6 * l.length := by
  induction l with
  | nil => rfl
  | cons s l ih =>
    show (setB s ++ spF l).length = _
    rw [List.length_append, ih, setB, List.length_append, beB_len, beB_len, List.length_cons]; omega
theorem putE_five (n size : Int) (h1 : 1 ≤ size) (h2 : size ≤ 4) (h : ¬ putE n size = 0) : putE n size = 5 := by
  unfold putE at *
  rw [okS_yes ⟨h1, h2⟩] at *
  rw [if_neg (by simp)] at *
  split
  · rfl
  · rename_i h3; rw [if_neg h3] at h; exact absurd rfl h
theorem putL_of (b : List UInt8) (n size : Int) (h : putE n size = 0) : putL b n size = b ++ beB n size.toNat := if_pos h
theorem sp_hit {l : List (Int × Int)} {i : Nat} {s : Int × Int} (h : spE l = spE (l.drop i)) (hs : l[i]? = some s) (hc : ¬ okSet s) : spE l = 5 := by
  rw [h, drop_at hs, spE, if_neg hc]
theorem sp_go {l : List (Int × Int)} {i : Nat} {s : Int × Int} (h : spE l = spE (l.drop i)) (hs : l[i]? = some s) (hc : okSet s) : spE l = spE (l.drop (i + 1)) := by
  rw [h, drop_at hs, spE, if_pos hc]
theorem sp_end {l : List (Int × Int)} {i : Nat} (h : spE l = spE (l.drop i)) (hi : l.length ≤ i) : spE l = 0 := by
  rw [h, List.drop_eq_nil_of_le hi]; rfl
theorem set_put (f q : Bool) (l : List (Int × Int)) (hl : l.length ≤ 1000000) : AEq Try.prog 99 [.sl f q (l.map setA)] [] (.tu [.sl false false ((spB l).map byteA), i64 (spE l)]) [] := by
  have hB : spE l = 0 → spB l = spF l := fun h => if_pos h
  have hB5 : spE l = 5 → spB l = [] := fun h => if_neg (by omega)
  refine acall_body Try.func99 rfl Try.ntmps99 (by simp) (fun hsc => ?_); simp only [Lf.enter, Nat.reduceAdd]; clear hsc
  have hU := True.intro
  repeat' (first | (guard_target =~ PWp _ _ _ _ _ _ _; first | (refine pwp_seq_k (fun K hK => ?_)) | (refine pwp_block ?_) | (refine pwp_rg_then ?_)) | (guard_target =~ rg _ _ _ _ _ _ _; first | (guard_target =~ rg _ _ _ [] _ _ _; first | (refine rg_end ?_)) | (refine rg_a rfl (h := ?_)) | (refine rg_v rfl (h := ?_))) | (refine hK _ _ ?_; clear hK K))
  refine pwp_loop_g [2, 3, 4, 6, 7, 8, 11, 12, 13, 14, 15, 16, 17, 18, 19, 20, 21, 22, 23, 24, 25, 26, 27, 28, 29, 30, 31, 32, 33, 34, 35] [] (fun i : Nat => [(11, i64 i), (4, .sl false false ((spF (l.take i)).map byteA))]) (fun i => []) (fun i => i ≤ l.length ∧ spE l = spE (l.drop i)) (fun i => l.length - i) 0 (fun _ => rfl) rfl rfl ⟨Nat.zero_le _, rfl⟩ ?_ rfl (by intro s i x h; simp only [List.mem_cons, Prod.mk.injEq, List.not_mem_nil, or_false] at h; rcases h with ⟨rfl, _⟩ | ⟨rfl, _⟩ <;> decide) ?_
  · (refine ⟨⟨_, (by (try simp (disch := omega) only [go_sem, seval, ↓reduceIte, hU]) <;> rfl), ?_⟩, ⟨_, (by (try simp (disch := omega) only [go_sem, seval, ↓reduceIte, hU]) <;> rfl), ?_⟩, trivial⟩ <;> (try (first | exact ale_eq (by with_reducible rfl) | exact ale_full | exact ale_sl (fun _ => rfl) | exact ale_sl (by simp) | exact ale_junk | exact ale_eq rfl)))
  · rintro i ⟨hi, hk⟩
    simp only [mask, List.map_cons, List.map_nil, List.cons_append, List.nil_append]
    have hfl := spF_len (l.take i)
    rw [List.length_take] at hfl
    by_cases hlt : i < l.length
    · obtain ⟨s, hs⟩ := ex_at hlt
      have hsn := spF_snoc (l.take i) s
      rw [← take_snoc hs] at hsn
      have hpl := putL_len (spF (l.take i)) s.1 2
      by_cases h1 : putE s.1 2 = 0
      · have hL1 := putL_of (spF (l.take i)) s.1 2 h1
        by_cases h2 : putE s.2 4 = 0
        · have hgo := sp_go hk hs ⟨h1, h2⟩
          have hL2 := putL_of (putL (spF (l.take i)) s.1 2) s.2 4 h2
          have hU := And.intro @h1 (@h2)
          repeat' (first | (guard_target =~ PWp _ _ _ _ _ _ _; first | (refine pwp_seq_k (fun K hK => ?_)) | (refine pwp_block ?_) | (refine pwp_rg_then ?_) | (refine pwp_skip ?_) | ((refine pwp_cond_d (fun hcd => ?_) (fun hcd => ?_)) <;> (try simp only [hcP] at hcd) <;> (try (exfalso; first | omega | exact absurd hcd (by assumption) | exact absurd (by assumption) hcd)))) | (guard_target =~ rg _ _ _ _ _ _ _; first | (guard_target =~ rg _ _ _ [] _ _ _; first | (refine rg_end ?_)) | (refine rg_a rfl (h := ?_)) | (refine rg_x rfl (hy := rfl) (h := ?_)) | (refine rg_v rfl (h := ?_)) | (refine rg_s rfl ?_) | (refine rg_n rfl ?_)) | (guard_target =~ SOp _ _ _ _ _ _; first | (guard_target =~ SOp _ _ ⟨_, .call ⟨.value (.func 96), _, _⟩, _, _, _, none⟩ _ _ _; first | (refine n_call (f := 96) rfl Try.call96 (h := AEq.pure' (hc := put_is _ _ _ _ _ (by omega)) (hq := ?_)))) | (guard_target =~ SOp _ _ ⟨_, .indexAddr _ _ _, _, _, _, none⟩ _ _ _; first | (refine n_index rfl (hK := ?_))) | (guard_target =~ SOp _ _ ⟨_, .store _ _ _, _, _, _, none⟩ _ _ _; first | (refine n_store rfl (hK := ?_))) | (guard_target =~ SOp _ _ ⟨_, .alloc _, _, _, _, none⟩ _ _ _; first | (refine n_alloc rfl (by first | exact zv3 | exact zv4 | exact zv5 | exact zv22 | exact zv26 | exact zv31 | exact zv86 | fail) (hK := ?_)))) | (refine hK _ _ ?_; clear hK K))
          refine ⟨i + 1, ⟨by omega, hgo⟩, by omega, ?_, (by repeat' (first | exact agr_refl | refine agr_cons (by rfl) ?_)), (by first | rfl | (simp (disch := omega) only [go_sem, seval, ↓reduceIte, hU]; done) | (simp (disch := omega) only [go_sem, seval, ↓reduceIte, hU]; rfl))⟩
          (refine ⟨⟨_, (by (try simp (disch := omega) only [go_sem, seval, ↓reduceIte, hU]) <;> rfl), ?_⟩, ⟨_, (by (try simp (disch := omega) only [go_sem, seval, ↓reduceIte, hU]) <;> rfl), ?_⟩, trivial⟩ <;> (try (first | exact ale_eq (by with_reducible rfl) | exact ale_full | exact ale_sl (fun _ => rfl) | exact ale_sl (by simp) | exact ale_junk | exact ale_eq rfl)))
          all_goals exact ale_slm (by rw [hL2, hL1, hsn, List.append_assoc]; rfl) id
        · have h5 := putE_five _ _ (by decide) (by decide) h2
          have hh := sp_hit hk hs (fun h => h2 h.2)
          have hb5 := hB5 hh
          have hU := And.intro @h1 (@h5)
          repeat' (first | (guard_target =~ PWp _ _ _ _ _ _ _; first | (refine pwp_seq_k (fun K hK => ?_)) | (refine pwp_block ?_) | (refine pwp_rg_then ?_) | (refine pwp_ret ?_) | (refine pwp_skip ?_) | ((refine pwp_cond_d (fun hcd => ?_) (fun hcd => ?_)) <;> (try simp only [hcP] at hcd) <;> (try (exfalso; first | omega | exact absurd hcd (by assumption) | exact absurd (by assumption) hcd)))) | (guard_target =~ rg _ _ _ _ _ _ _; first | (guard_target =~ rg _ _ _ [] _ _ _; first | (refine rg_end ?_)) | (refine rg_a rfl (h := ?_)) | (refine rg_x rfl (hy := rfl) (h := ?_)) | (refine rg_v rfl (h := ?_)) | (refine rg_s rfl ?_) | (refine rg_n rfl ?_)) | (guard_target =~ SOp _ _ _ _ _ _; first | (guard_target =~ SOp _ _ ⟨_, .call ⟨.value (.func 96), _, _⟩, _, _, _, none⟩ _ _ _; first | (refine n_call (f := 96) rfl Try.call96 (h := AEq.pure' (hc := put_is _ _ _ _ _ (by omega)) (hq := ?_)))) | (guard_target =~ SOp _ _ ⟨_, .indexAddr _ _ _, _, _, _, none⟩ _ _ _; first | (refine n_index rfl (hK := ?_))) | (guard_target =~ SOp _ _ ⟨_, .store _ _ _, _, _, _, none⟩ _ _ _; first | (refine n_store rfl (hK := ?_))) | (guard_target =~ SOp _ _ ⟨_, .alloc _, _, _, _, none⟩ _ _ _; first | (refine n_alloc rfl (by first | exact zv3 | exact zv4 | exact zv5 | exact zv22 | exact zv26 | exact zv31 | exact zv86 | fail) (hK := ?_)))) | (guard_target =~ (_ ∨ _) ∧ _; first | ((refine end_d [] (by rw [Try.results99, Lf.res2]) (ale_2 ?_ ?_) ?_) <;> (try (first | exact ale_eq (by with_reducible rfl) | exact ale_full | exact ale_sl (fun _ => rfl) | exact ale_sl (by simp) | exact ale_junk | exact ale_eq rfl | exact stq (by with_reducible rfl) | exact stq (by rfl) | exact stq (by simp (disch := omega) only [go_sem, seval, ↓reduceIte, hU]))))) | (refine hK _ _ ?_; clear hK K))
          · (rw [hb5]; exact ale_full)
          · exact ale_i (by rw [hh])
      · have h5 := putE_five _ _ (by decide) (by decide) h1
        have hh := sp_hit hk hs (fun h => h1 h.1)
        have hb5 := hB5 hh
        have hU := @h5
        repeat' (first | (guard_target =~ PWp _ _ _ _ _ _ _; first | (refine pwp_seq_k (fun K hK => ?_)) | (refine pwp_block ?_) | (refine pwp_rg_then ?_) | (refine pwp_ret ?_) | (refine pwp_skip ?_) | ((refine pwp_cond_d (fun hcd => ?_) (fun hcd => ?_)) <;> (try simp only [hcP] at hcd) <;> (try (exfalso; first | omega | exact absurd hcd (by assumption) | exact absurd (by assumption) hcd)))) | (guard_target =~ rg _ _ _ _ _ _ _; first | (guard_target =~ rg _ _ _ [] _ _ _; first | (refine rg_end ?_)) | (refine rg_a rfl (h := ?_)) | (refine rg_x rfl (hy := rfl) (h := ?_)) | (refine rg_v rfl (h := ?_)) | (refine rg_s rfl ?_) | (refine rg_n rfl ?_)) | (guard_target =~ SOp _ _ _ _ _ _; first | (guard_target =~ SOp _ _ ⟨_, .call ⟨.value (.func 96), _, _⟩, _, _, _, none⟩ _ _ _; first | (refine n_call (f := 96) rfl Try.call96 (h := AEq.pure' (hc := put_is _ _ _ _ _ (by omega)) (hq := ?_)))) | (guard_target =~ SOp _ _ ⟨_, .indexAddr _ _ _, _, _, _, none⟩ _ _ _; first | (refine n_index rfl (hK := ?_))) | (guard_target =~ SOp _ _ ⟨_, .store _ _ _, _, _, _, none⟩ _ _ _; first | (refine n_store rfl (hK := ?_))) | (guard_target =~ SOp _ _ ⟨_, .alloc _, _, _, _, none⟩ _ _ _; first | (refine n_alloc rfl (by first | exact zv3 | exact zv4 | exact zv5 | exact zv22 | exact zv26 | exact zv31 | exact zv86 | fail) (hK := ?_)))) | (guard_target =~ (_ ∨ _) ∧ _; first | ((refine end_d [] (by rw [Try.results99, Lf.res2]) (ale_2 ?_ ?_) ?_) <;> (try (first | exact ale_eq (by with_reducible rfl) | exact ale_full | exact ale_sl (fun _ => rfl) | exact ale_sl (by simp) | exact ale_junk | exact ale_eq rfl | exact stq (by with_reducible rfl) | exact stq (by rfl) | exact stq (by simp (disch := omega) only [go_sem, seval, ↓reduceIte, hU]))))) | (refine hK _ _ ?_; clear hK K))
        · (rw [hb5]; exact ale_full)
        · exact ale_i (by rw [hh])
    · have he := sp_end hk (by omega)
      have ht : l.take i = l := List.take_of_length_le (by omega)
      repeat' (first | (guard_target =~ PWp _ _ _ _ _ _ _; first | (refine pwp_seq_k (fun K hK => ?_)) | (refine pwp_rg_then ?_) | (refine pwp_ret ?_) | (refine pwp_exit ?_) | ((refine pwp_cond_d (fun hcd => ?_) (fun hcd => ?_)) <;> (try simp only [hcP] at hcd) <;> (try (exfalso; first | omega | exact absurd hcd (by assumption) | exact absurd (by assumption) hcd)))) | (guard_target =~ rg _ _ _ _ _ _ _; first | (guard_target =~ rg _ _ _ [] _ _ _; first | (refine rg_end ?_)) | (refine rg_a rfl (h := ?_)) | (refine rg_v rfl (h := ?_))) | (guard_target =~ (_ ∨ _) ∧ _; first | ((refine end_d [] (by rw [Try.results99, Lf.res2]) (ale_2 ?_ ?_) ?_) <;> (try (first | exact ale_eq (by with_reducible rfl) | exact ale_full | exact ale_sl (fun _ => rfl) | exact ale_sl (by simp) | exact ale_junk | exact ale_eq rfl | exact stq (by with_reducible rfl) | exact stq (by rfl) | exact stq (by simp (disch := omega) only [go_sem, seval, ↓reduceIte, hU]))))) | (refine hK _ _ ?_; clear hK K) | (apply_assumption (exfalso := false) (symm := false)))
      · exact ale_slm (by rw [ht, hB he]) id
      · exact ale_i (by rw [he])
theorem rset_put (f q : Bool) (l : List (Int × Int)) (hl : l.length ≤ 1000000) : AEq Try.prog 83 [.sl f q (l.map setA)] [] (.tu [.sl false false ((spB l).map byteA), bl (decide (spE l = 0))]) [] := by
  have hB : spE l = 0 → spB l = spF l := fun h => if_pos h
  have hB5 : spE l = 5 → spB l = [] := fun h => if_neg (by omega)
  refine acall_body Try.func83 rfl Try.ntmps83 (by simp) (fun hsc => ?_); simp only [Lf.enter, Nat.reduceAdd]; clear hsc
  have hU := True.intro
  repeat' (first | (guard_target =~ PWp _ _ _ _ _ _ _; first | (refine pwp_seq_k (fun K hK => ?_)) | (refine pwp_block ?_) | (refine pwp_rg_then ?_)) | (guard_target =~ rg _ _ _ _ _ _ _; first | (guard_target =~ rg _ _ _ [] _ _ _; first | (refine rg_end ?_)) | (refine rg_a rfl (h := ?_))) | (refine hK _ _ ?_; clear hK K))
  refine pwp_row 4 5 1 (by decide) (by rfl) rfl rfl ?_
  refine pwp_loop_e [2, 3, 4, 5, 6, 7, 8, 9, 10, 11, 12, 13, 14, 15, 16, 17, 18, 19, 20, 21, 22, 23, 24, 25, 26, 27, 28, 29, 30, 31, 32, 33, 34, 35, 36, 37, 38, 39, 40, 41, 42, 43, 44] (fun s : Nat × Nat => [(5, i64 s.1), (4, .row 0 s.2)]) (fun s => [.row s.2 5 1 ((spF (l.take s.1)).map byteA)]) (fun s => s.1 ≤ l.length ∧ spE l = spE (l.drop s.1)) (fun s => l.length - s.1) (0, 0) ⟨Nat.zero_le _, rfl⟩ ?_ rfl ?_
  · (refine ⟨⟨_, (by (try simp (disch := omega) only [go_sem, seval, ↓reduceIte, hU]) <;> rfl), ?_⟩, ⟨_, (by (try simp (disch := omega) only [go_sem, seval, ↓reduceIte, hU]) <;> rfl), ?_⟩, trivial⟩ <;> (try (first | exact ale_eq (by with_reducible rfl) | exact ale_full | exact ale_sl (fun _ => rfl) | exact ale_sl (by simp) | exact ale_junk | exact ale_eq rfl)))
  · rintro ⟨i, st⟩ ⟨hi, hk⟩
    simp only [mask, List.map_cons, List.map_nil, List.cons_append, List.nil_append]
    dsimp only at hi hk ⊢
    have hfl := spF_len (l.take i)
    rw [List.length_take] at hfl
    by_cases hlt : i < l.length
    · obtain ⟨s, hs⟩ := ex_at hlt
      have hsn := spF_snoc (l.take i) s
      rw [← take_snoc hs] at hsn
      by_cases h1 : putE s.1 2 = 0
      · have hL1 := putL_of [] s.1 2 h1
        by_cases h2 : putE s.2 4 = 0
        · have hgo := sp_go hk hs ⟨h1, h2⟩
          have hL2 := putL_of [] s.2 4 h2
          have hl1 := beB_len s.1 2
          have hl2 := beB_len s.2 4
          rw [List.nil_append] at hL1 hL2
          have hU := And.intro @h1 ( And.intro @h2 ( And.intro @hL1 (@hL2)))
          repeat' (first | (guard_target =~ PWp _ _ _ _ _ _ _; first | (refine pwp_seq_k (fun K hK => ?_)) | (refine pwp_block ?_) | (refine pwp_rg_then ?_) | (refine pwp_rg ?_) | (refine pwp_skip ?_) | ((refine pwp_cond_d (fun hcd => ?_) (fun hcd => ?_)) <;> (try simp only [hcP] at hcd) <;> (try (exfalso; first | omega | exact absurd hcd (by assumption) | exact absurd (by assumption) hcd)))) | (guard_target =~ rg _ _ _ _ _ _ _; first | (guard_target =~ rg _ _ _ (⟨_, .binOp _ _ _ _ _, _, _, _, some _⟩ :: _) _ _ _; first | (refine rg_gtv rfl (h := ?_))) | (guard_target =~ rg _ _ _ (⟨_, .move _, _, _, _, some _⟩ :: _) _ _ _; first | (refine rg_gtv rfl (h := ?_))) | (guard_target =~ rg _ _ _ [] _ _ _; first | (refine rg_end ?_)) | (refine rg_a rfl (h := ?_)) | (refine rg_x rfl (hy := rfl) (h := ?_)) | (refine rg_v rfl (h := ?_)) | (refine rg_s rfl ?_)) | (guard_target =~ SOp _ _ _ _ _ _; first | (guard_target =~ SOp _ _ ⟨_, .indexAddr _ _ _, _, _, _, none⟩ _ _ _; first | (refine n_index rfl (hK := ?_))) | (guard_target =~ SOp _ _ ⟨_, .call ⟨.value (.func 82), _, _⟩, _, _, _, none⟩ _ _ _; first | (refine n_call (f := 82) rfl Try.call82 (h := AEq.pure' (hc := rput_is _ _ _ _ _ (by simp only [List.length_map, List.length_append, List.length_take, List.length_drop, List.length_cons, List.length_nil]; omega)) (hq := ?_)))) | (guard_target =~ SOp _ _ ⟨_, .call ⟨.builtin .append, _, _⟩, _, _, _, none⟩ _ _ _; first | (refine n_append_row rfl (he := by first | exact eo3 | exact eo4 | exact eo5 | exact eo22 | exact eo26 | exact eo31 | exact eo86 | fail) (hK := ?_)))) | (refine hK _ _ ?_; clear hK K))
          refine ⟨(i + 1, st + 2), ⟨by dsimp only; omega, hgo⟩, by dsimp only; omega, ?_, (by repeat' (first | exact agr_refl | refine agr_cons (by rfl) ?_)), by first | (dsimp only; rw [hsn]; simp [setB]; done) | fail⟩
          (refine ⟨⟨_, (by (try simp (disch := omega) only [go_sem, seval, ↓reduceIte, hU]) <;> rfl), ?_⟩, ⟨_, (by (try simp (disch := omega) only [go_sem, seval, ↓reduceIte, hU]) <;> rfl), ?_⟩, trivial⟩ <;> (try (first | exact ale_eq (by with_reducible rfl) | exact ale_full | exact ale_sl (fun _ => rfl) | exact ale_sl (by simp) | exact ale_junk | exact ale_eq rfl)))
        · have h5 := putE_five _ _ (by decide) (by decide) h2
          have hh := sp_hit hk hs (fun h => h2 h.2)
          have hb5 := hB5 hh
          have hU := And.intro @h1 (@h5)
          repeat' (first | (guard_target =~ PWp _ _ _ _ _ _ _; first | (refine pwp_seq_k (fun K hK => ?_)) | (refine pwp_block ?_) | (refine pwp_rg_then ?_) | (refine pwp_ret ?_) | (refine pwp_skip ?_) | ((refine pwp_cond_d (fun hcd => ?_) (fun hcd => ?_)) <;> (try simp only [hcP] at hcd) <;> (try (exfalso; first | omega | exact absurd hcd (by assumption) | exact absurd (by assumption) hcd)))) | (guard_target =~ rg _ _ _ _ _ _ _; first | (guard_target =~ rg _ _ _ (⟨_, .binOp _ _ _ _ _, _, _, _, some _⟩ :: _) _ _ _; first | (refine rg_gtv rfl (h := ?_))) | (guard_target =~ rg _ _ _ (⟨_, .move _, _, _, _, some _⟩ :: _) _ _ _; first | (refine rg_gtv rfl (h := ?_))) | (guard_target =~ rg _ _ _ [] _ _ _; first | (refine rg_end ?_)) | (refine rg_a rfl (h := ?_)) | (refine rg_x rfl (hy := rfl) (h := ?_)) | (refine rg_v rfl (h := ?_)) | (refine rg_s rfl ?_)) | (guard_target =~ SOp _ _ _ _ _ _; first | (guard_target =~ SOp _ _ ⟨_, .indexAddr _ _ _, _, _, _, none⟩ _ _ _; first | (refine n_index rfl (hK := ?_))) | (guard_target =~ SOp _ _ ⟨_, .call ⟨.value (.func 82), _, _⟩, _, _, _, none⟩ _ _ _; first | (refine n_call (f := 82) rfl Try.call82 (h := AEq.pure' (hc := rput_is _ _ _ _ _ (by simp only [List.length_map, List.length_append, List.length_take, List.length_drop, List.length_cons, List.length_nil]; omega)) (hq := ?_))))) | (guard_target =~ (_ ∨ _) ∧ _; first | ((refine end_d [] (by rw [Try.results83, Lf.res2]) (ale_2 ?_ ?_) ?_) <;> (try (first | exact ale_eq (by with_reducible rfl) | exact ale_full | exact ale_sl (fun _ => rfl) | exact ale_sl (by simp) | exact ale_junk | exact ale_eq rfl | exact stq (by with_reducible rfl) | exact stq (by rfl) | exact stq (by simp (disch := omega) only [go_sem, seval, ↓reduceIte, hU]))))) | (refine hK _ _ ?_; clear hK K))
          · (rw [hb5]; exact ale_full)
          · exact ale_bl (by rw [hh]; rfl)
      · have h5 := putE_five _ _ (by decide) (by decide) h1
        have hh := sp_hit hk hs (fun h => h1 h.1)
        have hb5 := hB5 hh
        have hU := @h5
        repeat' (first | (guard_target =~ PWp _ _ _ _ _ _ _; first | (refine pwp_seq_k (fun K hK => ?_)) | (refine pwp_block ?_) | (refine pwp_rg_then ?_) | (refine pwp_ret ?_) | (refine pwp_skip ?_) | ((refine pwp_cond_d (fun hcd => ?_) (fun hcd => ?_)) <;> (try simp only [hcP] at hcd) <;> (try (exfalso; first | omega | exact absurd hcd (by assumption) | exact absurd (by assumption) hcd)))) | (guard_target =~ rg _ _ _ _ _ _ _; first | (guard_target =~ rg _ _ _ (⟨_, .binOp _ _ _ _ _, _, _, _, some _⟩ :: _) _ _ _; first | (refine rg_gf rfl (hn := rfl) (h := ?_))) | (guard_target =~ rg _ _ _ (⟨_, .move _, _, _, _, some _⟩ :: _) _ _ _; first | (refine rg_gf rfl (hn := rfl) (h := ?_))) | (guard_target =~ rg _ _ _ [] _ _ _; first | (refine rg_end ?_)) | (refine rg_a rfl (h := ?_)) | (refine rg_x rfl (hy := rfl) (h := ?_)) | (refine rg_v rfl (h := ?_)) | (refine rg_s rfl ?_)) | (guard_target =~ SOp _ _ _ _ _ _; first | (guard_target =~ SOp _ _ ⟨_, .indexAddr _ _ _, _, _, _, none⟩ _ _ _; first | (refine n_index rfl (hK := ?_))) | (guard_target =~ SOp _ _ ⟨_, .call ⟨.value (.func 82), _, _⟩, _, _, _, none⟩ _ _ _; first | (refine n_call (f := 82) rfl Try.call82 (h := AEq.pure' (hc := rput_is _ _ _ _ _ (by simp only [List.length_map, List.length_append, List.length_take, List.length_drop, List.length_cons, List.length_nil]; omega)) (hq := ?_))))) | (guard_target =~ (_ ∨ _) ∧ _; first | ((refine end_d [] (by rw [Try.results83, Lf.res2]) (ale_2 ?_ ?_) ?_) <;> (try (first | exact ale_eq (by with_reducible rfl) | exact ale_full | exact ale_sl (fun _ => rfl) | exact ale_sl (by simp) | exact ale_junk | exact ale_eq rfl | exact stq (by with_reducible rfl) | exact stq (by rfl) | exact stq (by simp (disch := omega) only [go_sem, seval, ↓reduceIte, hU]))))) | (refine hK _ _ ?_; clear hK K))
        · (rw [hb5]; exact ale_full)
        · exact ale_bl (by rw [hh]; rfl)
    · have he := sp_end hk (by omega)
      have ht : l.take i = l := List.take_of_length_le (by omega)
      repeat' (first | (guard_target =~ PWp _ _ _ _ _ _ _; first | (refine pwp_seq_k (fun K hK => ?_)) | (refine pwp_rg_then ?_) | (refine pwp_ret ?_) | (refine pwp_exit ?_) | ((refine pwp_cond_d (fun hcd => ?_) (fun hcd => ?_)) <;> (try simp only [hcP] at hcd) <;> (try (exfalso; first | omega | exact absurd hcd (by assumption) | exact absurd (by assumption) hcd)))) | (guard_target =~ rg _ _ _ _ _ _ _; first | (guard_target =~ rg _ _ _ [] _ _ _; first | (refine rg_end ?_)) | (refine rg_a rfl (h := ?_)) | (refine rg_v rfl (h := ?_))) | (guard_target =~ (_ ∨ _) ∧ _; first | ((refine end_d [] (by rw [Try.results83, Lf.res2]) (ale_2 ?_ ?_) ?_) <;> (try (first | exact ale_eq (by with_reducible rfl) | exact ale_full | exact ale_sl (fun _ => rfl) | exact ale_sl (by simp) | exact ale_junk | exact ale_eq rfl | exact stq (by with_reducible rfl) | exact stq (by rfl) | exact stq (by simp (disch := omega) only [go_sem, seval, ↓reduceIte, hU]))))) | (refine hK _ _ ?_; clear hK K) | (apply_assumption (exfalso := false) (symm := false)))
      · exact ale_slm (by rw [ht, hB he]) id
      · exact ale_bl (by rw [he]; rfl)
end Go.Proofs.Ytpkangodlfhjgaa
