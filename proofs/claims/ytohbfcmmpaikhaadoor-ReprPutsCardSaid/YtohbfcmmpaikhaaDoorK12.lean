import Derived.Test.YtohbfcmmpaikhaaDoorK11
import Derived.Test.YtohbfcmmpaikhaaDoorLc
set_option linter.unusedVariables false
set_option linter.unusedSimpArgs false
namespace Go.Proofs.YtohbfcmmpaikhaaDoor
open Go Go.Lf Go.Proofs
attribute [local irreducible] Lf.rg Lf.ro Lf.PWp Lf.SOp Lf.ACall Lf.Scoped Lf.dg Lf.dw
set_option maxRecDepth 20000
set_option maxHeartbeats 4000000
attribute [go_sem] nbl_bkB
@[go_sem] theorem rnl_bk0 : rnl (ix [] 0) bkB = bkB := by
  rw [rnl_all]
  unfold bkB bkA b2
  have h : ∀ l : List Int, (l.map nA).map (rn (ix [] 0)) = l.map nA := by
    intro l; rw [List.map_map]; exact List.map_congr_left (fun _ _ => rfl)
  simp only [List.map_cons, List.map_append, h]
  rfl
def encS (L : List Int) (x : UInt8) : List Int := rpL L (csI x.toNat) (szI (x.toNat : Int))
def encL (b : List UInt8) : List Int := b.foldl encS []
theorem encL_snoc (b : List UInt8) (x : UInt8) : encL (b ++ [x]) = encS (encL b) x := by unfold encL; rw [List.foldl_append]; rfl
theorem rpL_len (L : List Int) (v n : Int) : L.length ≤ (rpL L v n).length ∧ (rpL L v n).length ≤ L.length + 32 := by
  unfold rpL
  split
  · rename_i h
    rw [List.length_append, msb_len]
    unfold rpE at h
    split at h
    · cases h
    · omega
  · omega
theorem encL_len (b : List UInt8) : (encL b).length ≤ 32 * b.length := by
  have key : ∀ (b : List UInt8) (L : List Int), (b.foldl encS L).length ≤ L.length + 32 * b.length := by
    intro b
    induction b with
    | nil => intro L; simp
    | cons x b ih =>
      intro L
      have h1 := ih (encS L x)
      have h2 := (rpL_len L (csI x.toNat) (szI (x.toNat : Int))).2
      rw [List.foldl_cons, List.length_cons]
      unfold encS at h1 ⊢
      omega
  have := key b []
  unfold encL
  simpa using this
theorem ksnoc {b : List UInt8} {i : Nat} {x : UInt8} (h : b[i]? = some x) : encL (b.take (i + 1)) = encS (encL (b.take i)) x := by
  rw [take_snoc h]; exact encL_snoc _ _
def bitK (b : List UInt8) : Int := b.foldl (fun n x => n + szI (x.toNat : Int)) 0
theorem szI_b (x : UInt8) : 0 ≤ szI (x.toNat : Int) ∧ szI (x.toNat : Int) ≤ 30 := by
  have := x.toNat_lt
  have hb := szI_bd (s := (x.toNat : Int)) (by omega) (by omega)
  omega
theorem encL_0 : encL [] = [] := rfl
theorem rowB_0 : rowB [] = [] := rfl
attribute [local irreducible] bkB cntN ordB fstI bseI csI szI rpL rowB encL bitK
theorem hencode (f q : Bool) (b : List UInt8) (hb : b.length ≤ 100000) : AEq Tryd.prog 77 [.sl f q (b.map byteA)] [] (.sl false false ((rowB (encL b)).map byteA)) [] := by
  have hr0 := rnl_bk0
  refine acall_body Tryd.func77 rfl Tryd.ntmps77 (by simp) (fun hsc => ?_); simp only [Lf.enter, Nat.reduceAdd]; clear hsc
  have hU := @hr0
  repeat' (first | (guard_target =~ PWp _ _ _ _ _ _ _; first | (refine pwp_seq_k (fun K hK => ?_)) | (refine pwp_block ?_) | (refine pwp_rg_then ?_)) | (guard_target =~ rg _ _ _ _ _ _ _; first | (guard_target =~ rg _ _ _ [] _ _ _; first | (refine rg_end ?_)) | (refine rg_a rfl (h := ?_)) | (refine rg_v rfl (h := ?_)) | (refine rg_s rfl ?_)) | (guard_target =~ SOp _ _ _ _ _ _; first | (guard_target =~ SOp _ _ ⟨_, .alloc _, _, _, _, none⟩ _ _ _; first | (refine n_alloc rfl (by first | exact zv3 | exact zv4 | exact zv5 | exact zv22 | exact zv28 | exact zv53 | exact zv148 | exact zv158 | exact zv168 | exact zv169 | exact zv171 | fail) (hK := ?_))) | (guard_target =~ SOp _ _ ⟨_, .call ⟨.value (.func 95), _, _⟩, _, _, _, none⟩ _ _ _; first | (refine n_call (f := 95) rfl Tryd.call95 (h := AEq.sub' [] (hc := cbook) (hq := ?_))))) | (refine hK _ _ ?_; clear hK K))
  refine pwp_rowc (σ2 := [.box bkB, .row 257 3 1 (ordB.map natA), .box [.row 3 0, i64 0], .row 0 5 1 []]) 2 0 5 1 (by decide) rfl rfl rfl ?_
  refine pwp_loop_e [6, 10, 11, 12, 13, 14, 15, 16, 17, 18, 19, 20, 21] (fun i : Nat => [(10, i64 i)]) (fun i => [.box bkB, .row 257 3 1 (ordB.map natA), .box [.row 3 (rowB (encL (b.take i))).length, i64 (encL (b.take i)).length], .row (rowB (encL (b.take i))).length 5 1 ((rowB (encL (b.take i))).map byteA)]) (fun i => i ≤ b.length) (fun i => b.length - i) 0 (Nat.zero_le _) ?_ (by rw [List.take_zero, encL_0, rowB_0]; rfl) ?_
  · have hU := True.intro
    (refine ⟨⟨_, (by (try simp (disch := omega) only [go_sem, seval, ↓reduceIte, hU]) <;> rfl), ?_⟩, trivial⟩ <;> (try (first | exact ale_eq (by with_reducible rfl) | exact ale_full | exact ale_sl (fun _ => rfl) | exact ale_sl (by simp) | exact ale_junk | exact ale_eq rfl)))
  · rintro i hi
    simp only [mask, List.map_cons, List.map_nil, List.cons_append, List.nil_append]
    by_cases hlt : i < b.length
    · obtain ⟨x, hx⟩ := ex_at hlt
      have hbs : rpL (encL (b.take i)) (csI x.toNat) (szI (x.toNat : Int)) = encL (b.take (i + 1)) := (ksnoc hx).symm
      have hel := encL_len (b.take i)
      have htl : (b.take i).length = i := by rw [List.length_take]; omega
      have hxl := x.toNat_lt
      have hU := @hbs
      repeat' (first | (guard_target =~ PWp _ _ _ _ _ _ _; first | (refine pwp_seq_k (fun K hK => ?_)) | (refine pwp_block ?_) | (refine pwp_rg_then ?_) | (refine pwp_rg ?_) | (refine pwp_skip ?_) | ((refine pwp_cond_d (fun hcd => ?_) (fun hcd => ?_)) <;> (try simp only [hcP] at hcd) <;> (try (exfalso; first | omega | exact absurd hcd (by assumption) | exact absurd (by assumption) hcd)))) | (guard_target =~ rg _ _ _ _ _ _ _; first | (guard_target =~ rg _ _ _ [] _ _ _; first | (refine rg_end ?_)) | (refine rg_a rfl (h := ?_)) | (refine rg_x rfl (hy := rfl) (h := ?_)) | (refine rg_v rfl (h := ?_)) | (refine rg_s rfl ?_)) | (guard_target =~ SOp _ _ _ _ _ _; first | (guard_target =~ SOp _ _ ⟨_, .call ⟨.value (.func 104), _, _⟩, _, _, _, none⟩ _ _ _; first | (refine n_call (f := 104) rfl Tryd.call104 (h := AEq.sub' [0, 1] (by refine ⟨?_, ?_, trivial⟩ <;> (first | exact arg_lit | exact arg_rn (by rfl) (by rfl))) (by exact sub_bk _) (bcode _ (by omega)) (ho := by exact okP_bk) (hq := ?_)))) | (guard_target =~ SOp _ _ ⟨_, .call ⟨.value (.func 103), _, _⟩, _, _, _, none⟩ _ _ _; first | (refine n_call (f := 103) rfl Tryd.call103 (h := AEq.sub' [_, _] (hc := rw_put _ _ _ (by omega)) (hq := ?_)))) | (guard_target =~ SOp _ _ ⟨_, .indexAddr _ _ _, _, _, _, none⟩ _ _ _; first | (refine n_index rfl (hK := ?_)))) | (refine hK _ _ ?_; clear hK K))
      refine ⟨i + 1, by omega, by omega, ?_, (by repeat' (first | exact agr_refl | refine agr_cons (by rfl) ?_)), (by first | rfl | (simp (disch := omega) only [go_sem, seval, ↓reduceIte, hU]; done) | (simp (disch := omega) only [go_sem, seval, ↓reduceIte, hU]; rfl))⟩
      (refine ⟨⟨_, (by (try simp (disch := omega) only [go_sem, seval, ↓reduceIte, hU]) <;> rfl), ?_⟩, trivial⟩ <;> (try (first | exact ale_eq (by with_reducible rfl) | exact ale_full | exact ale_sl (fun _ => rfl) | exact ale_sl (by simp) | exact ale_junk | exact ale_eq rfl)))
    · have hib : i = b.length := by omega
      subst hib
      have hel := encL_len b
      have hrl := rowB_len (encL b)
      have htk : b.take b.length = b := List.take_length
      rw [htk]
      have hU := True.intro
      repeat' (first | (guard_target =~ PWp _ _ _ _ _ _ _; first | (refine pwp_seq_k (fun K hK => ?_)) | (refine pwp_rg_then ?_) | (refine pwp_ret ?_) | (refine pwp_exit ?_) | ((refine pwp_cond_d (fun hcd => ?_) (fun hcd => ?_)) <;> (try simp only [hcP] at hcd) <;> (try (exfalso; first | omega | exact absurd hcd (by assumption) | exact absurd (by assumption) hcd)))) | (guard_target =~ rg _ _ _ _ _ _ _; first | (guard_target =~ rg _ _ _ [] _ _ _; first | (refine rg_end ?_)) | (refine rg_a rfl (h := ?_)) | (refine rg_v rfl (h := ?_)) | (refine rg_s rfl ?_)) | (guard_target =~ SOp _ _ _ _ _ _; first | (guard_target =~ SOp _ _ ⟨_, .call ⟨.value (.func 105), _, _⟩, _, _, _, none⟩ _ _ _; first | (refine n_call (f := 105) rfl Tryd.call105 (h := AEq.sub' [_, _] (hc := rw_bytes _ _ (by omega)) (hq := ?_))))) | (guard_target =~ (_ ∨ _) ∧ _; first | ((refine end_d [] (by rw [Tryd.results77, Lf.res1]) (ale_1 ?_) ?_) <;> (try (first | exact ale_eq (by with_reducible rfl) | exact ale_full | exact ale_sl (fun _ => rfl) | exact ale_sl (by simp) | exact ale_junk | exact ale_eq rfl | exact stq (by with_reducible rfl) | exact stq (by rfl) | exact stq (by simp (disch := omega) only [go_sem, seval, ↓reduceIte, hU]))))) | (refine hK _ _ ?_; clear hK K) | (apply_assumption (exfalso := false) (symm := false)))
end Go.Proofs.YtohbfcmmpaikhaaDoor
