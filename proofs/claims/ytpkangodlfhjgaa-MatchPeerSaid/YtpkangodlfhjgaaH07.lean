import Derived.Test.YtpkangodlfhjgaaH06
set_option linter.unusedVariables false
set_option linter.unusedSimpArgs false
namespace Go.Proofs.Ytpkangodlfhjgaa
open Go Go.Lf Go.Proofs
attribute [local irreducible] Lf.rg Lf.ro Lf.PWp Lf.SOp Lf.ACall Lf.Scoped Lf.dg
set_option maxRecDepth 20000
set_option maxHeartbeats 4000000
theorem getN_bd (b : List UInt8) (n : Int) : 0 ≤ getN b n ∧ getN b n < 4294967296 := by
  unfold getN
  split
  · rename_i h
    obtain ⟨h1, h2⟩ := h
    have h4 : n ≤ 4 := by simp [okS] at h1; omega
    have := numB_bd' (b.take n.toNat)
    have hp : (powB (b.take n.toNat).length : Int) ≤ 4294967296 := (powB_bd _ (by rw [List.length_take]; omega)).2
    omega
  · omega
def lowN (m : Int) : Int := if m < 2147483648 then m else m - 2147483648
theorem getN_one (b : List UInt8) (a : Nat) (x : UInt8) (h : b[a]? = some x) : getN (b.drop a) 1 = x.toNat := by
  have hl : a < b.length := (List.getElem?_eq_some_iff.1 h).1
  have e : (b.drop a).take 1 = [x] := by
    have h2 : (b.drop a)[0]? = some x := by rw [List.getElem?_drop, Nat.add_zero]; exact h
    have := take_snoc h2
    simpa using this
  unfold getN
  rw [if_pos ⟨rfl, by rw [List.length_drop]; omega⟩, show (1 : Int).toNat = 1 from rfl, e]
  simp [numB]
theorem hof (w t g s : Int) (r f : Bool) (b : List UInt8) (hl : b.length ≤ 100000000000) : AEq Try.prog 40 [.ag [i64 w, i64 t, i64 g, i64 s, bl r, .sl f false (b.map byteA)]] [] (.ag [i64 b.length, i64 t, i64 g, i64 s, bl r]) [] := by
  refine acall_body Try.func40 rfl Try.ntmps40 (by simp) (fun hsc => ?_); simp only [Lf.enter, Nat.reduceAdd]; clear hsc
  have hU := True.intro
  repeat' (first | (guard_target =~ PWp _ _ _ _ _ _ _; first | (refine pwp_seq_k (fun K hK => ?_)) | (refine pwp_rg_then ?_) | (refine pwp_ret ?_)) | (guard_target =~ rg _ _ _ _ _ _ _; first | (guard_target =~ rg _ _ _ [] _ _ _; first | (refine rg_end ?_)) | (refine rg_v rfl (h := ?_)) | (refine rg_s rfl ?_) | (refine rg_n rfl ?_)) | (guard_target =~ SOp _ _ _ _ _ _; first | (guard_target =~ SOp _ _ ⟨_, .build _ _, _, _, _, none⟩ _ _ _; first | (refine n_build rfl (by first | exact bd24 | exact bd74 | fail) (hK := ?_))) | (guard_target =~ SOp _ _ ⟨_, .box _ _, _, _, _, none⟩ _ _ _; first | (refine n_box rfl (hK := ?_))) | (guard_target =~ SOp _ _ ⟨_, .alloc _, _, _, _, none⟩ _ _ _; first | (refine n_alloc rfl (by first | exact zv3 | exact zv4 | exact zv5 | exact zv22 | exact zv24 | exact zv74 | fail) (hK := ?_))) | (guard_target =~ SOp _ _ ⟨_, .store _ _ _, _, _, _, none⟩ _ _ _; first | (refine n_store rfl (hK := ?_)))) | (guard_target =~ (_ ∨ _) ∧ _; first | ((refine end_q [] (by first | exact .inr rfl | exact .inl rfl | fail) (by rfl) (by rw [Try.results40, Lf.resM1]; (try simp (disch := omega) only [Lf.resOne, go_sem, seval, ↓reduceIte, hU]); rfl) (by (try simp (disch := omega) only [go_sem, seval, ↓reduceIte, hU]) <;> rfl) (by (try simp (disch := omega) only [go_sem, seval, ↓reduceIte, hU]) <;> rfl) (ale_1 ?_) ?_) <;> (try (first | exact ale_eq (by with_reducible rfl) | exact ale_full | exact ale_sl (fun _ => rfl) | exact ale_sl (by simp) | exact ale_junk | exact ale_eq rfl | exact stq (by with_reducible rfl) | exact stq (by rfl) | exact stq (by simp (disch := omega) only [go_sem, seval, ↓reduceIte, hU]))))) | (refine hK _ _ ?_; clear hK K))
theorem hdB_len (h : Hd) : (hdB h).length = 9 := by
  unfold hdB
  rw [List.length_append, List.length_append, List.length_append, beB_len, beB_len, beB_len, beB_len]
theorem hbytes_ok (w t g s : Int) (r f : Bool) (b : List UInt8) (ht : ¬ t = -1) (ho : hdOk ⟨b.length, t, g, s, r⟩) (hl : b.length ≤ 1000000000) : AEq Try.prog 62 [.ag [i64 w, i64 t, i64 g, i64 s, bl r, .sl f false (b.map byteA)]] [] (.tu [.sl false false ((hdB ⟨b.length, t, g, s, r⟩ ++ b).map byteA), i64 0]) [] := by
  have h9 := hdB_len ⟨b.length, t, g, s, r⟩
  refine acall_body Try.func62 rfl Try.ntmps62 (by simp) (fun hsc => ?_); simp only [Lf.enter, Nat.reduceAdd]; clear hsc
  have hU := True.intro
  repeat' (first | (guard_target =~ PWp _ _ _ _ _ _ _; first | (refine pwp_seq_k (fun K hK => ?_)) | (refine pwp_rg_then ?_) | (refine pwp_ret ?_) | (refine pwp_skip ?_) | ((refine pwp_cond_d (fun hcd => ?_) (fun hcd => ?_)) <;> (try simp only [hcP] at hcd) <;> (try (exfalso; first | omega | exact absurd hcd (by assumption) | exact absurd (by assumption) hcd)))) | (guard_target =~ rg _ _ _ _ _ _ _; first | (guard_target =~ rg _ _ _ [] _ _ _; first | (refine rg_end ?_)) | (refine rg_a rfl (h := ?_)) | (refine rg_x rfl (hy := rfl) (h := ?_)) | (refine rg_v rfl (h := ?_)) | (refine rg_s rfl ?_)) | (guard_target =~ SOp _ _ _ _ _ _; first | (guard_target =~ SOp _ _ ⟨_, .call ⟨.value (.func 40), _, _⟩, _, _, _, none⟩ _ _ _; first | (refine n_call (f := 40) rfl Try.call40 (h := AEq.pure' (hc := hof _ _ _ _ _ _ _ (by first | assumption | omega)) (hq := ?_)))) | (guard_target =~ SOp _ _ ⟨_, .box _ _, _, _, _, none⟩ _ _ _; first | (refine n_box rfl (hK := ?_))) | (guard_target =~ SOp _ _ ⟨_, .call ⟨.value (.func 87), _, _⟩, _, _, _, none⟩ _ _ _; first | (refine n_call (f := 87) rfl Try.call87 (h := AEq.sub' [] (by first | ((repeat' (first | exact trivial | (first | exact arg_lit | exact arg_sl id id | exact arg_nil | exact arg_sl (by simp) id | exact arg_sl (by simp) (fun _ => rfl) | exact arg_row_m (by rfl) (by rfl) (fun _ => rfl) | exact arg_vw_m (by rfl) (by rfl) (fun _ => rfl) | exact arg_rn (by rfl) (by rfl) | exact arg_junk) | refine ⟨?_, ?_⟩)); done) | fail) (hc := hput_ok_r _ _ _ _ _ (by first | assumption | omega)) (hq := ?_)))) | (guard_target =~ SOp _ _ ⟨_, .call ⟨.builtin .append, _, _⟩, _, _, _, none⟩ _ _ _; first | (refine n_append_row rfl (he := by first | exact eo3 | exact eo4 | exact eo5 | exact eo22 | exact eo24 | exact eo31 | exact eo74 | fail) (hK := ?_)))) | (guard_target =~ (_ ∨ _) ∧ _; first | ((refine end_d [] (by rw [Try.results62, Lf.res2]) (ale_2 ?_ ?_) ?_) <;> (try (first | exact ale_eq (by with_reducible rfl) | exact ale_full | exact ale_sl (fun _ => rfl) | exact ale_sl (by simp) | exact ale_junk | exact ale_eq rfl | exact stq (by with_reducible rfl) | exact stq (by rfl) | exact stq (by simp (disch := omega) only [go_sem, seval, ↓reduceIte, hU]))))) | (refine hK _ _ ?_; clear hK K))
end Go.Proofs.Ytpkangodlfhjgaa
