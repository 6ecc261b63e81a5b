import Derived.Test.YtideijigonjohaaA16
set_option linter.unusedVariables false
set_option linter.unusedSimpArgs false
namespace Go.Proofs.Ytideijigonjohaa
open Go Go.Lf Go.Proofs
attribute [local irreducible] Lf.rg Lf.ro Lf.PWp Lf.SOp Lf.ACall Lf.Scoped Lf.dg
set_option maxRecDepth 20000
set_option maxHeartbeats 4000000
def curN (b : List UInt8) (a n : Int) : Int := if getE (b.drop a.toNat) n = 0 then a + n else a
def byE (b : List UInt8) (a n : Int) : Int := if n < 0 then 1 else if (b.length : Int) - a < n then 3 else 0
def byL (b : List UInt8) (a n : Int) : List UInt8 := if byE b a n = 0 then (b.drop a.toNat).take n.toNat else []
def curB (b : List UInt8) (a n : Int) : Int := if byE b a n = 0 then a + n else a
theorem getE_zero {b : List UInt8} {n : Int} (h : getE b n = 0) : 1 ≤ n ∧ n ≤ 4 ∧ n ≤ b.length := by
  unfold getE at h
  split at h
  · exact absurd h (by decide)
  · split at h
    · exact absurd h (by decide)
    · rename_i a c
      have e : okS n = true := by simpa using a
      simp [okS] at e
      omega
theorem cur_num0 (n : Int) : AEq Try.prog 109 [.lit (.pointer none), i64 n] [] (.tu [i64 (getN [] n), i64 (getE [] n)]) [] := by
  have hz := @getE_zero [] n
  refine acall_body Try.func109 rfl Try.ntmps109 (by simp) (fun hsc => ?_); simp only [Lf.enter, Nat.reduceAdd]; clear hsc
  have hU := True.intro
  repeat' (first | (guard_target =~ PWp _ _ _ _ _ _ _; first | (refine pwp_seq_k (fun K hK => ?_)) | (refine pwp_rg_then ?_) | (refine pwp_ret ?_) | (refine pwp_skip ?_) | ((refine pwp_cond_d (fun hcd => ?_) (fun hcd => ?_)) <;> (try simp only [hcP] at hcd) <;> (try (exfalso; first | omega | exact absurd hcd (by assumption) | exact absurd (by assumption) hcd)))) | (guard_target =~ rg _ _ _ _ _ _ _; first | (guard_target =~ rg _ _ _ (⟨_, .call ⟨.value (.func 152), _, _⟩, _, _, _, none⟩ :: _) _ _ _; first | (refine rg_s rfl ?_)) | (guard_target =~ rg _ _ _ (⟨_, .call ⟨.value (.func 153), _, _⟩, _, _, _, none⟩ :: _) _ _ _; first | (refine rg_s rfl ?_)) | (guard_target =~ rg _ _ _ (⟨_, .call ⟨.value (.func 151), _, _⟩, _, _, _, none⟩ :: _) _ _ _; first | (refine rg_s rfl ?_)) | (guard_target =~ rg _ _ _ (⟨_, .binOp _ _ _ _ _, _, _, _, none⟩ :: _) _ _ _; first | (refine rg_v rfl (h := ?_)) | (refine rg_s rfl ?_)) | (guard_target =~ rg _ _ _ [] _ _ _; first | (refine rg_end ?_)) | (refine rg_a rfl (h := ?_)) | (refine rg_x rfl (hy := rfl) (h := ?_)) | (refine rg_v rfl (h := ?_))) | (guard_target =~ SOp _ _ _ _ _ _; first | (guard_target =~ SOp _ _ ⟨_, .call ⟨.value (.func 152), _, _⟩, _, _, _, none⟩ _ _ _; first | (refine n_call (f := 152) rfl Try.call152 (h := AEq.pure' (hc := get_is _ _ _ _ (by simp only [List.length_map, List.length_append, List.length_take, List.length_drop, List.length_cons, List.length_nil]; omega)) (hq := ?_)))) | (guard_target =~ SOp _ _ ⟨_, .call ⟨.value (.func 153), _, _⟩, _, _, _, none⟩ _ _ _; first | (refine n_call (f := 153) rfl Try.call153 (h := AEq.pure' (hc := cur_pass0 _) (hq := ?_)))) | (guard_target =~ SOp _ _ ⟨_, .call ⟨.value (.func 151), _, _⟩, _, _, _, none⟩ _ _ _; first | (refine n_call (f := 151) rfl Try.call151 (h := AEq.pure' (hc := cur_rest0) (hq := ?_))))) | (guard_target =~ (_ ∨ _) ∧ _; first | ((refine end_d [] (by rw [Try.results109, Lf.res2]) (ale_2 ?_ ?_) ?_) <;> (try (first | exact ale_eq (by with_reducible rfl) | exact ale_full | exact ale_sl (fun _ => rfl) | exact ale_sl (by simp) | exact ale_junk | exact ale_eq rfl | exact stq (by with_reducible rfl) | exact stq (by rfl) | exact stq (by simp (disch := omega) only [go_sem, seval, ↓reduceIte, hU]))))) | (refine hK _ _ ?_; clear hK K))
theorem cur_num (f : Bool) (b : List UInt8) (a n : Int) (h0 : 0 ≤ a) (h1 : a ≤ b.length) (h2 : b.length ≤ 4000000000000000) : AEq Try.prog 109 [.ptr 0 0, i64 n] [.box [.sl f false (b.map byteA), i64 a]] (.tu [i64 (getN (b.drop a.toNat) n), i64 (getE (b.drop a.toNat) n)]) [.box [.sl f false (b.map byteA), i64 (curN b a n)]] := by
  have hz := @getE_zero (b.drop a.toNat) n
  have hl : (b.drop a.toNat).length ≤ b.length := by simp
  refine acall_body Try.func109 rfl Try.ntmps109 (by simp) (fun hsc => ?_); simp only [Lf.enter, Nat.reduceAdd]; clear hsc
  have hU := True.intro
  repeat' (first | (guard_target =~ PWp _ _ _ _ _ _ _; first | (refine pwp_seq_k (fun K hK => ?_)) | (refine pwp_rg_then ?_) | (refine pwp_ret ?_) | (refine pwp_skip ?_) | ((refine pwp_cond_d (fun hcd => ?_) (fun hcd => ?_)) <;> (try simp only [hcP] at hcd) <;> (try (exfalso; first | omega | exact absurd hcd (by assumption) | exact absurd (by assumption) hcd)))) | (guard_target =~ rg _ _ _ _ _ _ _; first | (guard_target =~ rg _ _ _ (⟨_, .call ⟨.value (.func 152), _, _⟩, _, _, _, none⟩ :: _) _ _ _; first | (refine rg_s rfl ?_)) | (guard_target =~ rg _ _ _ (⟨_, .call ⟨.value (.func 153), _, _⟩, _, _, _, none⟩ :: _) _ _ _; first | (refine rg_s rfl ?_)) | (guard_target =~ rg _ _ _ (⟨_, .call ⟨.value (.func 151), _, _⟩, _, _, _, none⟩ :: _) _ _ _; first | (refine rg_s rfl ?_)) | (guard_target =~ rg _ _ _ (⟨_, .binOp _ _ _ _ _, _, _, _, none⟩ :: _) _ _ _; first | (refine rg_v rfl (h := ?_)) | (refine rg_s rfl ?_)) | (guard_target =~ rg _ _ _ [] _ _ _; first | (refine rg_end ?_)) | (refine rg_a rfl (h := ?_)) | (refine rg_x rfl (hy := rfl) (h := ?_)) | (refine rg_v rfl (h := ?_))) | (guard_target =~ SOp _ _ _ _ _ _; first | (guard_target =~ SOp _ _ ⟨_, .call ⟨.value (.func 152), _, _⟩, _, _, _, none⟩ _ _ _; first | (refine n_call (f := 152) rfl Try.call152 (h := AEq.pure' (hc := get_is _ _ _ _ (by first | assumption | omega)) (hq := ?_)))) | (guard_target =~ SOp _ _ ⟨_, .call ⟨.value (.func 153), _, _⟩, _, _, _, none⟩ _ _ _; first | (refine n_call (f := 153) rfl Try.call153 (h := AEq.sub' [_] (by first | ((repeat' (first | exact trivial | (first | exact arg_lit | exact arg_sl id id | exact arg_nil | exact arg_sl (by simp) id | exact arg_sl (by simp) (fun _ => rfl) | exact arg_row_m (by rfl) (by rfl) (fun _ => rfl) | exact arg_vw_m (by rfl) (by rfl) (fun _ => rfl) | exact arg_rn (by rfl) (by rfl) | exact arg_junk) | refine ⟨?_, ?_⟩)); done) | fail) (hc := cur_pass _ _ _ _ (by first | assumption | omega) (by first | assumption | omega) (by first | assumption | omega) (by first | assumption | omega)) (hq := ?_)))) | (guard_target =~ SOp _ _ ⟨_, .call ⟨.value (.func 151), _, _⟩, _, _, _, none⟩ _ _ _; first | (refine n_call (f := 151) rfl Try.call151 (h := AEq.sub' [_] (by first | ((repeat' (first | exact trivial | (first | exact arg_lit | exact arg_sl id id | exact arg_nil | exact arg_sl (by simp) id | exact arg_sl (by simp) (fun _ => rfl) | exact arg_row_m (by rfl) (by rfl) (fun _ => rfl) | exact arg_vw_m (by rfl) (by rfl) (fun _ => rfl) | exact arg_rn (by rfl) (by rfl) | exact arg_junk) | refine ⟨?_, ?_⟩)); done) | fail) (hc := cur_rest _ _ _ (by first | assumption | omega) (by first | assumption | omega)) (hq := ?_))))) | (guard_target =~ (_ ∨ _) ∧ _; first | ((refine end_d [0] (by rw [Try.results109, Lf.res2]) (ale_2 ?_ ?_) ?_) <;> (try (first | exact ale_eq (by with_reducible rfl) | exact ale_full | exact ale_sl (fun _ => rfl) | exact ale_sl (by simp) | exact ale_junk | exact ale_eq rfl | exact stq (by with_reducible rfl) | exact stq (by rfl) | exact stq (by simp (disch := omega) only [go_sem, seval, ↓reduceIte, hU]))))) | (refine hK _ _ ?_; clear hK K))
  · exact stq (by simp [curN, hcd])
  · exact stq (by simp [curN, hcd])
theorem n_slice0 {P : Program} {N : Nat} {o : Oper} {Γ : Env} {σ : Sto} {K : AV → Sto → Prop} {t e : TypeId} {x hi : Operand} {f q : Bool} {k : IntKind} {H : Int} (ho : o.op = .slice t x none (some hi) none) (ht : P.underlying t = some (.slice e)) (he : (P.underlying e).isSome = true)
    (hx : ev Γ x = .sl f q []) (hh : ev Γ hi = .lit (.int k H)) (hz : H = 0) (hK : K (.sl f q []) σ) : SOp P N o Γ σ K := by
  subst hz
  exact sop_slice (l := 0) (h := 0) ho ht he hx (.inl rfl) (.inl ⟨rfl, rfl⟩) (.inr ⟨_, _, rfl, hh⟩) (by decide) (by decide) (by simp) (by simpa using hK)
end Go.Proofs.Ytideijigonjohaa
