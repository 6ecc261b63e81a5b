import Derived.Test.YtohbfcmmpaikhaaDoorZ20
import Derived.Test.YtohbfcmmpaikhaaDoorZ17
import Derived.Test.YtohbfcmmpaikhaaDoorLc
import Derived.KernelRfl
import Derived.Test.YtohbfcmmpaikhaaDoorTy
set_option linter.unusedVariables false
set_option linter.unusedSimpArgs false
namespace Go.Proofs.YtohbfcmmpaikhaaDoor
open Go Go.Lf Go.Proofs
attribute [local irreducible] Lf.rg Lf.ro Lf.PWp Lf.SOp Lf.ACall Lf.Scoped Lf.dg Lf.dw
set_option maxRecDepth 20000
set_option maxHeartbeats 4000000
@[go_sem] def blA (b : List UInt8) : List AV := [.sl false false (b.map byteA)]
attribute [local irreducible] wt sumW xsE
theorem isame (f g q r : Bool) (l : List Int) (h : l.length ≤ 100000) : AEq Tryd.prog 28 [.sl f q (l.map intA), .sl g r (l.map intA)] [] (bl true) [] := by
 refine acall_body Tryd.func28 rfl Tryd.ntmps28 (by simp) (fun hsc => ?_); simp only [Lf.enter, Nat.reduceAdd]; clear hsc
 have hU := True.intro
 repeat' (first | (guard_target =~ PWp _ _ _ _ _ _ _; first | (refine pwp_seq_k (fun K hK => ?_)) | (refine pwp_block ?_) | (refine pwp_rg_then ?_) | (refine pwp_skip ?_) | ((refine pwp_cond_d (fun hcd => ?_) (fun hcd => ?_)) <;> (try simp only [hcP] at hcd) <;> (try (exfalso; first | omega | exact absurd hcd (by assumption) | exact absurd (by assumption) hcd)))) | (guard_target =~ rg _ _ _ _ _ _ _; first | (guard_target =~ rg _ _ _ [] _ _ _; first | (refine rg_end ?_)) | (refine rg_a rfl (h := ?_)) | (refine rg_v rfl (h := ?_))) | (refine hK _ _ ?_; clear hK K))
 refine pwp_loop_e [4, 5, 11, 12, 13, 14, 15, 16, 17, 18, 19, 20, 21, 22, 23, 24, 25] (fun i : Nat => [(5, i64 i)]) (fun _ => []) (fun i => i ≤ l.length) (fun i => l.length - i) 0 (Nat.zero_le _) ?_ rfl ?_
 ·(refine ⟨⟨_, (by (try simp (disch := omega) only [go_sem, seval, ↓reduceIte, hU]) <;> rfl), ?_⟩, trivial⟩ <;> (try (first | exact ale_eq (by with_reducible rfl) | exact ale_full | exact ale_sl (fun _ => rfl) | exact ale_sl (by simp) | exact ale_junk | exact ale_eq rfl)))
 ·rintro i hi
  simp only [mask, List.map_cons, List.map_nil, List.cons_append, List.nil_append]
  by_cases hlt : i < l.length
  ·obtain ⟨x, hx⟩ := ex_at hlt
   repeat' (first | (guard_target =~ PWp _ _ _ _ _ _ _; first | (refine pwp_seq_k (fun K hK => ?_)) | (refine pwp_block ?_) | (refine pwp_rg_then ?_) | (refine pwp_draw mixed (by kernel_rfl) ?_) | (refine pwp_skip ?_) | ((refine pwp_cond_d (fun hcd => ?_) (fun hcd => ?_)) <;> (try simp only [hcP] at hcd) <;> (try (exfalso; first | omega | exact absurd hcd (by assumption) | exact absurd (by assumption) hcd)))) | (guard_target =~ rg _ _ _ _ _ _ _; first | (guard_target =~ rg _ _ _ [] _ _ _; first | (refine rg_end ?_)) | (refine rg_a rfl (h := ?_)) | (refine rg_v rfl (h := ?_))) | (guard_target =~ dg _ _ _ _ _ _ _; first | (guard_target =~ dg _ _ _ (⟨_, .move _, _, _, _, none⟩ :: _) _ _ _; first | (refine dg_v rfl (hk := ?_))) | (guard_target =~ dg _ _ _ (⟨_, .binOp _ _ _ _ _, _, _, _, none⟩ :: _) _ _ _; first | (refine dg_v rfl (hk := ?_))) | (guard_target =~ dg _ _ _ (⟨_, .call ⟨.builtin .len, _, _⟩, _, _, _, none⟩ :: _) _ _ _; first | (refine dg_v rfl (hk := ?_))) | (guard_target =~ dg _ _ _ (⟨_, .load _ _, _, _, _, none⟩ :: _) _ _ _; first | (refine dg_v rfl (hk := ?_))) | (guard_target =~ dg _ _ _ (⟨_, .indexAddr _ _ _, _, _, _, none⟩ :: _) _ _ _; first | (refine dg_c (x := _) (h := ro_s (h := n_index rfl (hK := ro_end ⟨rfl, rfl⟩))) (hk := ?_))) | (guard_target =~ dg _ _ _ [] _ _ _; first | (refine dg_nil ?_))) | (refine hK _ _ ?_; clear hK K))
   refine ⟨i + 1, by omega, by omega, ?_, (by repeat' (first | exact agr_refl | refine agr_cons (by rfl) ?_)), (by first | rfl | (simp (disch := omega) only [go_sem, seval, ↓reduceIte, hU]; done) | (simp (disch := omega) only [go_sem, seval, ↓reduceIte, hU]; rfl))⟩
   (refine ⟨⟨_, (by (try simp (disch := omega) only [go_sem, seval, ↓reduceIte, hU]) <;> rfl), ?_⟩, trivial⟩ <;> (try (first | exact ale_eq (by with_reducible rfl) | exact ale_full | exact ale_sl (fun _ => rfl) | exact ale_sl (by simp) | exact ale_junk | exact ale_eq rfl)))
  ·repeat' (first | (guard_target =~ PWp _ _ _ _ _ _ _; first | (refine pwp_seq_k (fun K hK => ?_)) | (refine pwp_rg_then ?_) | (refine pwp_ret ?_) | (refine pwp_exit ?_) | ((refine pwp_cond_d (fun hcd => ?_) (fun hcd => ?_)) <;> (try simp only [hcP] at hcd) <;> (try (exfalso; first | omega | exact absurd hcd (by assumption) | exact absurd (by assumption) hcd)))) | (guard_target =~ rg _ _ _ _ _ _ _; first | (guard_target =~ rg _ _ _ [] _ _ _; first | (refine rg_end ?_)) | (refine rg_a rfl (h := ?_)) | (refine rg_v rfl (h := ?_))) | (guard_target =~ (_ ∨ _) ∧ _; first | ((refine end_d [] (by rw [Tryd.results28, Lf.res1]) (ale_1 ?_) ?_) <;> (try (first | exact ale_eq (by with_reducible rfl) | exact ale_full | exact ale_sl (fun _ => rfl) | exact ale_sl (by simp) | exact ale_junk | exact ale_eq rfl | exact stq (by with_reducible rfl) | exact stq (by rfl) | exact stq (by simp (disch := omega) only [go_sem, seval, ↓reduceIte, hU]))))) | (refine hK _ _ ?_; clear hK K) | (apply_assumption (exfalso := false) (symm := false)))
theorem dnew_no (m : Int) (h : m < 0 ∨ 2147483647 < m) : AEq Tryd.prog 23 [i64 m] [] (.tu [.lit (.pointer none), i64 1]) [] := by
 refine acall_body Tryd.func23 rfl Tryd.ntmps23 (by simp) (fun hsc => ?_); simp only [Lf.enter, Nat.reduceAdd]; clear hsc
 have hU := True.intro
 repeat' (first | (guard_target =~ PWp _ _ _ _ _ _ _; first | (refine pwp_seq_k (fun K hK => ?_)) | (refine pwp_rg_then ?_) | (refine pwp_ret ?_) | ((refine pwp_cond_d (fun hcd => ?_) (fun hcd => ?_)) <;> (try simp only [hcP] at hcd) <;> (try (exfalso; first | omega | exact absurd hcd (by assumption) | exact absurd (by assumption) hcd)))) | (guard_target =~ rg _ _ _ _ _ _ _; first | (guard_target =~ rg _ _ _ [] _ _ _; first | (refine rg_end ?_)) | (refine rg_a rfl (h := ?_)) | (refine rg_x rfl (hy := rfl) (h := ?_)) | (refine rg_v rfl (h := ?_)) | (refine rg_s rfl ?_)) | (guard_target =~ SOp _ _ _ _ _ _; first | (guard_target =~ SOp _ _ ⟨_, .call ⟨.value (.func 55), _, _⟩, _, _, _, none⟩ _ _ _; first | (refine n_call (f := 55) rfl Tryd.call55 (h := AEq.pure' (by first | ((repeat' (first | exact trivial | (first | exact arg_lit | exact arg_sl id id | exact arg_nil | exact arg_sl (by simp) id | exact arg_sl (by simp) (fun _ => rfl) | exact arg_row_m (by rfl) (by rfl) (fun _ => rfl) | exact arg_vw_m (by rfl) (by rfl) (fun _ => rfl) | exact arg_rn (by rfl) (by rfl) | exact arg_junk | exact arg_row_mm (by rfl) (by rfl) (fun _ => rfl)) | refine ⟨?_, ?_⟩)); done) | fail) (t_new_no _ (by assumption)) (hq := ?_))))) | (guard_target =~ (_ ∨ _) ∧ _; first | ((refine end_d [] (by rw [Tryd.results23, Lf.res2]) (ale_2 ?_ ?_) ?_) <;> (try (first | exact ale_eq (by with_reducible rfl) | exact ale_full | exact ale_sl (fun _ => rfl) | exact ale_sl (by simp) | exact ale_junk | exact ale_eq rfl | exact stq (by with_reducible rfl) | exact stq (by rfl) | exact stq (by simp (disch := omega) only [go_sem, seval, ↓reduceIte, hU]))))) | (refine hK _ _ ?_; clear hK K))
 all_goals trace_state
theorem dnew_ok (m : Int) (h : 0 ≤ m) (h2 : m ≤ 2147483647) : AEq Tryd.prog 23 [i64 m] [] (.tu [.ptr 2 0, i64 0]) [.box [.row 1 0, i64 (sumW xsE), i64 m], .row 0 67 3 (xsE.map flA), .box [.ptr 0 0]] := by
 refine acall_body Tryd.func23 rfl Tryd.ntmps23 (by simp) (fun hsc => ?_); simp only [Lf.enter, Nat.reduceAdd]; clear hsc
 have hU := True.intro
 repeat' (first | (guard_target =~ PWp _ _ _ _ _ _ _; first | (refine pwp_seq_k (fun K hK => ?_)) | (refine pwp_rg_then ?_) | (refine pwp_ret ?_) | (refine pwp_skip ?_) | ((refine pwp_cond_d (fun hcd => ?_) (fun hcd => ?_)) <;> (try simp only [hcP] at hcd) <;> (try (exfalso; first | omega | exact absurd hcd (by assumption) | exact absurd (by assumption) hcd)))) | (guard_target =~ rg _ _ _ _ _ _ _; first | (guard_target =~ rg _ _ _ [] _ _ _; first | (refine rg_end ?_)) | (refine rg_a rfl (h := ?_)) | (refine rg_x rfl (hy := rfl) (h := ?_)) | (refine rg_v rfl (h := ?_)) | (refine rg_s rfl ?_)) | (guard_target =~ SOp _ _ _ _ _ _; first | (guard_target =~ SOp _ _ ⟨_, .box _ _, _, _, _, none⟩ _ _ _; first | (refine n_box rfl (hK := ?_))) | (guard_target =~ SOp _ _ ⟨_, .build _ _, _, _, _, none⟩ _ _ _; first | (refine n_build rfl (by first | exact bd67 | exact bd71 | exact bd112 | fail) (hK := ?_))) | (guard_target =~ SOp _ _ ⟨_, .call ⟨.value (.func 55), _, _⟩, _, _, _, none⟩ _ _ _; first | (refine n_call (f := 55) rfl Tryd.call55 (h := AEq.sub' [] (hc := t_new_r _ (by assumption) (by assumption)) (hq := ?_))))) | (guard_target =~ (_ ∨ _) ∧ _; first | ((refine end_d [0, 1, 2] (by rw [Tryd.results23, Lf.res2]) (ale_2 ?_ ?_) ?_) <;> (try (first | exact ale_eq (by with_reducible rfl) | exact ale_full | exact ale_sl (fun _ => rfl) | exact ale_sl (by simp) | exact ale_junk | exact ale_eq rfl | exact stq (by with_reducible rfl) | exact stq (by rfl) | exact stq (by simp (disch := omega) only [go_sem, seval, ↓reduceIte, hU]))))) | (refine hK _ _ ?_; clear hK K))
 all_goals trace_state
theorem dtab (xs : List Fl) (s : Nat) (z m : Int) : AEq Tryd.prog 62 [.ptr 0 0] [.box [.ptr 1 0], .box [.row 2 s, i64 z, i64 m], .row s 67 3 (xs.map flA)] (.ptr 1 0) [.box [.ptr 1 0], .box [.row 2 s, i64 z, i64 m], .row s 67 3 (xs.map flA)] := by
 refine acall_body Tryd.func62 rfl Tryd.ntmps62 (by simp) (fun hsc => ?_); simp only [Lf.enter, Nat.reduceAdd]; clear hsc
 have hU := True.intro
 repeat' (first | (guard_target =~ PWp _ _ _ _ _ _ _; first | (refine pwp_seq_k (fun K hK => ?_)) | (refine pwp_rg_then ?_) | (refine pwp_ret ?_) | (refine pwp_skip ?_) | ((refine pwp_cond_d (fun hcd => ?_) (fun hcd => ?_)) <;> (try simp only [hcP] at hcd) <;> (try (exfalso; first | omega | exact absurd hcd (by assumption) | exact absurd (by assumption) hcd)))) | (guard_target =~ rg _ _ _ _ _ _ _; first | (guard_target =~ rg _ _ _ [] _ _ _; first | (refine rg_end ?_)) | (refine rg_a rfl (h := ?_)) | (refine rg_v rfl (h := ?_))) | (guard_target =~ (_ ∨ _) ∧ _; first | ((refine end_d [0, 1, 2] (by rw [Tryd.results62, Lf.res1]) (ale_1 ?_) ?_) <;> (try (first | exact ale_eq (by with_reducible rfl) | exact ale_full | exact ale_sl (fun _ => rfl) | exact ale_sl (by simp) | exact ale_junk | exact ale_eq rfl | exact stq (by with_reducible rfl) | exact stq (by rfl) | exact stq (by simp (disch := omega) only [go_sem, seval, ↓reduceIte, hU]))))) | (refine hK _ _ ?_; clear hK K))
 all_goals trace_state
theorem dmax (xs : List Fl) (s : Nat) (z m : Int) : AEq Tryd.prog 29 [.ptr 0 0] [.box [.ptr 1 0], .box [.row 2 s, i64 z, i64 m], .row s 67 3 (xs.map flA)] (i64 m) [.box [.ptr 1 0], .box [.row 2 s, i64 z, i64 m], .row s 67 3 (xs.map flA)] := by
 refine acall_body Tryd.func29 rfl Tryd.ntmps29 (by simp) (fun hsc => ?_); simp only [Lf.enter, Nat.reduceAdd]; clear hsc
 have hU := True.intro
 repeat' (first | (guard_target =~ PWp _ _ _ _ _ _ _; first | (refine pwp_seq_k (fun K hK => ?_)) | (refine pwp_rg_then ?_) | (refine pwp_ret ?_)) | (guard_target =~ rg _ _ _ _ _ _ _; first | (guard_target =~ rg _ _ _ [] _ _ _; first | (refine rg_end ?_)) | (refine rg_a rfl (h := ?_)) | (refine rg_v rfl (h := ?_)) | (refine rg_s rfl ?_)) | (guard_target =~ SOp _ _ _ _ _ _; first | (guard_target =~ SOp _ _ ⟨_, .call ⟨.value (.func 62), _, _⟩, _, _, _, none⟩ _ _ _; first | (refine n_call (f := 62) rfl Tryd.call62 (h := AEq.sub' [_, _, _] (hc := dtab _ _ _ _) (hq := ?_)))) | (guard_target =~ SOp _ _ ⟨_, .call ⟨.value (.func 63), _, _⟩, _, _, _, none⟩ _ _ _; first | (refine n_call (f := 63) rfl Tryd.call63 (h := AEq.sub' [_, _] (hc := t_max _ _ _ _) (hq := ?_))))) | (guard_target =~ (_ ∨ _) ∧ _; first | ((refine end_d [0, 1, 2] (by rw [Tryd.results29, Lf.res1]) (ale_1 ?_) ?_) <;> (try (first | exact ale_eq (by with_reducible rfl) | exact ale_full | exact ale_sl (fun _ => rfl) | exact ale_sl (by simp) | exact ale_junk | exact ale_eq rfl | exact stq (by with_reducible rfl) | exact stq (by rfl) | exact stq (by simp (disch := omega) only [go_sem, seval, ↓reduceIte, hU]))))) | (refine hK _ _ ?_; clear hK K))
 all_goals trace_state
theorem dall (xs : List Fl) (s : Nat) (z m : Int) (h : xs.length ≤ 100000) : AEq Tryd.prog 32 [.ptr 0 0] [.box [.ptr 1 0], .box [.row 2 s, i64 z, i64 m], .row s 67 3 (xs.map flA)] (.sl false false (xs.reverse.map flA)) [.box [.ptr 1 0], .box [.row 2 s, i64 z, i64 m], .row s 67 3 (xs.map flA)] := by
 refine acall_body Tryd.func32 rfl Tryd.ntmps32 (by simp) (fun hsc => ?_); simp only [Lf.enter, Nat.reduceAdd]; clear hsc
 have hU := True.intro
 repeat' (first | (guard_target =~ PWp _ _ _ _ _ _ _; first | (refine pwp_seq_k (fun K hK => ?_)) | (refine pwp_rg_then ?_) | (refine pwp_ret ?_)) | (guard_target =~ rg _ _ _ _ _ _ _; first | (guard_target =~ rg _ _ _ [] _ _ _; first | (refine rg_end ?_)) | (refine rg_a rfl (h := ?_)) | (refine rg_v rfl (h := ?_)) | (refine rg_s rfl ?_)) | (guard_target =~ SOp _ _ _ _ _ _; first | (guard_target =~ SOp _ _ ⟨_, .call ⟨.value (.func 65), _, _⟩, _, _, _, none⟩ _ _ _; first | (refine n_call (f := 65) rfl Tryd.call65 (h := AEq.sub' [_, _] (hc := t_all _ _ _ _ (by assumption)) (hq := ?_)))) | (guard_target =~ SOp _ _ ⟨_, .call ⟨.value (.func 62), _, _⟩, _, _, _, none⟩ _ _ _; first | (refine n_call (f := 62) rfl Tryd.call62 (h := AEq.sub' [_, _, _] (hc := dtab _ _ _ _) (hq := ?_))))) | (guard_target =~ (_ ∨ _) ∧ _; first | ((refine end_d [0, 1, 2] (by rw [Tryd.results32, Lf.res1]) (ale_1 ?_) ?_) <;> (try (first | exact ale_eq (by with_reducible rfl) | exact ale_full | exact ale_sl (fun _ => rfl) | exact ale_sl (by simp) | exact ale_junk | exact ale_eq rfl | exact stq (by with_reducible rfl) | exact stq (by rfl) | exact stq (by simp (disch := omega) only [go_sem, seval, ↓reduceIte, hU]))))) | (refine hK _ _ ?_; clear hK K))
 all_goals trace_state
end Go.Proofs.YtohbfcmmpaikhaaDoor

set_option linter.unusedVariables false
set_option linter.unusedSimpArgs false
namespace Go.Proofs.YtohbfcmmpaikhaaDoor
open Go Go.Lf Go.Proofs
attribute [local irreducible] Lf.rg Lf.ro Lf.PWp Lf.SOp Lf.ACall Lf.Scoped Lf.dg
set_option maxRecDepth 20000
set_option maxHeartbeats 4000000
def TOk (t : DT) : Prop := sumW t.xs ≤ t.m ∧ 0 ≤ t.m ∧ t.m ≤ 2147483647 ∧ ∀ f ∈ t.xs, f.n.size ≤ 1000000 ∧ f.v.size ≤ 1000000
theorem addT_ok {t : DT} {f : Fl} (h : TOk t) (h1 : f.n.size ≤ 1000000) (h2 : f.v.size ≤ 1000000) : TOk (addT t f) ∧ (addT t f).xs.length ≤ t.xs.length + 1 ∧ (addT t f).m = t.m := by
 obtain ⟨a, b, c, d⟩ := h
 by_cases hw : wt f ≤ t.m
 ·rw [addT_y hw]
  exact ⟨⟨addX_sum hw, b, c, addX_size d h1 h2⟩, addX_len _ _ _, rfl⟩
 ·rw [addT_n hw]
  refine ⟨⟨?_, b, c, xsE_size⟩, ?_, rfl⟩
  ·dsimp only; rw [xsE_sum]; exact b
  ·dsimp only; rw [xsE_len]; exact Nat.zero_le _
def fab : Fl := ⟨⟨#[97]⟩, ⟨#[98]⟩, false⟩
def wantL : List Fl := [fab]
def w5 : List UInt8 := [64, 1, 97, 1, 98]
def w190 : List UInt8 := [190]
theorem w5_len : w5.length = 5 := rfl
theorem w190_len : w190.length = 1 := rfl
theorem wantL_len : wantL.length = 1 := rfl
theorem wantL_size : ∀ f ∈ wantL, f.n.size ≤ 1000000 ∧ f.v.size ≤ 1000000 := by
 intro f hf
 obtain rfl := List.mem_singleton.1 hf
 exact ⟨by decide, by decide⟩
end Go.Proofs.YtohbfcmmpaikhaaDoor

set_option linter.unusedVariables false
set_option linter.unusedSimpArgs false
namespace Go.Proofs.YtohbfcmmpaikhaaDoor
open Go Go.Lf Go.Proofs
attribute [local irreducible] Lf.rg Lf.ro Lf.PWp Lf.SOp Lf.ACall Lf.Scoped Lf.dg Lf.dw
set_option maxRecDepth 20000
set_option maxHeartbeats 4000000
theorem sop_callv {P : Program} {N : Nat} {o : Oper} {Γ : Env} {σ : Sto} {K : AV → Sto → Prop} {f : FuncId} {x : Operand} {args : Array Operand} {ts : Array TypeId} (ho : o.op = .call { callee := .value x, args := args, argTypes := ts }) (hx : Lf.ev Γ x = .lit (.func (.func f) #[] #[]))
    (hc : ∀ (args : Array Value) (w : World), (callFunc f args).run P w = .ok (.enter f args) w) (h : ACall P f (args.toList.map (Lf.ev Γ)) σ K) : SOp P N o Γ σ K := by
  unfold SOp
  unfold ACall at h
  intro ρ w a next Q hf hr hn
  have e := hf.lit hx
  have hrun : (execOp a.eval o).run P w = .ok (.enter f (args.map a.eval)) w := by
    simp [execOp, ho, resolve, Deferred.ofValue, e, invoke, hc]
  unfold Oper.wp
  rw [hrun, Oper.upon_enter]
  have hvs : ∀ l : List Operand, VRl σ ρ w (l.map (Lf.ev Γ)) (l.map a.eval) := by
    intro l
    induction l with
    | nil => simp [VRl]
    | cons x l ih => simp only [List.map_cons, VRl]; exact ⟨hf.ev x, ih⟩
  have := h ρ w (args.toList.map a.eval) hr hf.2.1.2 (hvs _)
  have harr : (args.toList.map a.eval).toArray = args.map a.eval := Array.ext' (by simp)
  rw [harr] at this
  refine this.mono ?_
  rintro e w' ⟨r, σ', ρ', v, rfl, h2, h3, h4, h5⟩
  exact hn r σ' ρ' w' v h2 h3 h4 h5
theorem n_callv {P : Program} {N : Nat} {o : Oper} {Γ : Env} {σ : Sto} {K : AV → Sto → Prop} {f : FuncId} {x : Operand} {args : Array Operand} {ts : Array TypeId} {ys : List AV} (ho : o.op = .call { callee := .value x, args := args, argTypes := ts }) (hx : Lf.ev Γ x = .lit (.func (.func f) #[] #[]))
    (hc : ∀ (args : Array Value) (w : World), (callFunc f args).run P w = .ok (.enter f args) w) (has : args.toList.map (Lf.ev Γ) = ys) (h : ACall P f ys σ K) : SOp P N o Γ σ K := by
  subst has
  exact sop_callv ho hx hc h
end Go.Proofs.YtohbfcmmpaikhaaDoor

set_option linter.unusedVariables false
set_option linter.unusedSimpArgs false
namespace Go.Proofs.YtohbfcmmpaikhaaDoor
open Go Go.Lf Go.Proofs
attribute [local irreducible] Lf.rg Lf.ro Lf.PWp Lf.SOp Lf.ACall Lf.Scoped Lf.dg Lf.dw
set_option maxRecDepth 20000
set_option maxHeartbeats 4000000
/-! the static table's equal names stand side by side -/
theorem st_side : ∀ i j : Fin 62, 1 ≤ j.val → j.val < i.val → (stAt (i.val : Int)).1 = (stAt (j.val : Int)).1 → (stAt ((i.val - 1 : Nat) : Int)).1 = (stAt (i.val : Int)).1 := by decide +kernel
def stN (s : ByteArray) : Int := firstUp (nmEq s) 61
theorem stN_is (s : ByteArray) : IsFirst (nmEq s) (stN s) 1 61 := firstUp_is _ 61
theorem stN_bd (s : ByteArray) : 0 ≤ stN s ∧ stN s ≤ 61 := by
 rcases stN_is s with ⟨h, _⟩ | ⟨h, h2, _⟩ <;> omega
theorem stN_le {s : ByteArray} {i : Int} (h1 : 1 ≤ i) (h2 : i ≤ 61) (h : (stAt i).1 = s) : 1 ≤ stN s ∧ stN s ≤ i ∧ (stAt (stN s)).1 = s := by
 rcases stN_is s with ⟨h0, hn⟩ | ⟨a1, a2, a3, a4⟩
 ·have := hn i h1 h2
  simp [nmEq, h] at this
 ·refine ⟨a1, ?_, by simpa [nmEq] using a3⟩
  by_cases hc : i < stN s
  ·have := a4 i h1 hc
   simp [nmEq, h] at this
  ·omega
theorem stN_step {s : ByteArray} {i : Int} (h1 : 1 ≤ i) (h2 : i ≤ 61) (h : (stAt i).1 = s) (h3 : stN s ≠ i) : 2 ≤ i ∧ (stAt (i - 1)).1 = s := by
 obtain ⟨a, b, c⟩ := stN_le h1 h2 h
 have key := st_side ⟨i.toNat, by omega⟩ ⟨(stN s).toNat, by omega⟩ (by dsimp only; omega) (by dsimp only; omega)
 dsimp only at key
 rw [show ((i.toNat : Nat) : Int) = i from by omega, show (((stN s).toNat : Nat) : Int) = stN s from by omega, show ((i.toNat - 1 : Nat) : Int) = i - 1 from by omega] at key
 exact ⟨by omega, by rw [key (by rw [h, c]), h]⟩
theorem stFi_name {s v : ByteArray} : (stFi s v = 0 ∧ stN s = 0) ∨ (1 ≤ stFi s v ∧ stFi s v ≤ 61 ∧ (stAt (stFi s v)).1 = s) := by
 unfold stFi
 rcases firstUp_is (fdEq s v) 61 with ⟨h, hn⟩ | ⟨a1, a2, a3, a4⟩
 ·rw [if_neg (by simp [h])]
  rcases stN_is s with ⟨h, hn⟩ | ⟨a1, a2, a3, a4⟩
  ·exact .inl ⟨h, h⟩
  ·exact .inr ⟨a1, a2, by show (stAt (stN s)).1 = s; simpa [nmEq] using a3⟩
 ·rw [if_pos (by omega)]
  refine .inr ⟨a1, a2, ?_⟩
  have : (stAt (firstUp (fdEq s v) 61)).1 = s ∧ (stAt (firstUp (fdEq s v) 61)).2 = v := by simpa [fdEq] using a3
  exact this.1
def plI (R : List Fl) (n v : ByteArray) : Int := if stFb n v = true then stFi n v else if fnB R n v = true then 61 + fnI R n v else if stFi n v = 0 ∧ 0 < fnI R n v then 61 + fnI R n v else stFi n v
def plB (R : List Fl) (n v : ByteArray) : Bool := stFb n v || fnB R n v
def nmI (R : List Fl) (s : ByteArray) : Int := if stN s ≠ 0 then stN s else if nameG s R 1 ≠ 0 then 61 + nameG s R 1 else 0
theorem pl_is (xs : List Fl) (s : Nat) (z m : Int) (n v : ByteArray) (k : Bool) (h : xs.length ≤ 100000) : AEq Tryd.prog 90 [.ptr 0 0, .ag [.lit (.string n), .lit (.string v), bl k]] [.box [.row 1 s, i64 z, i64 m], .row s 67 3 (xs.map flA)] (.tu [i64 (plI xs.reverse n v), bl (plB xs.reverse n v)]) [.box [.row 1 s, i64 z, i64 m], .row s 67 3 (xs.map flA)] := by
 have hrl : xs.reverse.length = xs.length := List.length_reverse
 have hb1 := stF_bd n v
 have hb2 := fn_bd xs.reverse n v
 refine acall_body Tryd.func90 rfl Tryd.ntmps90 (by simp) (fun hsc => ?_); simp only [Lf.enter, Nat.reduceAdd]; clear hsc
 have hU := True.intro
 repeat' (first | (guard_target =~ PWp _ _ _ _ _ _ _; first | (refine pwp_seq_k (fun K hK => ?_)) | (refine pwp_block ?_) | (refine pwp_rg_then ?_) | (refine pwp_ret ?_) | (refine pwp_skip ?_) | ((refine pwp_cond_d (fun hcd => ?_) (fun hcd => ?_)) <;> (try simp only [hcP] at hcd) <;> (try (exfalso; first | omega | exact absurd hcd (by assumption) | exact absurd (by assumption) hcd)))) | (guard_target =~ rg _ _ _ _ _ _ _; first | (guard_target =~ rg _ _ _ (⟨_, .move _, _, _, _, some _⟩ :: _) _ _ _; first | (refine rg_gq rfl (h := ?_))) | (guard_target =~ rg _ _ _ (⟨_, .binOp _ _ _ _ _, _, _, _, some _⟩ :: _) _ _ _; first | (refine rg_gq rfl (h := ?_))) | (guard_target =~ rg _ _ _ [] _ _ _; first | (refine rg_end ?_)) | (refine rg_a rfl (h := ?_)) | (refine rg_x rfl (hy := rfl) (h := ?_)) | (refine rg_v rfl (h := ?_)) | (refine rg_s rfl ?_)) | (guard_target =~ SOp _ _ _ _ _ _; first | (guard_target =~ SOp _ _ ⟨_, .box _ _, _, _, _, none⟩ _ _ _; first | (refine n_box rfl (hK := ?_))) | (guard_target =~ SOp _ _ ⟨_, .call ⟨.value (.func 116), _, _⟩, _, _, _, none⟩ _ _ _; first | (refine n_call (f := 116) rfl Tryd.call116 (h := AEq.sub' [_, _] (hc := t_find _ _ _ _ _ _ (by assumption)) (hq := ?_)))) | (guard_target =~ SOp _ _ ⟨_, .call ⟨.value (.func 115), _, _⟩, _, _, _, none⟩ _ _ _; first | (refine n_call (f := 115) rfl Tryd.call115 (h := AEq.pure' (by first | ((repeat' (first | exact trivial | (first | exact arg_lit | exact arg_sl id id | exact arg_nil | exact arg_sl (by simp) id | exact arg_sl (by simp) (fun _ => rfl) | exact arg_row_m (by rfl) (by rfl) (fun _ => rfl) | exact arg_vw_m (by rfl) (by rfl) (fun _ => rfl) | exact arg_rn (by rfl) (by rfl) | exact arg_junk | exact arg_row_mm (by rfl) (by rfl) (fun _ => rfl)) | refine ⟨?_, ?_⟩)); done) | fail) (st_find _ _) (hq := ?_))))) | (guard_target =~ (_ ∨ _) ∧ _; first | ((refine end_d [0, 1] (by rw [Tryd.results90, Lf.res2]) (ale_2 ?_ ?_) ?_) <;> (try (first | exact ale_eq (by with_reducible rfl) | exact ale_full | exact ale_sl (fun _ => rfl) | exact ale_sl (by simp) | exact ale_junk | exact ale_eq rfl | exact stq (by with_reducible rfl) | exact stq (by rfl) | exact stq (by simp (disch := omega) only [go_sem, seval, ↓reduceIte, hU]))))) | (refine hK _ _ ?_; clear hK K))
 all_goals first | exact ale_i (by unfold plI; grind) | exact ale_bl (by unfold plB; grind) | trace_state
theorem eat_is (i : Int) (h : 1 ≤ i ∧ i ≤ 61) : AEq Tryd.prog 117 [i64 i] [] (.lit (.string (stAt i).1)) [] := by
 refine acall_body Tryd.func117 rfl Tryd.ntmps117 (by simp) (fun hsc => ?_); simp only [Lf.enter, Nat.reduceAdd]; clear hsc
 have hU := True.intro
 repeat' (first | (guard_target =~ PWp _ _ _ _ _ _ _; first | (refine pwp_seq_k (fun K hK => ?_)) | (refine pwp_rg_then ?_) | (refine pwp_ret ?_)) | (guard_target =~ rg _ _ _ _ _ _ _; first | (guard_target =~ rg _ _ _ [] _ _ _; first | (refine rg_end ?_)) | (refine rg_a rfl (h := ?_)) | (refine rg_x rfl (hy := rfl) (h := ?_)) | (refine rg_v rfl (h := ?_)) | (refine rg_s rfl ?_) | (refine rg_n rfl ?_)) | (guard_target =~ SOp _ _ _ _ _ _; first | (guard_target =~ SOp _ _ ⟨_, .call ⟨.value (.func 109), _, _⟩, _, _, _, none⟩ _ _ _; first | (refine n_call (f := 109) rfl Tryd.call109 (h := AEq.pure' (by first | ((repeat' (first | exact trivial | (first | exact arg_lit | exact arg_sl id id | exact arg_nil | exact arg_sl (by simp) id | exact arg_sl (by simp) (fun _ => rfl) | exact arg_row_m (by rfl) (by rfl) (fun _ => rfl) | exact arg_vw_m (by rfl) (by rfl) (fun _ => rfl) | exact arg_rn (by rfl) (by rfl) | exact arg_junk | exact arg_row_mm (by rfl) (by rfl) (fun _ => rfl)) | refine ⟨?_, ?_⟩)); done) | fail) (st_at_some _ (by assumption)) (hq := ?_)))) | (guard_target =~ SOp _ _ ⟨_, .alloc _, _, _, _, none⟩ _ _ _; first | (refine n_alloc rfl (by first | exact zv3 | exact zv4 | exact zv9 | exact zv67 | fail) (hK := ?_))) | (guard_target =~ SOp _ _ ⟨_, .store _ _ _, _, _, _, none⟩ _ _ _; first | (refine n_store rfl (hK := ?_)))) | (guard_target =~ (_ ∨ _) ∧ _; first | ((refine end_d [] (by rw [Tryd.results117, Lf.res1]) (ale_1 ?_) ?_) <;> (try (first | exact ale_eq (by with_reducible rfl) | exact ale_full | exact ale_sl (fun _ => rfl) | exact ale_sl (by simp) | exact ale_junk | exact ale_eq rfl | exact stq (by with_reducible rfl) | exact stq (by rfl) | exact stq (by simp (disch := omega) only [go_sem, seval, ↓reduceIte, hU]))))) | (refine hK _ _ ?_; clear hK K))
def kdI (k : Bool) (w : Int) : Int := if k = true then 4 else if w = 2 then 3 else 2
structure Op4 where
 (w : Int) (nn sn sv : Bool)
@[go_sem] def opA (o : Op4) : List AV := [i64 o.w, bl o.nn, bl o.sn, bl o.sv]
theorem ekind (n v : ByteArray) (k : Bool) (w : Int) (nn sn sv : Bool) : AEq Tryd.prog 91 [.ag [.lit (.string n), .lit (.string v), bl k], .ag [i64 w, bl nn, bl sn, bl sv]] [] (i64 (kdI k w)) [] := by
 refine acall_body Tryd.func91 rfl Tryd.ntmps91 (by simp) (fun hsc => ?_); simp only [Lf.enter, Nat.reduceAdd]; clear hsc
 have hU := True.intro
 repeat' (first | (guard_target =~ PWp _ _ _ _ _ _ _; first | (refine pwp_seq_k (fun K hK => ?_)) | (refine pwp_block ?_) | (refine pwp_rg_then ?_) | (refine pwp_ret ?_) | (refine pwp_skip ?_) | ((refine pwp_cond_d (fun hcd => ?_) (fun hcd => ?_)) <;> (try simp only [hcP] at hcd) <;> (try (exfalso; first | omega | exact absurd hcd (by assumption) | exact absurd (by assumption) hcd)))) | (guard_target =~ rg _ _ _ _ _ _ _; first | (guard_target =~ rg _ _ _ [] _ _ _; first | (refine rg_end ?_)) | (refine rg_a rfl (h := ?_)) | (refine rg_v rfl (h := ?_)) | (refine rg_s rfl ?_)) | (guard_target =~ SOp _ _ _ _ _ _; first | (guard_target =~ SOp _ _ ⟨_, .box _ _, _, _, _, none⟩ _ _ _; first | (refine n_box rfl (hK := ?_)))) | (guard_target =~ (_ ∨ _) ∧ _; first | ((refine end_d [] (by rw [Tryd.results91, Lf.res1]) (ale_1 ?_) ?_) <;> (try (first | exact ale_eq (by with_reducible rfl) | exact ale_full | exact ale_sl (fun _ => rfl) | exact ale_sl (by simp) | exact ale_junk | exact ale_eq rfl | exact stq (by with_reducible rfl) | exact stq (by rfl) | exact stq (by simp (disch := omega) only [go_sem, seval, ↓reduceIte, hU]))))) | (refine hK _ _ ?_; clear hK K))
 all_goals first | exact ale_i (by unfold kdI; grind) | trace_state
def badS (n : Int) : Bool := decide (n < 0 ∨ 2147483647 < n)
theorem ewrong (n : Int) : AEq Tryd.prog 68 [i64 n] [] (bl (badS n)) [] := by
 refine acall_body Tryd.func68 rfl Tryd.ntmps68 (by simp) (fun hsc => ?_); simp only [Lf.enter, Nat.reduceAdd]; clear hsc
 have hU := True.intro
 repeat' (first | (guard_target =~ PWp _ _ _ _ _ _ _; first | (refine pwp_seq_k (fun K hK => ?_)) | (refine pwp_rg_then ?_) | (refine pwp_ret ?_)) | (guard_target =~ rg _ _ _ _ _ _ _; first | (guard_target =~ rg _ _ _ (⟨_, .move _, _, _, _, some _⟩ :: _) _ _ _; first | (refine rg_gq rfl (h := ?_))) | (guard_target =~ rg _ _ _ (⟨_, .binOp _ _ _ _ _, _, _, _, some _⟩ :: _) _ _ _; first | (refine rg_gq rfl (h := ?_))) | (guard_target =~ rg _ _ _ [] _ _ _; first | (refine rg_end ?_)) | (refine rg_a rfl (h := ?_)) | (refine rg_v rfl (h := ?_))) | (guard_target =~ (_ ∨ _) ∧ _; first | ((refine end_d [] (by rw [Tryd.results68, Lf.res1]) (ale_1 ?_) ?_) <;> (try (first | exact ale_eq (by with_reducible rfl) | exact ale_full | exact ale_sl (fun _ => rfl) | exact ale_sl (by simp) | exact ale_junk | exact ale_eq rfl | exact stq (by with_reducible rfl) | exact stq (by rfl) | exact stq (by simp (disch := omega) only [go_sem, seval, ↓reduceIte, hU]))))) | (refine hK _ _ ?_; clear hK K))
 all_goals first | exact ale_bl (by unfold badS; grind) | trace_state
def idxS : List Int → Int → Int
 | [], _ => -1
 | x :: l, i => if badS x = true then i else idxS l (i + 1)
def anyS : List Int → Bool
 | [] => false
 | x :: l => if badS x = true then true else anyS l
theorem idxS_any : ∀ (l : List Int) (i : Int), 0 ≤ i → anyS l = decide (0 ≤ idxS l i)
 | [], i, h => by simp [anyS, idxS]
 | x :: l, i, h => by
  unfold anyS idxS
  by_cases hx : badS x = true
  ·rw [if_pos hx, if_pos hx]; simp [h]
  ·rw [if_neg hx, if_neg hx]; exact idxS_any l (i + 1) (by omega)
theorem anyS_no : ∀ {l : List Int}, anyS l = false → ∀ x ∈ l, 0 ≤ x ∧ x ≤ 2147483647
 | [], _, x, h => by simp at h
 | y :: l, h, x, hx => by
  unfold anyS at h
  split at h
  ·cases h
  ·rename_i hy
   rcases List.mem_cons.1 hx with rfl | hx
   ·simp [badS] at hy; omega
   ·exact anyS_no h x hx
theorem idxs (f q : Bool) (l : List Int) (h : l.length ≤ 9223372036854775807) : AEq Tryd.prog 88 [.sl f q (l.map intA), .lit (.func (.func 68) #[] #[])] [] (i64 (idxS l 0)) [] := by
 refine acall_body Tryd.func88 rfl Tryd.ntmps88 (by simp) (fun hsc => ?_); simp only [Lf.enter, Nat.reduceAdd]; clear hsc
 have hU := True.intro
 repeat' (first | (guard_target =~ PWp _ _ _ _ _ _ _; first | (refine pwp_seq_k (fun K hK => ?_)) | (refine pwp_block ?_) | (refine pwp_rg_then ?_)) | (guard_target =~ rg _ _ _ _ _ _ _; first | (guard_target =~ rg _ _ _ [] _ _ _; first | (refine rg_end ?_)) | (refine rg_a rfl (h := ?_)) | (refine rg_v rfl (h := ?_))) | (refine hK _ _ ?_; clear hK K))
 refine pwp_loop_e [4, 5, 8, 9, 10, 11, 12, 13, 14, 15, 16, 17, 18] (fun i : Nat => [(8, i64 i)]) (fun _ => []) (fun i => i ≤ l.length ∧ idxS l 0 = idxS (l.drop i) i) (fun i => l.length - i) 0 ⟨Nat.zero_le _, rfl⟩ ?_ rfl ?_
 ·(refine ⟨⟨_, (by (try simp (disch := omega) only [go_sem, seval, ↓reduceIte, hU]) <;> rfl), ?_⟩, trivial⟩ <;> (try (first | exact ale_eq (by with_reducible rfl) | exact ale_full | exact ale_sl (fun _ => rfl) | exact ale_sl (by simp) | exact ale_junk | exact ale_eq rfl)))
 ·rintro i ⟨hi, hk⟩
  simp only [mask, List.map_cons, List.map_nil, List.cons_append, List.nil_append]
  by_cases hlt : i < l.length
  ·obtain ⟨d, hd⟩ := ex_at hlt
   rw [ddrop_at hd, idxS] at hk
   cases h1 : badS d with
   | true =>
    rw [if_pos h1] at hk
    have hU := @h1
    repeat' (first | (guard_target =~ PWp _ _ _ _ _ _ _; first | (refine pwp_seq_k (fun K hK => ?_)) | (refine pwp_block ?_) | (refine pwp_rg_then ?_) | (refine pwp_ret ?_) | (refine pwp_skip ?_) | ((refine pwp_cond_d (fun hcd => ?_) (fun hcd => ?_)) <;> (try simp only [hcP] at hcd) <;> (try (exfalso; first | omega | exact absurd hcd (by assumption) | exact absurd (by assumption) hcd)))) | (guard_target =~ rg _ _ _ _ _ _ _; first | (guard_target =~ rg _ _ _ [] _ _ _; first | (refine rg_end ?_)) | (refine rg_a rfl (h := ?_)) | (refine rg_v rfl (h := ?_)) | (refine rg_s rfl ?_)) | (guard_target =~ SOp _ _ _ _ _ _; first | (guard_target =~ SOp _ _ ⟨_, .call ⟨.value (.tmp _), _, _⟩, _, _, _, none⟩ _ _ _; first | (refine n_callv (f := 68) rfl (by first | (simp (disch := omega) only [go_sem, seval, ↓reduceIte, hU]; done) | rfl) Tryd.call68 (by (try simp (disch := omega) only [go_sem, seval, ↓reduceIte, hU]) <;> rfl) (AEq.pure' (by first | ((repeat' (first | exact trivial | (first | exact arg_lit | exact arg_sl id id | exact arg_nil | exact arg_sl (by simp) id | exact arg_sl (by simp) (fun _ => rfl) | exact arg_row_m (by rfl) (by rfl) (fun _ => rfl) | exact arg_vw_m (by rfl) (by rfl) (fun _ => rfl) | exact arg_rn (by rfl) (by rfl) | exact arg_junk | exact arg_row_mm (by rfl) (by rfl) (fun _ => rfl)) | refine ⟨?_, ?_⟩)); done) | fail) (ewrong _) (by first | (simp (disch := omega) only [go_sem, seval, ↓reduceIte, hU]; done) | rfl) (by (try simp (disch := omega) only [go_sem, seval, ↓reduceIte, hU]) <;> rfl) ?_))) | (guard_target =~ SOp _ _ ⟨_, .indexAddr _ _ _, _, _, _, none⟩ _ _ _; first | (refine n_index rfl (hK := ?_)))) | (guard_target =~ (_ ∨ _) ∧ _; first | ((refine end_d [] (by rw [Tryd.results88, Lf.res1]) (ale_1 ?_) ?_) <;> (try (first | exact ale_eq (by with_reducible rfl) | exact ale_full | exact ale_sl (fun _ => rfl) | exact ale_sl (by simp) | exact ale_junk | exact ale_eq rfl | exact stq (by with_reducible rfl) | exact stq (by rfl) | exact stq (by simp (disch := omega) only [go_sem, seval, ↓reduceIte, hU]))))) | (refine hK _ _ ?_; clear hK K))
    all_goals exact ale_i hk.symm
   | false =>
    rw [if_neg (by simp [h1])] at hk
    have hU := @h1
    repeat' (first | (guard_target =~ PWp _ _ _ _ _ _ _; first | (refine pwp_seq_k (fun K hK => ?_)) | (refine pwp_block ?_) | (refine pwp_rg_then ?_) | (refine pwp_skip ?_) | ((refine pwp_cond_d (fun hcd => ?_) (fun hcd => ?_)) <;> (try simp only [hcP] at hcd) <;> (try (exfalso; first | omega | exact absurd hcd (by assumption) | exact absurd (by assumption) hcd)))) | (guard_target =~ rg _ _ _ _ _ _ _; first | (guard_target =~ rg _ _ _ [] _ _ _; first | (refine rg_end ?_)) | (refine rg_a rfl (h := ?_)) | (refine rg_v rfl (h := ?_)) | (refine rg_s rfl ?_)) | (guard_target =~ SOp _ _ _ _ _ _; first | (guard_target =~ SOp _ _ ⟨_, .call ⟨.value (.tmp _), _, _⟩, _, _, _, none⟩ _ _ _; first | (refine n_callv (f := 68) rfl (by first | (simp (disch := omega) only [go_sem, seval, ↓reduceIte, hU]; done) | rfl) Tryd.call68 (by (try simp (disch := omega) only [go_sem, seval, ↓reduceIte, hU]) <;> rfl) (AEq.pure' (by first | ((repeat' (first | exact trivial | (first | exact arg_lit | exact arg_sl id id | exact arg_nil | exact arg_sl (by simp) id | exact arg_sl (by simp) (fun _ => rfl) | exact arg_row_m (by rfl) (by rfl) (fun _ => rfl) | exact arg_vw_m (by rfl) (by rfl) (fun _ => rfl) | exact arg_rn (by rfl) (by rfl) | exact arg_junk | exact arg_row_mm (by rfl) (by rfl) (fun _ => rfl)) | refine ⟨?_, ?_⟩)); done) | fail) (ewrong _) (by first | (simp (disch := omega) only [go_sem, seval, ↓reduceIte, hU]; done) | rfl) (by (try simp (disch := omega) only [go_sem, seval, ↓reduceIte, hU]) <;> rfl) ?_))) | (guard_target =~ SOp _ _ ⟨_, .indexAddr _ _ _, _, _, _, none⟩ _ _ _; first | (refine n_index rfl (hK := ?_)))) | (refine hK _ _ ?_; clear hK K))
    refine ⟨i + 1, ⟨by omega, hk⟩, by omega, ?_, (by repeat' (first | exact agr_refl | refine agr_cons (by rfl) ?_)), (by first | rfl | (simp (disch := omega) only [go_sem, seval, ↓reduceIte, hU]; done) | (simp (disch := omega) only [go_sem, seval, ↓reduceIte, hU]; rfl))⟩
    (refine ⟨⟨_, (by (try simp (disch := omega) only [go_sem, seval, ↓reduceIte, hU]) <;> rfl), ?_⟩, trivial⟩ <;> (try (first | exact ale_eq (by with_reducible rfl) | exact ale_full | exact ale_sl (fun _ => rfl) | exact ale_sl (by simp) | exact ale_junk | exact ale_eq rfl)))
  ·have he : idxS l 0 = -1 := by rw [hk, List.drop_eq_nil_of_le (by omega)]; rfl
   repeat' (first | (guard_target =~ PWp _ _ _ _ _ _ _; first | (refine pwp_seq_k (fun K hK => ?_)) | (refine pwp_rg_then ?_) | (refine pwp_ret ?_) | (refine pwp_exit ?_) | ((refine pwp_cond_d (fun hcd => ?_) (fun hcd => ?_)) <;> (try simp only [hcP] at hcd) <;> (try (exfalso; first | omega | exact absurd hcd (by assumption) | exact absurd (by assumption) hcd)))) | (guard_target =~ rg _ _ _ _ _ _ _; first | (guard_target =~ rg _ _ _ [] _ _ _; first | (refine rg_end ?_)) | (refine rg_a rfl (h := ?_)) | (refine rg_v rfl (h := ?_))) | (guard_target =~ (_ ∨ _) ∧ _; first | ((refine end_d [] (by rw [Tryd.results88, Lf.res1]) (ale_1 ?_) ?_) <;> (try (first | exact ale_eq (by with_reducible rfl) | exact ale_full | exact ale_sl (fun _ => rfl) | exact ale_sl (by simp) | exact ale_junk | exact ale_eq rfl | exact stq (by with_reducible rfl) | exact stq (by rfl) | exact stq (by simp (disch := omega) only [go_sem, seval, ↓reduceIte, hU]))))) | (refine hK _ _ ?_; clear hK K) | (apply_assumption (exfalso := false) (symm := false)))
   all_goals exact ale_i he.symm
theorem contS (f q : Bool) (l : List Int) (h : l.length ≤ 9223372036854775807) : AEq Tryd.prog 67 [.sl f q (l.map intA), .lit (.func (.func 68) #[] #[])] [] (bl (anyS l)) [] := by
 have he := idxS_any l 0 (by decide)
 refine acall_body Tryd.func67 rfl Tryd.ntmps67 (by simp) (fun hsc => ?_); simp only [Lf.enter, Nat.reduceAdd]; clear hsc
 have hU := @he
 repeat' (first | (guard_target =~ PWp _ _ _ _ _ _ _; first | (refine pwp_seq_k (fun K hK => ?_)) | (refine pwp_rg_then ?_) | (refine pwp_ret ?_)) | (guard_target =~ rg _ _ _ _ _ _ _; first | (guard_target =~ rg _ _ _ [] _ _ _; first | (refine rg_end ?_)) | (refine rg_a rfl (h := ?_)) | (refine rg_v rfl (h := ?_)) | (refine rg_s rfl ?_)) | (guard_target =~ SOp _ _ _ _ _ _; first | (guard_target =~ SOp _ _ ⟨_, .call ⟨.value (.func 88), _, _⟩, _, _, _, none⟩ _ _ _; first | (refine n_call (f := 88) rfl Tryd.call88 (h := AEq.pure' (by first | ((repeat' (first | exact trivial | (first | exact arg_lit | exact arg_sl id id | exact arg_nil | exact arg_sl (by simp) id | exact arg_sl (by simp) (fun _ => rfl) | exact arg_row_m (by rfl) (by rfl) (fun _ => rfl) | exact arg_vw_m (by rfl) (by rfl) (fun _ => rfl) | exact arg_rn (by rfl) (by rfl) | exact arg_junk | exact arg_row_mm (by rfl) (by rfl) (fun _ => rfl)) | refine ⟨?_, ?_⟩)); done) | fail) (idxs _ _ _ (by assumption)) (hq := ?_))))) | (guard_target =~ (_ ∨ _) ∧ _; first | ((refine end_d [] (by rw [Tryd.results67, Lf.res1]) (ale_1 ?_) ?_) <;> (try (first | exact ale_eq (by with_reducible rfl) | exact ale_full | exact ale_sl (fun _ => rfl) | exact ale_sl (by simp) | exact ale_junk | exact ale_eq rfl | exact stq (by with_reducible rfl) | exact stq (by rfl) | exact stq (by simp (disch := omega) only [go_sem, seval, ↓reduceIte, hU]))))) | (refine hK _ _ ?_; clear hK K))
 all_goals exact ale_bl (by rw [← he])
end Go.Proofs.YtohbfcmmpaikhaaDoor

