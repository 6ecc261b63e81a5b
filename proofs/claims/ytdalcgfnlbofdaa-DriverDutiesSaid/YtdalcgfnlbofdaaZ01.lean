import Derived.Test.YtdalcgfnlbofdaaTy
import Derived.Test.YtdalcgfnlbofdaaLc
set_option linter.unusedVariables false
set_option linter.unusedSimpArgs false
namespace Go.Proofs.Ytdalcgfnlbofdaa
open Go Go.Lf Go.Proofs
attribute [local irreducible] Lf.rg Lf.ro Lf.PWp Lf.SOp Lf.ACall Lf.Scoped Lf.dg Lf.dw
set_option maxRecDepth 20000
set_option maxHeartbeats 4000000
theorem take_snoc {α : Type} {l : List α} {i : Nat} {x : α} (h : l[i]? = some x) : l.take (i + 1) = l.take i ++ [x] := by
 rw [List.take_add_one, h]; rfl
theorem same_is (f g q r : Bool) (a b : List UInt8) (hb : a.length ≤ 4000000000000000000) : AEq Try.prog 24 [.sl f q (a.map byteA), .sl g r (b.map byteA)] [] (bl (decide (a = b))) [] := by
  by_cases h : a.length = b.length
  · refine acall_body Try.func24 rfl Try.ntmps24 (by simp) (fun hsc => ?_); simp only [Lf.enter, Nat.reduceAdd]; clear hsc
    have hU := True.intro
    repeat' (first | (guard_target =~ PWp _ _ _ _ _ _ _; first | (refine pwp_seq_k (fun K hK => ?_)) | (refine pwp_block ?_) | (refine pwp_rg_then ?_) | (refine pwp_skip ?_) | ((refine pwp_cond_d (fun hcd => ?_) (fun hcd => ?_)) <;> (try simp only [hcP] at hcd) <;> (try exact cdT))) | (guard_target =~ rg _ _ _ _ _ _ _; first | (guard_target =~ rg _ _ _ [] _ _ _; first | (refine rg_end ?_)) | (refine rg_a rfl (h := ?_)) | (refine rg_v rfl (h := ?_))) | (refine hK _ _ ?_; clear hK K))
    refine pwp_loop_e [4, 5, 11, 12, 13, 14, 15, 16, 17, 18, 19, 20, 21, 22, 23, 24, 25] (fun i : Nat => [(5, i64 i)]) (fun _ => []) (fun i => i ≤ a.length ∧ a.take i = b.take i) (fun i => a.length - i) 0 ⟨Nat.zero_le _, rfl⟩ ?_ rfl ?_
    · (refine ⟨⟨_, sT, ?_⟩, trivial⟩ <;> (try (first | exact aleT)))
    · rintro i ⟨hi, ht⟩
      simp only [mask, List.map_cons, List.map_nil, List.cons_append, List.nil_append]
      by_cases hlt : i < a.length
      · obtain ⟨x, hx⟩ : ∃ x, a[i]? = some x := ⟨a[i], List.getElem?_eq_getElem hlt⟩
        obtain ⟨y, hy⟩ : ∃ y, b[i]? = some y := ⟨b[i], List.getElem?_eq_getElem (by omega)⟩
        repeat' (first | (guard_target =~ PWp _ _ _ _ _ _ _; first | (refine pwp_seq_k (fun K hK => ?_)) | (refine pwp_block ?_) | (refine pwp_rg_then ?_) | (refine pwp_draw mixed (by kernel_rfl) ?_) | (refine pwp_ret ?_) | (refine pwp_skip ?_) | ((refine pwp_cond_d (fun hcd => ?_) (fun hcd => ?_)) <;> (try simp only [hcP] at hcd) <;> (try exact cdT))) | (guard_target =~ rg _ _ _ _ _ _ _; first | (guard_target =~ rg _ _ _ [] _ _ _; first | (refine rg_end ?_)) | (refine rg_a rfl (h := ?_)) | (refine rg_v rfl (h := ?_))) | (guard_target =~ dg _ _ _ _ _ _ _; first | (guard_target =~ dg _ _ _ (⟨_, .move _, _, _, _, none⟩ :: _) _ _ _; first | (refine dg_v rfl (hk := ?_))) | (guard_target =~ dg _ _ _ (⟨_, .binOp _ _ _ _ _, _, _, _, none⟩ :: _) _ _ _; first | (refine dg_v rfl (hk := ?_))) | (guard_target =~ dg _ _ _ (⟨_, .call ⟨.builtin .len, _, _⟩, _, _, _, none⟩ :: _) _ _ _; first | (refine dg_v rfl (hk := ?_))) | (guard_target =~ dg _ _ _ (⟨_, .load _ _, _, _, _, none⟩ :: _) _ _ _; first | (refine dg_v rfl (hk := ?_))) | (guard_target =~ dg _ _ _ (⟨_, .indexAddr _ _ _, _, _, _, none⟩ :: _) _ _ _; first | (refine dg_c (x := _) (h := ro_s (h := n_index rfl (hK := ro_end ⟨rfl, rfl⟩))) (hk := ?_))) | (guard_target =~ dg _ _ _ [] _ _ _; first | (refine dg_nil ?_))) | (guard_target =~ (_ ∨ _) ∧ _; first | ((refine end_d [] (by rw [Try.results24, Lf.res1]) (ale_1 ?_) ?_) <;> (try (first | exact aleT | exact stq (by with_reducible rfl) | exact stq (by rfl) | exact stq (by simp (disch := omega) only [go_sem, seval, ↓reduceIte, hU]))))) | (refine hK _ _ ?_; clear hK K))
        · have hne : a ≠ b := by
            rintro rfl
            rw [hx] at hy
            cases hy
            exact hcd rfl
          exact ale_eq (by simp [hne])
        · have hxy : x = y := UInt8.toNat_inj.1 (by omega)
          refine ⟨i + 1, ⟨by omega, by rw [take_snoc hx, take_snoc hy, ht, hxy]⟩, by omega, ?_, (by repeat' (first | exact agr_refl | refine agr_cons (by rfl) ?_)), rfl⟩
          (refine ⟨⟨_, sT, ?_⟩, trivial⟩ <;> (try (first | exact aleT)))
      · have hab : a = b := by
          have h1 : a.take i = a := List.take_of_length_le (by omega)
          have h2 : b.take i = b := List.take_of_length_le (by omega)
          rw [← h1, ← h2]; exact ht
        subst hab
        repeat' (first | (guard_target =~ PWp _ _ _ _ _ _ _; first | (refine pwp_seq_k (fun K hK => ?_)) | (refine pwp_rg_then ?_) | (refine pwp_ret ?_) | (refine pwp_exit ?_) | ((refine pwp_cond_d (fun hcd => ?_) (fun hcd => ?_)) <;> (try simp only [hcP] at hcd) <;> (try exact cdT))) | (guard_target =~ rg _ _ _ _ _ _ _; first | (guard_target =~ rg _ _ _ [] _ _ _; first | (refine rg_end ?_)) | (refine rg_a rfl (h := ?_)) | (refine rg_v rfl (h := ?_))) | (guard_target =~ (_ ∨ _) ∧ _; first | ((refine end_d [] (by rw [Try.results24, Lf.res1]) (ale_1 ?_) ?_) <;> (try (first | exact aleT | exact stq (by with_reducible rfl) | exact stq (by rfl) | exact stq (by simp (disch := omega) only [go_sem, seval, ↓reduceIte, hU]))))) | (refine hK _ _ ?_; clear hK K) | (apply_assumption (exfalso := false) (symm := false)))
        exact ale_eq (by simp)
  · have : a ≠ b := fun e => h (by rw [e])
    rw [show decide (a = b) = false by simp [this]]
    refine acall_body Try.func24 rfl Try.ntmps24 (by simp) (fun hsc => ?_); simp only [Lf.enter, Nat.reduceAdd]; clear hsc
    have hU := True.intro
    repeat' (first | (guard_target =~ PWp _ _ _ _ _ _ _; first | (refine pwp_seq_k (fun K hK => ?_)) | (refine pwp_rg_then ?_) | (refine pwp_ret ?_) | ((refine pwp_cond_d (fun hcd => ?_) (fun hcd => ?_)) <;> (try simp only [hcP] at hcd) <;> (try exact cdT))) | (guard_target =~ rg _ _ _ _ _ _ _; first | (guard_target =~ rg _ _ _ [] _ _ _; first | (refine rg_end ?_)) | (refine rg_a rfl (h := ?_)) | (refine rg_v rfl (h := ?_))) | (guard_target =~ (_ ∨ _) ∧ _; first | ((refine end_d [] (by rw [Try.results24, Lf.res1]) (ale_1 ?_) ?_) <;> (try (first | exact aleT | exact stq (by with_reducible rfl) | exact stq (by rfl) | exact stq (by simp (disch := omega) only [go_sem, seval, ↓reduceIte, hU]))))) | (refine hK _ _ ?_; clear hK K))
theorem clone_b (f q : Bool) (l : List UInt8) (h : l.length ≤ 100000000000000) : AEq Try.prog 52 [.sl f q (l.map byteA)] [] (.sl false false (l.map byteA)) [] := by
  refine acall_body Try.func52 rfl Try.ntmps52 (by simp) (fun hsc => ?_); simp only [Lf.enter, Nat.reduceAdd]; clear hsc
  have hU := True.intro
  repeat' (first | (guard_target =~ PWp _ _ _ _ _ _ _; first | (refine pwp_seq_k (fun K hK => ?_)) | (refine pwp_rg_then ?_) | (refine pwp_ret ?_) | (refine pwp_skip ?_) | ((refine pwp_cond_d (fun hcd => ?_) (fun hcd => ?_)) <;> (try simp only [hcP] at hcd) <;> (try exact cdT))) | (guard_target =~ rg _ _ _ _ _ _ _; first | (guard_target =~ rg _ _ _ [] _ _ _; first | (refine rg_end ?_)) | (refine rg_a rfl (h := ?_)) | (refine rg_v rfl (h := ?_)) | (refine rg_s rfl ?_)) | (guard_target =~ SOp _ _ _ _ _ _; first | (guard_target =~ SOp _ _ ⟨_, .binOp _ _ _ _ _, _, _, _, none⟩ _ _ _; first | (refine n_eqnil (ne := false) rfl (hx := ⟨_, sT, rfl⟩) (hK := (fun b hb => ?_)))) | (guard_target =~ SOp _ _ ⟨_, .call ⟨.builtin .append, _, _⟩, _, _, _, none⟩ _ _ _; first | (refine n_append_new rfl (he := by first | exact eo4 | exact eo5 | exact eo28 | fail) (hK := ?_))) | (guard_target =~ SOp _ _ ⟨_, .buildSlice _ _ _, _, _, _, none⟩ _ _ _; first | (refine n_lit rfl (he := by first | exact eo4 | exact eo5 | exact eo28 | fail) (hK := ?_)))) | (guard_target =~ (_ ∨ _) ∧ _; first | ((refine end_d [] (by rw [Try.results52, Lf.res1]) (ale_1 ?_) ?_) <;> (try (first | exact aleT | exact stq (by with_reducible rfl) | exact stq (by rfl) | exact stq (by simp (disch := omega) only [go_sem, seval, ↓reduceIte, hU]))))) | (refine hK _ _ ?_; clear hK K))
  · have : l = [] := by
      cases l with
      | nil => rfl
      | cons x l => simp_all
    subst this
    exact ale_sl (by simp)
end Go.Proofs.Ytdalcgfnlbofdaa

set_option linter.unusedVariables false
set_option linter.unusedSimpArgs false
namespace Go.Proofs.Ytdalcgfnlbofdaa
open Go Go.Lf Go.Proofs
attribute [local irreducible] Lf.rg Lf.ro Lf.PWp Lf.SOp Lf.ACall Lf.Scoped Lf.dg Lf.dw
set_option maxRecDepth 20000
set_option maxHeartbeats 4000000
section
variable {P : Program} {N : Nat} {o : Oper} {Γ : Env} {σ : Sto} {K : AV → Sto → Prop} {x y : Operand} {ts : Array TypeId} {k k' : IntKind} {a b : Int}
theorem n_max_l (ho : o.op = .call { callee := .builtin .max, args := #[x, y], argTypes := ts }) (hx : ev Γ x = .lit (.int k a)) (hy : ev Γ y = .lit (.int k' b)) (h : b ≤ a) (hK : K (.lit (.int k a)) σ) : SOp P N o Γ σ K := by
 refine SOp.pure (.lit (.int k a)) (fun ρ w ac hf hr => ⟨.int k a, ?_, rfl⟩) hK
 have e1 := hf.lit hx
 have e2 := hf.lit hy
 have h2 : ¬ b > a := by omega
 simp [execOp, ho, resolve, invoke, builtin, Builtin.max_, Builtin.max2, e1, e2, h2]
theorem n_max_r (ho : o.op = .call { callee := .builtin .max, args := #[x, y], argTypes := ts }) (hx : ev Γ x = .lit (.int k a)) (hy : ev Γ y = .lit (.int k' b)) (h : a ≤ b) (hK : K (.lit (.int k b)) σ) : SOp P N o Γ σ K := by
 refine SOp.pure (.lit (.int k b)) (fun ρ w ac hf hr => ⟨.int k b, ?_, rfl⟩) hK
 have e1 := hf.lit hx
 have e2 := hf.lit hy
 by_cases h2 : b > a
 ·simp [execOp, ho, resolve, invoke, builtin, Builtin.max_, Builtin.max2, e1, e2, h2]
 ·obtain rfl : a = b := by omega
  simp [execOp, ho, resolve, invoke, builtin, Builtin.max_, Builtin.max2, e1, e2]
theorem n_max_m (ho : o.op = .call { callee := .builtin .max, args := #[x, y], argTypes := ts }) (hx : ev Γ x = .lit (.int k a)) (hy : ev Γ y = .lit (.int k b)) (hK : K (.lit (.int k (max a b))) σ) : SOp P N o Γ σ K := by
 by_cases h : b ≤ a
 ·rw [show max a b = a from by omega] at hK
  exact n_max_l ho hx hy h hK
 ·rw [show max a b = b from by omega] at hK
  exact n_max_r ho hx hy (by omega) hK
end
end Go.Proofs.Ytdalcgfnlbofdaa

set_option linter.unusedVariables false
set_option linter.unusedSimpArgs false
namespace Go.Proofs.Ytdalcgfnlbofdaa
open Go Go.Lf Go.Proofs
attribute [local irreducible] Lf.rg Lf.ro Lf.PWp Lf.SOp Lf.ACall Lf.Scoped Lf.dg Lf.dw
set_option maxRecDepth 20000
set_option maxHeartbeats 4000000
end Go.Proofs.Ytdalcgfnlbofdaa

set_option linter.unusedVariables false
set_option linter.unusedSimpArgs false
namespace Go.Lf
open Go
theorem sop_makefn {P : Program} {N : Nat} {o : Oper} {Γ : Env} {σ : Sto} {K : AV → Sto → Prop} {k : FuncId} {cs : Array Operand} (ho : o.op = .makeFunc (.func k) #[] cs) (hK : K (.fn k (cs.toList.map (ev Γ))) σ) : SOp P N o Γ σ K := by
 refine SOp.pure _ (fun ρ w a hf hr => ⟨.func (.func k) #[] (cs.map a.eval), by simp [execOp, ho, Instr.makeFunc], ?_⟩) hK
 simp only [VR]
 refine ⟨cs.toList.map a.eval, by rw [← Array.toList_map, Array.toArray_toList], ?_⟩
 generalize cs.toList = l
 induction l with
 | nil => simp [VRl]
 | cons x l ih => simp only [List.map_cons, VRl]; exact ⟨hf.ev x, ih⟩
theorem n_makefn {P : Program} {N : Nat} {o : Oper} {Γ : Env} {σ : Sto} {K : AV → Sto → Prop} {k : FuncId} {cs : Array Operand} {ys : List AV} (ho : o.op = .makeFunc (.func k) #[] cs) (hy : cs.toList.map (ev Γ) = ys) (hK : K (.fn k ys) σ) : SOp P N o Γ σ K := by
 subst hy
 exact sop_makefn ho hK
theorem sop_callf {P : Program} {N : Nat} {o : Oper} {Γ : Env} {σ : Sto} {K : AV → Sto → Prop} {f : FuncId} {x : Operand} {ys : List AV} {args : Array Operand} {ts : Array TypeId} (ho : o.op = .call { callee := .value x, args := args, argTypes := ts }) (hx : Lf.ev Γ x = .fn f ys)
    (hc : ∀ (args : Array Value) (w : World), (callFunc f args).run P w = .ok (.enter f args) w) (h : ACall P f (args.toList.map (Lf.ev Γ) ++ ys) σ K) : SOp P N o Γ σ K := by
  unfold SOp
  unfold ACall at h
  intro ρ w a next Q hf hr hn
  have hv := hf.ev x
  rw [hx] at hv
  simp only [VR] at hv
  obtain ⟨cv, e, hcv⟩ := hv
  have hrun : (execOp a.eval o).run P w = .ok (.enter f (args.map a.eval ++ cv.toArray)) w := by
    simp [execOp, ho, resolve, Deferred.ofValue, e, invoke, hc]
  unfold Oper.wp
  rw [hrun, Oper.upon_enter]
  have hvs : ∀ l : List Operand, VRl σ ρ w (l.map (Lf.ev Γ)) (l.map a.eval) := by
    intro l
    induction l with
    | nil => simp [VRl]
    | cons x l ih => simp only [List.map_cons, VRl]; exact ⟨hf.ev x, ih⟩
  have := h ρ w (args.toList.map a.eval ++ cv) hr hf.2.1.2 (VRl_app _ _ _ _ (hvs _) hcv)
  have harr : (args.toList.map a.eval ++ cv).toArray = args.map a.eval ++ cv.toArray := Array.ext' (by simp)
  rw [harr] at this
  refine this.mono ?_
  rintro e w' ⟨r, σ', ρ', v, rfl, h2, h3, h4, h5⟩
  exact hn r σ' ρ' w' v h2 h3 h4 h5
theorem n_callf {P : Program} {N : Nat} {o : Oper} {Γ : Env} {σ : Sto} {K : AV → Sto → Prop} {f : FuncId} {x : Operand} {ys zs : List AV} {args : Array Operand} {ts : Array TypeId} (ho : o.op = .call { callee := .value x, args := args, argTypes := ts }) (hx : Lf.ev Γ x = .fn f ys)
    (hc : ∀ (args : Array Value) (w : World), (callFunc f args).run P w = .ok (.enter f args) w) (has : args.toList.map (Lf.ev Γ) ++ ys = zs) (h : ACall P f zs σ K) : SOp P N o Γ σ K := by
  subst has
  exact sop_callf ho hx hc h
end Go.Lf

set_option linter.unusedVariables false
set_option linter.unusedSimpArgs false
namespace Go.Lf
open Go
theorem VRl_bytes_of {σ : Sto} {ρ : Rz} {w : World} : ∀ (l : List UInt8), VRl σ ρ w (l.map byteA).flatten (l.map fun x => Value.int .u8 x.toNat)
 | [] => by simp [VRl]
 | x :: l => by
  simp only [List.map_cons, List.flatten_cons, byteA, List.cons_append, List.nil_append, VRl, VR]
  exact ⟨trivial, VRl_bytes_of l⟩
theorem sop_append_str {P : Program} {N : Nat} {o : Oper} {Γ : Env} {σ : Sto} {K : AV → Sto → Prop} {y : Operand} {t u e bt : Nat} {z : Value} {l : List UInt8}
    (ho : o.op = .call { callee := .builtin .append, args := #[.const (.slice none 0 0), y], argTypes := #[t, u] }) (ht : P.underlying t = some (.slice e)) (hu : P.underlying u = some .string) (he : EO P e 1 bt z)
    (hy : ev Γ y = .lit (.string ⟨l.toArray⟩)) (h0 : 0 < l.length) (hb : l.length * bt ≤ 140737488355328) (h63 : l.length ≤ maxLen)
    (hK : K (.row σ.length 0) (σ ++ [.row 0 e 1 (l.map byteA)])) : SOp P N o Γ σ K := by
  intro ρ w a next Q hf hr hn
  have hv := hf.ev y
  rw [hy] at hv
  simp only [VR] at hv
  obtain ⟨i, hi, hz, h1, h2⟩ := he.parts
  have hzs := he.2.1
  subst h2
  have hls : (⟨l.toArray⟩ : ByteArray).size = l.length := rfl
  have h63' : (l.length : Int) ≤ 9223372036854775807 := by simp only [maxLen] at h63; omega
  have hrun := run_append_nil_string (P := P) (w := w) t u o.type e i z ht hu hi hz ⟨l.toArray⟩ (by rw [hls]; exact h0) (by rw [hls]; exact h63') (by rw [hls]; omega)
  rw [hls] at hrun
  obtain ⟨cap, hcap⟩ : ∃ c, grownCap w l.length 0 e = c := ⟨_, rfl⟩
  have hge : l.length ≤ cap := by rw [← hcap]; exact grownCap_ge w _ _ _
  have hle : cap ≤ maxLen := by rw [← hcap]; exact grownCap_le_maxLen w _ _ _ h63
  rw [hcap] at hrun
  obtain ⟨sp, hsp⟩ : ∃ s, (Builtin.zeroCells z.cells (cap - l.length)).toList = s := ⟨_, rfl⟩
  have hcells : ((⟨l.toArray⟩ : ByteArray).data.map (fun b => Value.int .u8 b.toNat) ++ Builtin.zeroCells z.cells (cap - l.length)) = ((l.map fun x => Value.int .u8 x.toNat) ++ sp).toArray := by
    rw [← hsp]; exact Array.ext' (by simp)
  rw [hcells] at hrun
  have hlen : ((l.map fun x => Value.int .u8 x.toNat) ++ sp).length = cap * 1 := by
    rw [← hsp]
    simp only [List.length_append, List.length_map, Array.length_toList, size_zeroCells, hzs]
    omega
  have hk : ∀ c, c < w.heap.size → (w.drew.alloc (.cells ((l.map fun x => Value.int .u8 x.toNat) ++ sp).toArray e)).heap[c]? = w.heap[c]? := fun c hc => heap_alloc_old w.drew _ c hc
  obtain ⟨ρ', h2, h3, h4⟩ := new_row (w' := w.drew.alloc (.cells ((l.map fun x => Value.int .u8 x.toNat) ++ sp).toArray e)) (xs := l.map byteA) (sz := 1) (e := e) (vs := l.map fun x => Value.int .u8 x.toNat) (sp := sp) (b := w.heap.size) (cap := cap) hr rfl rfl rfl (by simp) hk (Nat.le_refl _) (heap_alloc_new w.drew _)
    (by intro q hq; simp only [List.mem_map] at hq; obtain ⟨_, _, rfl⟩ := hq; rfl) (by decide) (by rw [List.length_map]; exact hge) ⟨by omega, hle⟩ hlen
    (by intro u hu; simp only [List.mem_map] at hu; obtain ⟨_, _, rfl⟩ := hu; rfl) (VRl_bytes_of l)
  unfold Oper.wp
  have hex : (execOp a.eval o).run P w = .ok (.value (.slice (some ⟨w.heap.size, 0, none⟩) l.length cap)) (w.drew.alloc (.cells ((l.map fun x => Value.int .u8 x.toNat) ++ sp).toArray e)) := by
    have e1 : a.eval (.const (.slice none 0 0)) = .slice none 0 0 := rfl
    simp [execOp, ho, resolve, invoke, builtin, hv, e1, hrun]
  rw [hex, Oper.upon_value]
  exact hn _ _ _ _ _ hK h2 (by simpa using h3) h4
theorem n_append_str {P : Program} {N : Nat} {o : Oper} {Γ : Env} {σ σ2 : Sto} {K : AV → Sto → Prop} {y : Operand} {t u e bt L : Nat} {z : Value} {l : List UInt8}
    (ho : o.op = .call { callee := .builtin .append, args := #[.const (.slice none 0 0), y], argTypes := #[t, u] }) (ht : P.underlying t = some (.slice e)) (hu : P.underlying u = some .string) (he : EO P e 1 bt z)
    (hy : ev Γ y = .lit (.string ⟨l.toArray⟩)) (h0 : 0 < l.length) (hb : l.length * bt ≤ 140737488355328) (h63 : l.length ≤ maxLen)
    (hL : σ.length = L) (hσ : σ ++ [.row 0 e 1 (l.map byteA)] = σ2) (hK : K (.row L 0) σ2) : SOp P N o Γ σ K := by
  subst hL; subst hσ
  exact sop_append_str ho ht hu he hy h0 hb h63 hK
end Go.Lf

set_option linter.unusedVariables false
set_option linter.unusedSimpArgs false
namespace Go.Proofs.Ytdalcgfnlbofdaa
open Go Go.Lf Go.Proofs
attribute [local irreducible] Lf.rg Lf.ro Lf.PWp Lf.SOp Lf.ACall Lf.Scoped Lf.dg
set_option maxRecDepth 20000
set_option maxHeartbeats 4000000
def topN (n : Int) : Int := if n = 1 then 255 else if n = 2 then 65535 else if n = 3 then 16777215 else if n = 4 then 4294967295 else 0
theorem top_no (n : Int) (h : ¬ (1 ≤ n ∧ n ≤ 4)) : AEq Try.prog 60 [i64 n] [] (.tu [i64 0, bl false]) [] := by
 refine acall_body Try.func60 rfl Try.ntmps60 (by simp) (fun hsc => ?_); simp only [Lf.enter, Nat.reduceAdd]; clear hsc
 have hU := True.intro
 repeat' (first | (guard_target =~ PWp _ _ _ _ _ _ _; first | (refine pwp_seq_k (fun K hK => ?_)) | (refine pwp_rg_then ?_) | (refine pwp_ret ?_) | ((refine pwp_cond_d (fun hcd => ?_) (fun hcd => ?_)) <;> (try simp only [hcP] at hcd) <;> (try exact cdT))) | (guard_target =~ rg _ _ _ _ _ _ _; first | (guard_target =~ rg _ _ _ (⟨_, .move _, _, _, _, some _⟩ :: _) _ _ _; first | (refine rg_gq rfl (h := ?_))) | (guard_target =~ rg _ _ _ (⟨_, .binOp _ _ _ _ _, _, _, _, some _⟩ :: _) _ _ _; first | (refine rg_gq rfl (h := ?_))) | (guard_target =~ rg _ _ _ [] _ _ _; first | (refine rg_end ?_)) | (refine rg_a rfl (h := ?_)) | (refine rg_v rfl (h := ?_))) | (guard_target =~ (_ ∨ _) ∧ _; first | ((refine end_d [] (by rw [Try.results60, Lf.res2]) (ale_2 ?_ ?_) ?_) <;> (try (first | exact aleT | exact stq (by with_reducible rfl) | exact stq (by rfl) | exact stq (by simp (disch := omega) only [go_sem, seval, ↓reduceIte, hU]))))) | (refine hK _ _ ?_; clear hK K))
theorem top_yes (n : Int) (h1 : 1 ≤ n) (h2 : n ≤ 4) : AEq Try.prog 60 [i64 n] [] (.tu [i64 (topN n), bl true]) [] := by
 have h : n = 1 ∨ n = 2 ∨ n = 3 ∨ n = 4 := by omega
 clear h1 h2
 rcases h with rfl | rfl | rfl | rfl
 all_goals
  refine acall_body Try.func60 rfl Try.ntmps60 (by simp) (fun hsc => ?_); simp only [Lf.enter, Nat.reduceAdd]; clear hsc
  have hU := True.intro
  repeat' (first | (guard_target =~ PWp _ _ _ _ _ _ _; first | (refine pwp_seq_k (fun K hK => ?_)) | (refine pwp_rg_then ?_) | (refine pwp_ret ?_) | (refine pwp_skip ?_) | ((refine pwp_cond_d (fun hcd => ?_) (fun hcd => ?_)) <;> (try simp only [hcP] at hcd) <;> (try exact cdT))) | (guard_target =~ rg _ _ _ _ _ _ _; first | (guard_target =~ rg _ _ _ (⟨_, .move _, _, _, _, some _⟩ :: _) _ _ _; first | (refine rg_gtv rfl (h := ?_))) | (guard_target =~ rg _ _ _ (⟨_, .binOp _ _ _ _ _, _, _, _, some _⟩ :: _) _ _ _; first | (refine rg_gtv rfl (h := ?_))) | (guard_target =~ rg _ _ _ [] _ _ _; first | (refine rg_end ?_)) | (refine rg_a rfl (h := ?_)) | (refine rg_v rfl (h := ?_))) | (guard_target =~ (_ ∨ _) ∧ _; first | ((refine end_d [] (by rw [Try.results60, Lf.res2]) (ale_2 ?_ ?_) ?_) <;> (try (first | exact aleT | exact stq (by with_reducible rfl) | exact stq (by rfl) | exact stq (by simp (disch := omega) only [go_sem, seval, ↓reduceIte, hU]))))) | (refine hK _ _ ?_; clear hK K))
def numB (l : List UInt8) : Int := l.foldl (fun n x => n * 256 + (x.toNat : Int)) 0
theorem numB_snoc (l : List UInt8) (x : UInt8) : numB (l ++ [x]) = numB l * 256 + (x.toNat : Int) := by simp [numB]
theorem numB_bd (l : List UInt8) : 0 ≤ numB l ∧ numB l < 256 ^ l.length := by
 have key : ∀ (l : List UInt8) (n : Int), 0 ≤ n → n * 256 ^ l.length ≤ l.foldl (fun n x => n * 256 + (x.toNat : Int)) n ∧ l.foldl (fun n x => n * 256 + (x.toNat : Int)) n < (n + 1) * 256 ^ l.length := by
  intro l
  induction l with
  | nil => intro n hn; simp; omega
  | cons x l ih =>
   intro n hn
   have hx : x.toNat < 256 := x.toNat_lt
   have := ih (n * 256 + (x.toNat : Int)) (by omega)
   simp only [List.foldl_cons, List.length_cons]
   have hp : (256 : Int) ^ (l.length + 1) = 256 * 256 ^ l.length := by rw [Int.pow_succ, Int.mul_comm]
   have hpos : (0 : Int) < 256 ^ l.length := Int.pow_pos (by decide)
   rw [hp]
   constructor
   ·refine Int.le_trans ?_ this.1
    rw [← Int.mul_assoc]
    exact Int.mul_le_mul_of_nonneg_right (by omega) (by omega)
   ·refine Int.lt_of_lt_of_le this.2 ?_
    rw [← Int.mul_assoc]
    exact Int.mul_le_mul_of_nonneg_right (by omega) (by omega)
 have := key l 0 (by omega)
 simpa [numB] using this
theorem numB_lt {l : List UInt8} (h : l.length ≤ 3) : 0 ≤ numB l ∧ numB l < 16777216 := by
 have := numB_bd l
 rcases (show l.length = 0 ∨ l.length = 1 ∨ l.length = 2 ∨ l.length = 3 by omega) with h | h | h | h <;> rw [h] at this <;> omega
theorem numB_lt4 {l : List UInt8} (h : l.length ≤ 4) : 0 ≤ numB l ∧ numB l < 4294967296 := by
 have := numB_bd l
 rcases (show l.length = 0 ∨ l.length = 1 ∨ l.length = 2 ∨ l.length = 3 ∨ l.length = 4 by omega) with h | h | h | h | h <;> rw [h] at this <;> omega
theorem or_byte {a : Int} {x : UInt8} (h0 : 0 ≤ a ∧ a < 16777216) : ior .i64 (a * 256) (x.toNat : Int) = a * 256 + (x.toNat : Int) := by
 show IntKind.i64.wrap ((BitVec.ofInt 64 (a * 256) ||| BitVec.ofInt 64 (x.toNat : Int)).toNat : Int) = _
 obtain ⟨n, rfl⟩ := Int.eq_ofNat_of_zero_le h0.1
 have hx : x.toNat < 256 := x.toNat_lt
 have hn : n < 16777216 := by omega
 have e1 : BitVec.ofInt 64 ((n : Int) * 256) = BitVec.ofNat 64 (n * 256) := by
  rw [show ((n : Int) * 256) = ((n * 256 : Nat) : Int) from by simp]; rfl
 have e2 : BitVec.ofInt 64 (x.toNat : Int) = BitVec.ofNat 64 x.toNat := rfl
 rw [e1, e2, BitVec.toNat_or, BitVec.toNat_ofNat, BitVec.toNat_ofNat, Nat.mod_eq_of_lt (by omega), Nat.mod_eq_of_lt (by omega)]
 have e3 : n * 256 ||| x.toNat = n * 256 + x.toNat := by
  have := Nat.two_pow_add_eq_or_of_lt (i := 8) (b := x.toNat) (by omega) n
  rw [Nat.mul_comm n 256]
  exact this.symm
 rw [e3]
 have := w64 (n := ((n * 256 + x.toNat : Nat) : Int)) (by omega)
 rw [this]
 simp
theorem get_arg (b : AV) (n : Int) (h : ¬ (1 ≤ n ∧ n ≤ 4)) : AEq Try.prog 58 [b, i64 n] [] (.tu [i64 0, i64 1]) [] := by
 refine acall_body Try.func58 rfl Try.ntmps58 (by simp) (fun hsc => ?_); simp only [Lf.enter, Nat.reduceAdd]; clear hsc
 have hU := True.intro
 repeat' (first | (guard_target =~ PWp _ _ _ _ _ _ _; first | (refine pwp_seq_k (fun K hK => ?_)) | (refine pwp_rg_then ?_) | (refine pwp_ret ?_) | ((refine pwp_cond_d (fun hcd => ?_) (fun hcd => ?_)) <;> (try simp only [hcP] at hcd) <;> (try exact cdT))) | (guard_target =~ rg _ _ _ _ _ _ _; first | (guard_target =~ rg _ _ _ [] _ _ _; first | (refine rg_end ?_)) | (refine rg_a rfl (h := ?_)) | (refine rg_x rfl (hy := rfl) (h := ?_)) | (refine rg_v rfl (h := ?_)) | (refine rg_s rfl ?_)) | (guard_target =~ SOp _ _ _ _ _ _; first | (guard_target =~ SOp _ _ ⟨_, .call ⟨.value (.func 60), _, _⟩, _, _, _, none⟩ _ _ _; first | (refine n_call (f := 60) rfl Try.call60 (h := AEq.pure' (hc := top_no _ (by assumption)) (hq := ?_))))) | (guard_target =~ (_ ∨ _) ∧ _; first | ((refine end_d [] (by rw [Try.results58, Lf.res2]) (ale_2 ?_ ?_) ?_) <;> (try (first | exact aleT | exact stq (by with_reducible rfl) | exact stq (by rfl) | exact stq (by simp (disch := omega) only [go_sem, seval, ↓reduceIte, hU]))))) | (refine hK _ _ ?_; clear hK K))
theorem get_short (f q : Bool) (b : List UInt8) (n : Int) (h1 : 1 ≤ n) (h2 : n ≤ 4) (hn : b.length < n) : AEq Try.prog 58 [.sl f q (b.map byteA), i64 n] [] (.tu [i64 0, i64 3]) [] := by
 refine acall_body Try.func58 rfl Try.ntmps58 (by simp) (fun hsc => ?_); simp only [Lf.enter, Nat.reduceAdd]; clear hsc
 have hU := True.intro
 repeat' (first | (guard_target =~ PWp _ _ _ _ _ _ _; first | (refine pwp_seq_k (fun K hK => ?_)) | (refine pwp_rg_then ?_) | (refine pwp_ret ?_) | (refine pwp_skip ?_) | ((refine pwp_cond_d (fun hcd => ?_) (fun hcd => ?_)) <;> (try simp only [hcP] at hcd) <;> (try exact cdT))) | (guard_target =~ rg _ _ _ _ _ _ _; first | (guard_target =~ rg _ _ _ [] _ _ _; first | (refine rg_end ?_)) | (refine rg_a rfl (h := ?_)) | (refine rg_x rfl (hy := rfl) (h := ?_)) | (refine rg_v rfl (h := ?_)) | (refine rg_s rfl ?_)) | (guard_target =~ SOp _ _ _ _ _ _; first | (guard_target =~ SOp _ _ ⟨_, .call ⟨.value (.func 60), _, _⟩, _, _, _, none⟩ _ _ _; first | (refine n_call (f := 60) rfl Try.call60 (h := AEq.pure' (hc := top_yes _ (by assumption) (by assumption)) (hq := ?_))))) | (guard_target =~ (_ ∨ _) ∧ _; first | ((refine end_d [] (by rw [Try.results58, Lf.res2]) (ale_2 ?_ ?_) ?_) <;> (try (first | exact aleT | exact stq (by with_reducible rfl) | exact stq (by rfl) | exact stq (by simp (disch := omega) only [go_sem, seval, ↓reduceIte, hU]))))) | (refine hK _ _ ?_; clear hK K))
theorem get_yes (f q : Bool) (b : List UInt8) (n : Int) (h1 : 1 ≤ n) (h2 : n ≤ 4) (hn : n ≤ b.length) (hb : b.length ≤ 4000000000000000000) : AEq Try.prog 58 [.sl f q (b.map byteA), i64 n] [] (.tu [i64 (numB (b.take n.toNat)), i64 0]) [] := by
 refine acall_body Try.func58 rfl Try.ntmps58 (by simp) (fun hsc => ?_); simp only [Lf.enter, Nat.reduceAdd]; clear hsc
 have hU := @or_byte
 repeat' (first | (guard_target =~ PWp _ _ _ _ _ _ _; first | (refine pwp_seq_k (fun K hK => ?_)) | (refine pwp_block ?_) | (refine pwp_rg_then ?_) | (refine pwp_skip ?_) | ((refine pwp_cond_d (fun hcd => ?_) (fun hcd => ?_)) <;> (try simp only [hcP] at hcd) <;> (try exact cdT))) | (guard_target =~ rg _ _ _ _ _ _ _; first | (guard_target =~ rg _ _ _ [] _ _ _; first | (refine rg_end ?_)) | (refine rg_a rfl (h := ?_)) | (refine rg_x rfl (hy := rfl) (h := ?_)) | (refine rg_v rfl (h := ?_)) | (refine rg_s rfl ?_)) | (guard_target =~ SOp _ _ _ _ _ _; first | (guard_target =~ SOp _ _ ⟨_, .slice _ _ _ _ _, _, _, _, none⟩ _ _ _; first | (refine n_slice rfl (hg := (fun _ => (by simp only [go_sem, seval, ↓reduceIte, hU] <;> rfl))) (hK := ?_))) | (guard_target =~ SOp _ _ ⟨_, .call ⟨.value (.func 60), _, _⟩, _, _, _, none⟩ _ _ _; first | (refine n_call (f := 60) rfl Try.call60 (h := AEq.pure' (hc := top_yes _ (by assumption) (by assumption)) (hq := ?_))))) | (refine hK _ _ ?_; clear hK K))
 obtain ⟨c, hc⟩ : ∃ c, c = b.take n.toNat := ⟨_, rfl⟩
 have hcl : (c.length : Int) = n := by rw [hc, List.length_take]; omega
 rw [← hc]
 refine pwp_loop_e [8, 10, 26, 27, 28, 29, 30, 31, 32, 33, 34, 35] (fun i : Nat => [(8, i64 (numB (c.take i))), (26, i64 i)]) (fun _ => []) (fun i => i ≤ c.length) (fun i => c.length - i) 0 (Nat.zero_le _) ?_ rfl ?_
 ·(refine ⟨⟨_, sT, ?_⟩, ⟨_, sT, ?_⟩, trivial⟩ <;> (try (first | exact aleT)))
 ·intro i hi
  simp only [mask, List.map_cons, List.map_nil, List.cons_append, List.nil_append]
  have hb := numB_lt (l := c.take (min i 3)) (by simp; omega)
  by_cases hlt : i < c.length
  ·obtain ⟨x, hx⟩ : ∃ x, c[i]? = some x := ⟨c[i], List.getElem?_eq_getElem hlt⟩
   have hm : min i 3 = i := by omega
   rw [hm] at hb
   have hxb : x.toNat < 256 := x.toNat_lt
   have hs := numB_snoc (c.take i) x
   rw [← take_snoc hx] at hs
   repeat' (first | (guard_target =~ PWp _ _ _ _ _ _ _; first | (refine pwp_seq_k (fun K hK => ?_)) | (refine pwp_block ?_) | (refine pwp_rg_then ?_) | (refine pwp_rg ?_) | (refine pwp_skip ?_) | ((refine pwp_cond_d (fun hcd => ?_) (fun hcd => ?_)) <;> (try simp only [hcP] at hcd) <;> (try exact cdT))) | (guard_target =~ rg _ _ _ _ _ _ _; first | (guard_target =~ rg _ _ _ [] _ _ _; first | (refine rg_end ?_)) | (refine rg_a rfl (h := ?_)) | (refine rg_v rfl (h := ?_)) | (refine rg_s rfl ?_)) | (guard_target =~ SOp _ _ _ _ _ _; first | (guard_target =~ SOp _ _ ⟨_, .indexAddr _ _ _, _, _, _, none⟩ _ _ _; first | (refine n_index rfl (hK := ?_)))) | (refine hK _ _ ?_; clear hK K))
   refine ⟨i + 1, by omega, by omega, ?_, (by repeat' (first | exact agr_refl | refine agr_cons (by rfl) ?_)), rfl⟩
   (refine ⟨⟨_, sT, ?_⟩, ⟨_, sT, ?_⟩, trivial⟩ <;> (try (first | exact aleT)))
   exact ale_eq (by rw [hs])
  ·repeat' (first | (guard_target =~ PWp _ _ _ _ _ _ _; first | (refine pwp_seq_k (fun K hK => ?_)) | (refine pwp_rg_then ?_) | (refine pwp_ret ?_) | (refine pwp_exit ?_) | ((refine pwp_cond_d (fun hcd => ?_) (fun hcd => ?_)) <;> (try simp only [hcP] at hcd) <;> (try exact cdT))) | (guard_target =~ rg _ _ _ _ _ _ _; first | (guard_target =~ rg _ _ _ [] _ _ _; first | (refine rg_end ?_)) | (refine rg_a rfl (h := ?_)) | (refine rg_v rfl (h := ?_))) | (guard_target =~ (_ ∨ _) ∧ _; first | ((refine end_d [] (by rw [Try.results58, Lf.res2]) (ale_2 ?_ ?_) ?_) <;> (try (first | exact aleT | exact stq (by with_reducible rfl) | exact stq (by rfl) | exact stq (by simp (disch := omega) only [go_sem, seval, ↓reduceIte, hU]))))) | (refine hK _ _ ?_; clear hK K) | (apply_assumption (exfalso := false) (symm := false)))
   rw [List.take_of_length_le (by omega), hc]
   exact ale_eq rfl
def okS (n : Int) : Bool := decide (1 ≤ n) && decide (n ≤ 4)
def getN (b : List UInt8) (n : Int) : Int := if okS n = true ∧ n ≤ b.length then numB (b.take n.toNat) else 0
def getE (b : List UInt8) (n : Int) : Int := if okS n = false then 1 else if (b.length : Int) < n then 3 else 0
theorem okS_yes {n : Int} (h : 1 ≤ n ∧ n ≤ 4) : okS n = true := by simp [okS, h.1, h.2]
theorem okS_no {n : Int} (h : ¬ (1 ≤ n ∧ n ≤ 4)) : okS n = false := by
 simp only [okS, Bool.and_eq_false_iff, decide_eq_false_iff_not]; omega
theorem get_is (f q : Bool) (b : List UInt8) (n : Int) (hb : b.length ≤ 4000000000000000000) : AEq Try.prog 58 [.sl f q (b.map byteA), i64 n] [] (.tu [i64 (getN b n), i64 (getE b n)]) [] := by
 by_cases h : 1 ≤ n ∧ n ≤ 4
 ·by_cases h2 : n ≤ b.length
  ·have := get_yes f q b n h.1 h.2 h2 hb
   rw [show getN b n = numB (b.take n.toNat) from if_pos ⟨okS_yes h, h2⟩, show getE b n = 0 by simp only [getE, okS_yes h]; rw [if_neg (by simp), if_neg (by omega)]]
   exact this
  ·have := get_short f q b n h.1 h.2 (by omega)
   rw [show getN b n = 0 from if_neg (fun x => h2 x.2), show getE b n = 3 by simp only [getE, okS_yes h]; rw [if_neg (by simp), if_pos (by omega)]]
   exact this
 ·have := get_arg (.sl f q (b.map byteA)) n h
  rw [show getN b n = 0 from if_neg (fun x => by rw [okS_no h] at x; cases x.1), show getE b n = 1 by simp [getE, okS_no h]]
  exact this
end Go.Proofs.Ytdalcgfnlbofdaa

set_option linter.unusedVariables false
set_option linter.unusedSimpArgs false
namespace Go.Proofs.Ytdalcgfnlbofdaa
open Go Go.Lf Go.Proofs
attribute [local irreducible] Lf.rg Lf.ro Lf.PWp Lf.SOp Lf.ACall Lf.Scoped Lf.dg
set_option maxRecDepth 20000
set_option maxHeartbeats 4000000
def powB : Nat → Int
 | 0 => 1
 | k + 1 => 256 * powB k
theorem powB_bd (k : Nat) (h : k ≤ 4) : 1 ≤ powB k ∧ powB k ≤ 4294967296 := by
 rcases (show k = 0 ∨ k = 1 ∨ k = 2 ∨ k = 3 ∨ k = 4 by omega) with h | h | h | h | h <;> subst h <;> decide
theorem power_is (k : Nat) (n : Int) (h : n = k) (hk : k ≤ 4) : AEq Try.prog 51 [i64 n] [] (i64 (powB k)) [] := by
 refine acall_body Try.func51 rfl Try.ntmps51 (by simp) (fun hsc => ?_); simp only [Lf.enter, Nat.reduceAdd]; clear hsc
 have hU := True.intro
 repeat' (first | (guard_target =~ PWp _ _ _ _ _ _ _; first | (refine pwp_seq_k (fun K hK => ?_)) | (refine pwp_block ?_) | (refine pwp_rg_then ?_)) | (guard_target =~ rg _ _ _ _ _ _ _; first | (guard_target =~ rg _ _ _ [] _ _ _; first | (refine rg_end ?_)) | (refine rg_a rfl (h := ?_))) | (refine hK _ _ ?_; clear hK K))
 refine pwp_loop_e [3, 4, 5, 6, 7, 8, 9, 10, 11] (fun i : Nat => [(3, i64 (powB i)), (4, i64 i)]) (fun _ => []) (fun i => i ≤ k) (fun i => k - i) 0 (Nat.zero_le _) ?_ rfl ?_
 ·(refine ⟨⟨_, sT, ?_⟩, ⟨_, sT, ?_⟩, trivial⟩ <;> (try (first | exact aleT)))
 ·intro i hi
  simp only [mask, List.map_cons, List.map_nil, List.cons_append, List.nil_append]
  have hb := powB_bd i (by omega)
  by_cases hlt : i < k
  ·have hb' := powB_bd (i + 1) (by omega)
   have hs : powB (i + 1) = 256 * powB i := rfl
   repeat' (first | (guard_target =~ PWp _ _ _ _ _ _ _; first | (refine pwp_seq_k (fun K hK => ?_)) | (refine pwp_block ?_) | (refine pwp_rg_then ?_) | (refine pwp_rg ?_) | (refine pwp_skip ?_) | ((refine pwp_cond_d (fun hcd => ?_) (fun hcd => ?_)) <;> (try simp only [hcP] at hcd) <;> (try exact cdT))) | (guard_target =~ rg _ _ _ _ _ _ _; first | (guard_target =~ rg _ _ _ [] _ _ _; first | (refine rg_end ?_)) | (refine rg_a rfl (h := ?_)) | (refine rg_v rfl (h := ?_))) | (refine hK _ _ ?_; clear hK K))
   refine ⟨i + 1, by omega, by omega, ?_, (by repeat' (first | exact agr_refl | refine agr_cons (by rfl) ?_)), rfl⟩
   (refine ⟨⟨_, sT, ?_⟩, ⟨_, sT, ?_⟩, trivial⟩ <;> (try (first | exact aleT)))
  ·have he : i = k := by omega
   subst he
   repeat' (first | (guard_target =~ PWp _ _ _ _ _ _ _; first | (refine pwp_seq_k (fun K hK => ?_)) | (refine pwp_rg_then ?_) | (refine pwp_ret ?_) | (refine pwp_exit ?_) | ((refine pwp_cond_d (fun hcd => ?_) (fun hcd => ?_)) <;> (try simp only [hcP] at hcd) <;> (try exact cdT))) | (guard_target =~ rg _ _ _ _ _ _ _; first | (guard_target =~ rg _ _ _ [] _ _ _; first | (refine rg_end ?_)) | (refine rg_a rfl (h := ?_)) | (refine rg_v rfl (h := ?_))) | (guard_target =~ (_ ∨ _) ∧ _; first | ((refine end_d [] (by rw [Try.results51, Lf.res1]) (ale_1 ?_) ?_) <;> (try (first | exact aleT | exact stq (by with_reducible rfl) | exact stq (by rfl) | exact stq (by simp (disch := omega) only [go_sem, seval, ↓reduceIte, hU]))))) | (refine hK _ _ ?_; clear hK K) | (apply_assumption (exfalso := false) (symm := false)))
theorem power_int (n : Int) (h0 : 0 ≤ n) (h4 : n ≤ 4) : AEq Try.prog 51 [i64 n] [] (i64 (powB n.toNat)) [] := power_is n.toNat n (by omega) (by omega)
theorem numB_pow (l : List UInt8) (k : Nat) : numB (l ++ List.replicate k 0) = numB l * powB k := by
 induction k with
 | zero => simp [powB]
 | succ k ih =>
  rw [List.replicate_succ', ← List.append_assoc, numB_snoc, ih]
  show numB l * powB k * 256 + 0 = numB l * (256 * powB k)
  rw [Int.mul_comm 256, ← Int.mul_assoc, Int.add_zero]
theorem numB_pow_bd (l : List UInt8) (k : Nat) (h : l.length + k ≤ 4) : 0 ≤ numB l * powB k ∧ numB l * powB k < 4294967296 := by
 rw [← numB_pow]; exact numB_lt4 (by simp; omega)
theorem byte_pow_bd (x : UInt8) (k : Nat) (h : k ≤ 3) : 0 ≤ (x.toNat : Int) * powB k ∧ (x.toNat : Int) * powB k < 4294967296 := by
 have := numB_pow_bd [x] k (by simp; omega)
 simpa [numB] using this
theorem rget_yes (f q : Bool) (b : List UInt8) (n : Int) (h1 : 1 ≤ n) (h2 : n ≤ 4) (hn : n ≤ b.length) (hb : b.length ≤ 4000000000000000000) : AEq Try.prog 41 [.sl f q (b.map byteA), i64 n] [] (.tu [i64 (numB (b.take n.toNat)), i64 0]) [] := by
 refine acall_body Try.func41 rfl Try.ntmps41 (by simp) (fun hsc => ?_); simp only [Lf.enter, Nat.reduceAdd]; clear hsc
 have hU := True.intro
 repeat' (first | (guard_target =~ PWp _ _ _ _ _ _ _; first | (refine pwp_seq_k (fun K hK => ?_)) | (refine pwp_block ?_) | (refine pwp_rg_then ?_) | (refine pwp_skip ?_) | ((refine pwp_cond_d (fun hcd => ?_) (fun hcd => ?_)) <;> (try simp only [hcP] at hcd) <;> (try exact cdT))) | (guard_target =~ rg _ _ _ _ _ _ _; first | (guard_target =~ rg _ _ _ (⟨_, .move _, _, _, _, some _⟩ :: _) _ _ _; first | (refine rg_gq rfl (h := ?_))) | (guard_target =~ rg _ _ _ (⟨_, .binOp _ _ _ _ _, _, _, _, some _⟩ :: _) _ _ _; first | (refine rg_gq rfl (h := ?_))) | (guard_target =~ rg _ _ _ [] _ _ _; first | (refine rg_end ?_)) | (refine rg_a rfl (h := ?_)) | (refine rg_v rfl (h := ?_))) | (refine hK _ _ ?_; clear hK K))
 refine pwp_loop_e [6, 7, 18, 19, 20, 21, 22, 23, 24, 25, 26, 27, 28, 29, 30, 31, 32, 33, 34, 35] (fun i : Nat => [(6, i64 (numB (b.take i) * powB (n.toNat - i))), (7, i64 i)]) (fun _ => []) (fun i => i ≤ n.toNat) (fun i => n.toNat - i) 0 (Nat.zero_le _) ?_ rfl ?_
 ·(refine ⟨⟨_, sT, ?_⟩, ⟨_, sT, ?_⟩, trivial⟩ <;> (try (first | exact aleT)))
  exact ale_eq (by simp [numB])
 ·intro i hi
  simp only [mask, List.map_cons, List.map_nil, List.cons_append, List.nil_append]
  have hbd := numB_pow_bd (b.take i) (n.toNat - i) (by simp; omega)
  by_cases hlt : i < n.toNat
  ·obtain ⟨x, hx⟩ : ∃ x, b[i]? = some x := ⟨b[i], List.getElem?_eq_getElem (by omega)⟩
   have hxb := byte_pow_bd x (n.toNat - 1 - i) (by omega)
   have hxc : x.toNat < 256 := x.toNat_lt
   have hp := powB_bd (n.toNat - 1 - i) (by omega)
   have hs : numB (b.take (i + 1)) * powB (n.toNat - (i + 1)) = numB (b.take i) * powB (n.toNat - i) + (x.toNat : Int) * powB (n.toNat - 1 - i) := by
    rw [take_snoc hx, numB_snoc, show n.toNat - i = (n.toNat - 1 - i) + 1 by omega, show n.toNat - (i + 1) = n.toNat - 1 - i by omega]
    show _ = numB (b.take i) * (256 * powB (n.toNat - 1 - i)) + _
    rw [Int.add_mul, Int.mul_assoc]
   have hbd' := numB_pow_bd (b.take (i + 1)) (n.toNat - (i + 1)) (by simp; omega)
   have hpn : (n - 1 - (i : Int)).toNat = n.toNat - 1 - i := by omega
   have hU := @hpn
   repeat' (first | (guard_target =~ PWp _ _ _ _ _ _ _; first | (refine pwp_seq_k (fun K hK => ?_)) | (refine pwp_block ?_) | (refine pwp_rg_then ?_) | (refine pwp_draw_end mixed (by kernel_rfl) ?_) | (refine pwp_skip ?_) | ((refine pwp_cond_d (fun hcd => ?_) (fun hcd => ?_)) <;> (try simp only [hcP] at hcd) <;> (try exact cdT))) | (guard_target =~ rg _ _ _ _ _ _ _; first | (guard_target =~ rg _ _ _ [] _ _ _; first | (refine rg_end ?_)) | (refine rg_a rfl (h := ?_)) | (refine rg_v rfl (h := ?_))) | (guard_target =~ dg _ _ _ _ _ _ _; first | (guard_target =~ dg _ _ _ (⟨_, .move _, _, _, _, none⟩ :: _) _ _ _; first | (refine dg_v rfl (hk := ?_))) | (guard_target =~ dg _ _ _ (⟨_, .assign _, _, _, _, none⟩ :: _) _ _ _; first | (refine dg_a rfl (hk := ?_))) | (guard_target =~ dg _ _ _ (⟨_, .binOp _ _ _ _ _, _, _, _, none⟩ :: _) _ _ _; first | (refine dg_v rfl (hk := ?_))) | (guard_target =~ dg _ _ _ (⟨_, .indexAddr _ _ _, _, _, _, none⟩ :: _) _ _ _; first | (refine dg_c (x := _) (h := ro_s (h := n_index rfl (hK := ro_end ⟨rfl, rfl⟩))) (hk := ?_))) | (guard_target =~ dg _ _ _ (⟨_, .load _ _, _, _, _, none⟩ :: _) _ _ _; first | (refine dg_v rfl (hk := ?_))) | (guard_target =~ dg _ _ _ (⟨_, .pick _ _ _, _, _, _, none⟩ :: _) _ _ _; first | (refine dg_v rfl (hk := ?_))) | (guard_target =~ dg _ _ _ (⟨_, .call ⟨.builtin .len, _, _⟩, _, _, _, none⟩ :: _) _ _ _; first | (refine dg_v rfl (hk := ?_))) | (guard_target =~ dg _ _ _ (⟨_, .call ⟨.value (.func 51), _, _⟩, _, _, _, none⟩ :: _) _ _ _; first | (refine dg_c (x := _) (h := ro_s (h := n_call (f := 51) rfl Try.call51 (h := AEq.pure' (hc := power_int _ (by omega) (by omega)) (hq := ro_end ⟨rfl, rfl⟩)))) (hk := ?_))) | (guard_target =~ dg _ _ _ (⟨_, .convert _ _ _, _, _, _, none⟩ :: _) _ _ _; first | (refine dg_v rfl (hk := ?_))) | (guard_target =~ dg _ _ _ [] _ _ _; first | (refine dg_nil ?_))) | (refine hK _ _ ?_; clear hK K))
   refine ⟨i + 1, by omega, by omega, ?_, (by repeat' (first | exact agr_refl | refine agr_cons (by rfl) ?_)), rfl⟩
   have hU := True.intro
   (refine ⟨⟨_, sT, ?_⟩, ⟨_, sT, ?_⟩, trivial⟩ <;> (try (first | exact aleT)))
   exact ale_eq (by rw [hs])
  ·have he : i = n.toNat := by omega
   have h0 : numB (b.take i) * powB (n.toNat - i) = numB (b.take n.toNat) := by rw [he]; simp [powB]
   repeat' (first | (guard_target =~ PWp _ _ _ _ _ _ _; first | (refine pwp_seq_k (fun K hK => ?_)) | (refine pwp_rg_then ?_) | (refine pwp_ret ?_) | (refine pwp_exit ?_) | ((refine pwp_cond_d (fun hcd => ?_) (fun hcd => ?_)) <;> (try simp only [hcP] at hcd) <;> (try exact cdT))) | (guard_target =~ rg _ _ _ _ _ _ _; first | (guard_target =~ rg _ _ _ [] _ _ _; first | (refine rg_end ?_)) | (refine rg_a rfl (h := ?_)) | (refine rg_v rfl (h := ?_))) | (guard_target =~ (_ ∨ _) ∧ _; first | ((refine end_d [] (by rw [Try.results41, Lf.res2]) (ale_2 ?_ ?_) ?_) <;> (try (first | exact aleT | exact stq (by with_reducible rfl) | exact stq (by rfl) | exact stq (by simp (disch := omega) only [go_sem, seval, ↓reduceIte, hU]))))) | (refine hK _ _ ?_; clear hK K) | (apply_assumption (exfalso := false) (symm := false)))
   exact ale_eq (by rw [h0])
theorem rget_arg (b : AV) (n : Int) (h : ¬ (1 ≤ n ∧ n ≤ 4)) : AEq Try.prog 41 [b, i64 n] [] (.tu [i64 0, i64 1]) [] := by
 refine acall_body Try.func41 rfl Try.ntmps41 (by simp) (fun hsc => ?_); simp only [Lf.enter, Nat.reduceAdd]; clear hsc
 have hU := True.intro
 repeat' (first | (guard_target =~ PWp _ _ _ _ _ _ _; first | (refine pwp_seq_k (fun K hK => ?_)) | (refine pwp_rg_then ?_) | (refine pwp_ret ?_) | ((refine pwp_cond_d (fun hcd => ?_) (fun hcd => ?_)) <;> (try simp only [hcP] at hcd) <;> (try exact cdT))) | (guard_target =~ rg _ _ _ _ _ _ _; first | (guard_target =~ rg _ _ _ (⟨_, .move _, _, _, _, some _⟩ :: _) _ _ _; first | (refine rg_gq rfl (h := ?_))) | (guard_target =~ rg _ _ _ (⟨_, .binOp _ _ _ _ _, _, _, _, some _⟩ :: _) _ _ _; first | (refine rg_gq rfl (h := ?_))) | (guard_target =~ rg _ _ _ [] _ _ _; first | (refine rg_end ?_)) | (refine rg_a rfl (h := ?_)) | (refine rg_v rfl (h := ?_))) | (guard_target =~ (_ ∨ _) ∧ _; first | ((refine end_d [] (by rw [Try.results41, Lf.res2]) (ale_2 ?_ ?_) ?_) <;> (try (first | exact aleT | exact stq (by with_reducible rfl) | exact stq (by rfl) | exact stq (by simp (disch := omega) only [go_sem, seval, ↓reduceIte, hU]))))) | (refine hK _ _ ?_; clear hK K))
theorem rget_short (f q : Bool) (b : List UInt8) (n : Int) (h1 : 1 ≤ n) (h2 : n ≤ 4) (hn : b.length < n) : AEq Try.prog 41 [.sl f q (b.map byteA), i64 n] [] (.tu [i64 0, i64 3]) [] := by
 refine acall_body Try.func41 rfl Try.ntmps41 (by simp) (fun hsc => ?_); simp only [Lf.enter, Nat.reduceAdd]; clear hsc
 have hU := True.intro
 repeat' (first | (guard_target =~ PWp _ _ _ _ _ _ _; first | (refine pwp_seq_k (fun K hK => ?_)) | (refine pwp_rg_then ?_) | (refine pwp_ret ?_) | (refine pwp_skip ?_) | ((refine pwp_cond_d (fun hcd => ?_) (fun hcd => ?_)) <;> (try simp only [hcP] at hcd) <;> (try exact cdT))) | (guard_target =~ rg _ _ _ _ _ _ _; first | (guard_target =~ rg _ _ _ (⟨_, .move _, _, _, _, some _⟩ :: _) _ _ _; first | (refine rg_gq rfl (h := ?_))) | (guard_target =~ rg _ _ _ (⟨_, .binOp _ _ _ _ _, _, _, _, some _⟩ :: _) _ _ _; first | (refine rg_gq rfl (h := ?_))) | (guard_target =~ rg _ _ _ [] _ _ _; first | (refine rg_end ?_)) | (refine rg_a rfl (h := ?_)) | (refine rg_v rfl (h := ?_))) | (guard_target =~ (_ ∨ _) ∧ _; first | ((refine end_d [] (by rw [Try.results41, Lf.res2]) (ale_2 ?_ ?_) ?_) <;> (try (first | exact aleT | exact stq (by with_reducible rfl) | exact stq (by rfl) | exact stq (by simp (disch := omega) only [go_sem, seval, ↓reduceIte, hU]))))) | (refine hK _ _ ?_; clear hK K))
theorem rget_is (f q : Bool) (b : List UInt8) (n : Int) (hb : b.length ≤ 4000000000000000000) : AEq Try.prog 41 [.sl f q (b.map byteA), i64 n] [] (.tu [i64 (getN b n), i64 (getE b n)]) [] := by
 by_cases h : 1 ≤ n ∧ n ≤ 4
 ·by_cases h2 : n ≤ b.length
  ·have := rget_yes f q b n h.1 h.2 h2 hb
   rw [show getN b n = numB (b.take n.toNat) from if_pos ⟨okS_yes h, h2⟩, show getE b n = 0 by simp only [getE, okS_yes h]; rw [if_neg (by simp), if_neg (by omega)]]
   exact this
  ·have := rget_short f q b n h.1 h.2 (by omega)
   rw [show getN b n = 0 from if_neg (fun x => h2 x.2), show getE b n = 3 by simp only [getE, okS_yes h]; rw [if_neg (by simp), if_pos (by omega)]]
   exact this
 ·have := rget_arg (.sl f q (b.map byteA)) n h
  rw [show getN b n = 0 from if_neg (fun x => by rw [okS_no h] at x; cases x.1), show getE b n = 1 by simp [getE, okS_no h]]
  exact this
end Go.Proofs.Ytdalcgfnlbofdaa

set_option linter.unusedVariables false
set_option linter.unusedSimpArgs false
namespace Go.Proofs.Ytdalcgfnlbofdaa
open Go Go.Lf Go.Proofs
attribute [local irreducible] Lf.rg Lf.ro Lf.PWp Lf.SOp Lf.ACall Lf.Scoped Lf.dg
set_option maxRecDepth 20000
set_option maxHeartbeats 4000000
def byteAt (n : Int) (k : Nat) : UInt8 := UInt8.ofNat (n / powB k % 256).toNat
def beB (n : Int) : Nat → List UInt8
 | 0 => []
 | k + 1 => byteAt n k :: beB n k
theorem byteAt_nat (n : Int) (k : Nat) : ((byteAt n k).toNat : Int) = n / powB k % 256 := by
 have h1 := Int.emod_nonneg (n / powB k) (b := 256) (by decide)
 have h2 := Int.emod_lt_of_pos (n / powB k) (b := 256) (by decide)
 unfold byteAt
 rw [UInt8.toNat_ofNat']
 omega
theorem topN_lt (size : Int) (h1 : 1 ≤ size) (h2 : size ≤ 4) : topN size = powB size.toNat - 1 := by
 rcases (show size = 1 ∨ size = 2 ∨ size = 3 ∨ size = 4 by omega) with h | h | h | h <;> subst h <;> rfl
def putE (n size : Int) : Int := if okS size = false then 1 else if n < 0 ∨ topN size < n then 5 else 0
def putL (b : List UInt8) (n size : Int) : List UInt8 := if putE n size = 0 then b ++ beB n size.toNat else []
end Go.Proofs.Ytdalcgfnlbofdaa

set_option linter.unusedVariables false
set_option linter.unusedSimpArgs false
namespace Go.Proofs.Ytdalcgfnlbofdaa
open Go Go.Lf Go.Proofs
attribute [local irreducible] Lf.rg Lf.ro Lf.PWp Lf.SOp Lf.ACall Lf.Scoped Lf.dg
set_option maxRecDepth 20000
set_option maxHeartbeats 4000000
end Go.Proofs.Ytdalcgfnlbofdaa

