import Derived.Test.YtideijigonjohaaC20
import Derived.Test.YtideijigonjohaaC15
import Derived.Test.YtideijigonjohaaLc
set_option linter.unusedVariables false
set_option linter.unusedSimpArgs false
namespace Go.Proofs.Ytideijigonjohaa
open Go Go.Lf Go.Proofs
attribute [local irreducible] Lf.rg Lf.ro Lf.PWp Lf.SOp Lf.ACall Lf.Scoped Lf.dg Lf.dw
set_option maxRecDepth 20000
set_option maxHeartbeats 4000000
def flat : List Ch → List (Int × UInt8)
  | [] => []
  | c :: l => c.b.map (fun x => (c.w, x)) ++ flat l
theorem flat_app : ∀ a b : List Ch, flat (a ++ b) = flat a ++ flat b
  | [], b => rfl
  | c :: a, b => by rw [List.cons_append, flat, flat, flat_app a b, List.append_assoc]
def sideF (k : Int) (l : List (Int × UInt8)) : List UInt8 := (l.filter fun p => decide (p.1 = k)).map Prod.snd
theorem sideF_app (k : Int) (a b : List (Int × UInt8)) : sideF k (a ++ b) = sideF k a ++ sideF k b := by unfold sideF; rw [List.filter_append, List.map_append]
theorem sideF_one (k w : Int) : ∀ b : List UInt8, sideF k (b.map fun x => (w, x)) = if w = k then b else []
  | [] => by simp [sideF]
  | x :: b => by
    have ih := sideF_one k w b
    rw [List.map_cons, show ((w, x) :: b.map fun x => (w, x)) = [(w, x)] ++ b.map (fun x => (w, x)) from rfl, sideF_app, ih]
    by_cases h : w = k
    · rw [if_pos h, if_pos h]; simp [sideF, h]
    · rw [if_neg h, if_neg h]; simp [sideF, h]
theorem sideB_flat (k : Int) : ∀ l : List Ch, sideB k l = sideF k (flat l)
  | [] => by simp [sideB, flat, sideF]
  | c :: l => by rw [sideB, flat, sideF_app, sideF_one, sideB_flat k l]
theorem sumC_flat : ∀ l : List Ch, sumC l = (flat l).length
  | [] => rfl
  | c :: l => by rw [sumC, flat, List.length_append, List.length_map, sumC_flat l]
def newW (w : Int) (pre : List (Int × UInt8)) (b : List UInt8) : List Fr := if w = 0 then newF 0 (sideF 0 pre) b else if w = 1 then newF 1 (sideF 1 pre) b else []
def genF : List (Int × UInt8) → List (Int × UInt8) → List Fr
  | _, [] => []
  | pre, p :: r => newW p.1 pre [p.2] ++ genF (pre ++ [p]) r
theorem frames_app (k : Int) (A b : List UInt8) : (cutP k (decide (k = 0)) (A ++ b)).1 = (cutP k (decide (k = 0)) A).1 ++ newF k A b := by
  unfold newF
  rw [cutP_app]
  dsimp only
  rw [List.drop_left]
theorem newF_cons (k : Int) (A : List UInt8) (x : UInt8) (b : List UInt8) : newF k A (x :: b) = newF k A [x] ++ newF k (A ++ [x]) b := by
  have h1 := frames_app k A (x :: b)
  have h2 := frames_app k A [x]
  have h3 := frames_app k (A ++ [x]) b
  rw [List.append_assoc] at h3
  rw [show x :: b = [x] ++ b from rfl] at h1 ⊢
  rw [h3, h2, List.append_assoc] at h1
  exact (List.append_cancel_left h1).symm
theorem newF_none (k : Int) (A : List UInt8) : newF k A [] = [] := by
  unfold newF; rw [List.append_nil, List.drop_length]
theorem newW_cons (w : Int) (pre : List (Int × UInt8)) (x : UInt8) (b : List UInt8) : newW w pre (x :: b) = newW w pre [x] ++ newW w (pre ++ [(w, x)]) b := by
  unfold newW
  by_cases h0 : w = 0
  · subst h0
    rw [if_pos rfl, if_pos rfl, if_pos rfl, newF_cons, sideF_app]
    rfl
  · rw [if_neg h0, if_neg h0, if_neg h0]
    by_cases h1 : w = 1
    · subst h1
      rw [if_pos rfl, if_pos rfl, if_pos rfl, newF_cons, sideF_app]
      rfl
    · rw [if_neg h1, if_neg h1, if_neg h1]; rfl
theorem newW_nil (w : Int) (pre : List (Int × UInt8)) : newW w pre [] = [] := by
  unfold newW
  split
  · exact newF_none _ _
  · split
    · exact newF_none _ _
    · rfl
theorem genF_app (w : Int) (r : List (Int × UInt8)) : ∀ (b : List UInt8) (pre : List (Int × UInt8)), genF pre (b.map (fun x => (w, x)) ++ r) = newW w pre b ++ genF (pre ++ b.map fun x => (w, x)) r
  | [], pre => by rw [newW_nil, List.map_nil, List.nil_append, List.nil_append, List.append_nil]
  | x :: b, pre => by
    rw [List.map_cons, List.cons_append, genF, genF_app w r b, newW_cons w pre x b, List.append_assoc, List.append_assoc]
    rfl
theorem newC_flat (pre : List Ch) (c : Ch) : newC pre c = newW c.w (flat pre) c.b := by unfold newC newW; rw [sideB_flat, sideB_flat]
theorem allG_flat : ∀ (l pre : List Ch), allG pre l = genF (flat pre) (flat l)
  | [], pre => rfl
  | c :: l, pre => by
    rw [allG, flat, genF_app, allG_flat l, flat_app, newC_flat]
    simp only [flat, List.append_nil]
theorem allG_same {l m : List Ch} (h : flat l = flat m) : allG [] l = allG [] m := by rw [allG_flat, allG_flat, h]
theorem genF_bd : ∀ (r pre : List (Int × UInt8)), (∀ f ∈ genF pre r, f.b.length ≤ pre.length + r.length + 24) ∧ (genF pre r).length ≤ r.length * (pre.length + r.length + 1) := by
  intro r
  induction r with
  | nil => intro pre; exact ⟨fun f hf => by simp [genF] at hf, by simp [genF]⟩
  | cons p r ih =>
    intro pre
    obtain ⟨h1, h2⟩ := ih (pre ++ [p])
    rw [List.length_append] at h1 h2
    simp only [List.length_cons, List.length_nil, Nat.zero_add] at h1 h2 ⊢
    have hsd : ∀ k, (sideF k pre).length ≤ pre.length := fun k => by
      unfold sideF; rw [List.length_map]; exact List.length_filter_le _ _
    have hn : (∀ f ∈ newW p.1 pre [p.2], f.b.length ≤ pre.length + 25) ∧ (newW p.1 pre [p.2]).length ≤ pre.length + 2 := by
      have key : ∀ k : Int, (∀ f ∈ newF k (sideF k pre) [p.2], f.b.length ≤ pre.length + 25) ∧ (newF k (sideF k pre) [p.2]).length ≤ pre.length + 2 := by
        intro k
        rcases e : cutP k (decide (k = 0)) (sideF k pre ++ [p.2]) with ⟨tf, tp, tl⟩
        obtain ⟨a1, a2, _⟩ := cutP_bd e
        have := hsd k
        rw [List.length_append, List.length_cons, List.length_nil] at a1 a2
        unfold newF
        rw [e]
        refine ⟨fun f hf => ?_, ?_⟩
        · have := a2 f (List.mem_of_mem_drop hf); omega
        · dsimp only; rw [List.length_drop]; omega
      unfold newW
      split
      · exact key 0
      · split
        · exact key 1
        · exact ⟨fun f hf => by simp at hf, by simp⟩
    rw [genF]
    refine ⟨fun f hf => ?_, ?_⟩
    · rcases List.mem_append.1 hf with h | h
      · have := hn.1 f h; omega
      · have := h1 f h; omega
    · rw [List.length_append]
      have := hn.2
      have e : (r.length + 1) * (pre.length + (r.length + 1) + 1) = r.length * (pre.length + 1 + r.length + 1) + (pre.length + (r.length + 1) + 1) := by
        rw [Nat.add_mul, Nat.one_mul]; congr 2 <;> omega
      omega
theorem allG_bd {l : List Ch} {FF : List Fr} (hF : allG [] l = FF) (hs : sumC l ≤ 20000) : (∀ f ∈ FF, f.b.length ≤ 1000000000) ∧ FF.length ≤ 1000000000 := by
  subst hF
  rw [sumC_flat] at hs
  rw [allG_flat]
  obtain ⟨h1, h2⟩ := genF_bd (flat l) (flat [])
  simp only [flat, List.length_nil] at h1 h2
  refine ⟨fun f hf => by have := h1 f hf; omega, ?_⟩
  have : (flat l).length * (0 + (flat l).length + 1) ≤ 20000 * 20001 := Nat.mul_le_mul hs (by omega)
  show (genF [] (flat l)).length ≤ _
  omega
theorem cutB_flat (sz : List Int) (w : Int) : ∀ (b : List UInt8) (ds : List Ch) (cur : Option (List UInt8 × Int)) (a : Nat),
    flat (cutB sz w b ds cur a).1 = flat ds ++ ((cur.map fun p => p.1.map fun x => (w, x)).getD [] ++ b.map fun x => (w, x))
  | [], ds, none, a => by simp [cutB]
  | [], ds, some (y, m), a => by simp [cutB, flat_app, flat]
  | x :: r, ds, none, a => by
    rw [cutB]
    split
    · rw [cutB_flat sz w r]; simp [flat_app, flat]
    · rw [cutB_flat sz w r]; simp
  | x :: r, ds, some (y, m), a => by
    rw [cutB]
    split
    · rw [cutB_flat sz w r]; simp [flat_app, flat]
    · rw [cutB_flat sz w r]; simp
theorem cutL_flat (sz : List Int) : ∀ (l : List Ch) (p : List Ch × Nat), flat (cutL sz l p).1 = flat p.1 ++ flat l
  | [], p => by rw [cutL, flat, List.append_nil]
  | c :: l, p => by rw [cutL, cutL_flat sz l, cutB_flat, flat]; simp
theorem cutB_len (sz : List Int) (w : Int) : ∀ (b : List UInt8) (ds : List Ch) (cur : Option (List UInt8 × Int)) (a : Nat), (cutB sz w b ds cur a).1.length ≤ ds.length + (cur.map fun _ => 1).getD 0 + b.length
  | [], ds, none, a => by simp [cutB]
  | [], ds, some (y, m), a => by simp [cutB]
  | x :: r, ds, none, a => by
    rw [cutB]
    split
    · have := cutB_len sz w r (ds ++ [⟨w, [x]⟩]) none (a + 1); simp at this ⊢; omega
    · have := cutB_len sz w r ds (some ([x], max 1 (sz.getD (a % sz.length) 0) - 1)) (a + 1); simp at this ⊢; omega
  | x :: r, ds, some (y, m), a => by
    rw [cutB]
    split
    · have := cutB_len sz w r (ds ++ [⟨w, y ++ [x]⟩]) none a; simp at this ⊢; omega
    · have := cutB_len sz w r ds (some (y ++ [x], m - 1)) a; simp at this ⊢; omega
theorem cutL_len (sz : List Int) : ∀ (l : List Ch) (p : List Ch × Nat), (cutL sz l p).1.length ≤ p.1.length + sumC l
  | [], p => by rw [cutL, sumC]; omega
  | c :: l, p => by
    have h1 := cutL_len sz l (cutB sz c.w c.b p.1 none p.2)
    have h2 := cutB_len sz c.w c.b p.1 none p.2
    rw [cutL, sumC]
    simp at h2
    omega
theorem joinB_flat (w : Int) : ∀ (b : List UInt8) (ds : List Ch) (cur : Option Ch), flat (joinE (joinB w b ds cur)) = flat (joinE (ds, cur)) ++ b.map fun x => (w, x)
  | [], ds, cur => by rw [joinB]; simp
  | x :: r, ds, none => by rw [joinB, joinB_flat w r]; simp [joinE, flat_app, flat]
  | x :: r, ds, some c => by
    rw [joinB]
    split
    · rename_i h
      subst h
      rw [joinB_flat c.w r]; simp [joinE, flat_app, flat]
    · rw [joinB_flat w r]; simp [joinE, flat_app, flat]
theorem joinL_flat : ∀ (l : List Ch) (p : List Ch × Option Ch), flat (joinE (joinL l p)) = flat (joinE p) ++ flat l
  | [], p => by rw [joinL, flat, List.append_nil]
  | c :: l, p => by rw [joinL, joinL_flat l, joinB_flat, flat, List.append_assoc]
theorem joinB_len (w : Int) : ∀ (b : List UInt8) (ds : List Ch) (cur : Option Ch), (joinE (joinB w b ds cur)).length ≤ (joinE (ds, cur)).length + b.length
  | [], ds, cur => by rw [joinB]; simp
  | x :: r, ds, none => by rw [joinB]; have := joinB_len w r ds (some ⟨w, [x]⟩); simp [joinE] at this ⊢; omega
  | x :: r, ds, some c => by
    rw [joinB]
    split
    · have := joinB_len w r ds (some ⟨c.w, c.b ++ [x]⟩); simp [joinE] at this ⊢; omega
    · have := joinB_len w r (ds ++ [c]) (some ⟨w, [x]⟩); simp [joinE] at this ⊢; omega
theorem joinL_len : ∀ (l : List Ch) (p : List Ch × Option Ch), (joinE (joinL l p)).length ≤ (joinE p).length + sumC l
  | [], p => by rw [joinL, sumC]; omega
  | c :: l, p => by
    have h1 := joinL_len l (joinB c.w c.b p.1 p.2)
    have h2 := joinB_len c.w c.b p.1 p.2
    rw [joinL, sumC]
    show _ ≤ (joinE (p.1, p.2)).length + _
    omega
theorem cutA_flat (sz : List Int) (l : List Ch) : flat (cutA sz l) = flat l := by
  unfold cutA
  split
  · rw [joinL_flat]; rfl
  · rw [cutL_flat]; rfl
theorem cutA_len (sz : List Int) (l : List Ch) : (cutA sz l).length ≤ sumC l := by
  unfold cutA
  split
  · have := joinL_len l ([], none); simp [joinE] at this; simpa [joinE] using this
  · have := cutL_len sz l ([], 0); simpa using this
theorem cutA_sum (sz : List Int) (l : List Ch) : sumC (cutA sz l) = sumC l := by rw [sumC_flat, cutA_flat, ← sumC_flat]
theorem cutA_side (sz : List Int) (l : List Ch) (k : Int) : sideB k (cutA sz l) = sideB k l := by rw [sideB_flat, cutA_flat, ← sideB_flat]
theorem cutA_all (sz : List Int) (l : List Ch) : allG [] (cutA sz l) = allG [] l := allG_same (cutA_flat sz l)
theorem large_n {l : List Ch} {m : Int} (hm : 0 ≤ m) (h : largeC l m = false) : (sumC l : Int) ≤ m ∧ l.length ≤ 200 := by
  unfold largeC at h
  split at h
  · exact absurd h (by simp)
  · exact ⟨lgC_no hm h, by omega⟩
set_option maxRecDepth 20000 in
set_option maxHeartbeats 40000000 in
theorem law_crecut (f g h : Bool) (l : List Ch) (sz ot : List Int) (hl : l.length ≤ 9223372036854775807) (hsl : sz.length ≤ 9223372036854775807) (hol : ot.length ≤ 9223372036854775807) (hz : ∀ z ∈ sz, z ≤ 9223372036854775807) (hoz : ∀ z ∈ ot, z ≤ 9223372036854775807) : AEq Try.prog 19 [.sl f false (l.map chA), .sl g false (sz.map intA), .sl h false (ot.map intA)] [] (bl true) [] := by
  cases hL : largeC l 2000 with
  | true =>
    refine acall_body Try.func19 rfl Try.ntmps19 (by simp) (fun hsc => ?_); simp only [Lf.enter, Nat.reduceAdd]; clear hsc
    have hU := @hL
    repeat' (first | (guard_target =~ PWp _ _ _ _ _ _ _; first | (refine pwp_seq_k (fun K hK => ?_)) | (refine pwp_rg_then ?_) | (refine pwp_ret ?_) | ((refine pwp_cond_d (fun hcd => ?_) (fun hcd => ?_)) <;> (try simp only [hcP] at hcd) <;> (try (exfalso; first | omega | exact absurd hcd (by assumption) | exact absurd (by assumption) hcd)))) | (guard_target =~ rg _ _ _ _ _ _ _; first | (guard_target =~ rg _ _ _ (⟨_, .move _, _, _, _, some _⟩ :: _) _ _ _; first | (refine rg_gf rfl (hn := rfl) (h := ?_))) | (guard_target =~ rg _ _ _ (⟨_, .load _ _, _, _, _, some _⟩ :: _) _ _ _; first | (refine rg_gf rfl (hn := rfl) (h := ?_))) | (guard_target =~ rg _ _ _ (⟨_, .binOp _ _ _ _ _, _, _, _, some _⟩ :: _) _ _ _; first | (refine rg_gf rfl (hn := rfl) (h := ?_))) | (guard_target =~ rg _ _ _ (⟨_, .store _ _ _, _, _, _, none⟩ :: _) _ _ _; first | (refine rg_s rfl ?_)) | (guard_target =~ rg _ _ _ (⟨_, .alloc _, _, _, _, none⟩ :: _) _ _ _; first | (refine rg_s rfl ?_)) | (guard_target =~ rg _ _ _ (⟨_, .call ⟨.value (.func 99), _, _⟩, _, _, _, none⟩ :: _) _ _ _; first | (refine rg_s rfl ?_)) | (guard_target =~ rg _ _ _ (⟨_, .call ⟨.builtin .len, _, _⟩, _, _, _, some _⟩ :: _) _ _ _; first | (refine rg_gf rfl (hn := rfl) (h := ?_))) | (guard_target =~ rg _ _ _ (⟨_, .call ⟨.value (.func 100), _, _⟩, _, _, _, none⟩ :: _) _ _ _; first | (refine rg_s rfl ?_)) | (guard_target =~ rg _ _ _ (⟨_, .call ⟨.value (.func 96), _, _⟩, _, _, _, some _⟩ :: _) _ _ _; first | (refine rg_gf rfl (hn := rfl) (h := ?_))) | (guard_target =~ rg _ _ _ (⟨_, .call ⟨.value (.func 92), _, _⟩, _, _, _, none⟩ :: _) _ _ _; first | (refine rg_s rfl ?_)) | (guard_target =~ rg _ _ _ (⟨_, .unOp _ _ _, _, _, _, some _⟩ :: _) _ _ _; first | (refine rg_gf rfl (hn := rfl) (h := ?_))) | (guard_target =~ rg _ _ _ (⟨_, .call ⟨.value (.func 98), _, _⟩, _, _, _, some _⟩ :: _) _ _ _; first | (refine rg_gf rfl (hn := rfl) (h := ?_))) | (guard_target =~ rg _ _ _ (⟨_, .call ⟨.value (.func 91), _, _⟩, _, _, _, none⟩ :: _) _ _ _; first | (refine rg_s rfl ?_)) | (guard_target =~ rg _ _ _ (⟨_, .call ⟨.value (.func 96), _, _⟩, _, _, _, none⟩ :: _) _ _ _; first | (refine rg_s rfl ?_)) | (guard_target =~ rg _ _ _ (⟨_, .call ⟨.value (.func 92), _, _⟩, _, _, _, some _⟩ :: _) _ _ _; first | (refine rg_gf rfl (hn := rfl) (h := ?_))) | (guard_target =~ rg _ _ _ [] _ _ _; first | (refine rg_end ?_)) | (refine rg_a rfl (h := ?_)) | (refine rg_v rfl (h := ?_))) | (guard_target =~ SOp _ _ _ _ _ _; first | (guard_target =~ SOp _ _ ⟨_, .call ⟨.value (.func 92), _, _⟩, _, _, _, none⟩ _ _ _; first | (refine n_call (f := 92) rfl Try.call92 (h := AEq.pure' (by first | ((repeat' (first | exact trivial | (first | exact arg_lit | exact arg_sl id id | exact arg_nil | exact arg_sl (by simp) id | exact arg_sl (by simp) (fun _ => rfl) | exact arg_row_m (by rfl) (by rfl) (fun _ => rfl) | exact arg_vw_m (by rfl) (by rfl) (fun _ => rfl) | exact arg_rn (by rfl) (by rfl) | exact arg_junk | exact arg_row_mm (by rfl) (by rfl) (fun _ => rfl)) | refine ⟨?_, ?_⟩)); done) | fail) calive (hq := ?_)))) | (guard_target =~ SOp _ _ ⟨_, .call ⟨.value (.func 91), _, _⟩, _, _, _, none⟩ _ _ _; first | (refine n_call (f := 91) rfl Try.call91 (h := AEq.pure' (by first | ((repeat' (first | exact trivial | (first | exact arg_lit | exact arg_sl id id | exact arg_nil | exact arg_sl (by simp) id | exact arg_sl (by simp) (fun _ => rfl) | exact arg_row_m (by rfl) (by rfl) (fun _ => rfl) | exact arg_vw_m (by rfl) (by rfl) (fun _ => rfl) | exact arg_rn (by rfl) (by rfl) | exact arg_junk | exact arg_row_mm (by rfl) (by rfl) (fun _ => rfl)) | refine ⟨?_, ?_⟩)); done) | fail) (large_c _ _ _ (by omega) (by omega)) (hq := ?_)))) | (guard_target =~ SOp _ _ ⟨_, .call ⟨.value (.func 92), _, _⟩, _, _, _, some _⟩ _ _ _; first | (refine n_call (f := 92) rfl Try.call92 (h := AEq.pure' (by first | ((repeat' (first | exact trivial | (first | exact arg_lit | exact arg_sl id id | exact arg_nil | exact arg_sl (by simp) id | exact arg_sl (by simp) (fun _ => rfl) | exact arg_row_m (by rfl) (by rfl) (fun _ => rfl) | exact arg_vw_m (by rfl) (by rfl) (fun _ => rfl) | exact arg_rn (by rfl) (by rfl) | exact arg_junk | exact arg_row_mm (by rfl) (by rfl) (fun _ => rfl)) | refine ⟨?_, ?_⟩)); done) | fail) calive (hq := ?_))))) | (guard_target =~ (_ ∨ _) ∧ _; first | ((refine end_d [] (by rw [Try.results19, Lf.res1]) (ale_1 ?_) ?_) <;> (try (first | exact ale_eq (by with_reducible rfl) | exact ale_full | exact ale_sl (fun _ => rfl) | exact ale_sl (by simp) | exact ale_junk | exact ale_eq rfl | exact stq (by with_reducible rfl) | exact stq (by rfl) | exact stq (by simp (disch := omega) only [go_sem, seval, ↓reduceIte, hU]))))) | (refine hK _ _ ?_; clear hK K))
  | false =>
    obtain ⟨hs2, hl2⟩ := large_n (by decide) hL
    cases hR : rightC l with
    | false =>
      refine acall_body Try.func19 rfl Try.ntmps19 (by simp) (fun hsc => ?_); simp only [Lf.enter, Nat.reduceAdd]; clear hsc
      have hU := And.intro @hL (@hR)
      repeat' (first | (guard_target =~ PWp _ _ _ _ _ _ _; first | (refine pwp_seq_k (fun K hK => ?_)) | (refine pwp_rg_then ?_) | (refine pwp_ret ?_) | ((refine pwp_cond_d (fun hcd => ?_) (fun hcd => ?_)) <;> (try simp only [hcP] at hcd) <;> (try (exfalso; first | omega | exact absurd hcd (by assumption) | exact absurd (by assumption) hcd)))) | (guard_target =~ rg _ _ _ _ _ _ _; first | (guard_target =~ rg _ _ _ (⟨_, .move _, _, _, _, some _⟩ :: _) _ _ _; first | (refine rg_gtp rfl (h := ?_)) | (refine rg_gf rfl (hn := rfl) (h := ?_)) | (refine rg_gq rfl (h := ?_)) | (refine rg_gt rfl (h := ?_)) | ((first | refine rg_case (by simp only [go_sem, seval, ↓reduceIte, hU] <;> rfl) (fun hcd => ?_) (fun hcd => ?_) | refine rg_case2 (by simp only [go_sem, seval, ↓reduceIte, hU] <;> rfl) (fun hcd => ?_) (fun hcd => ?_)) <;> (try simp only [hcd]) <;> (try (simp only [Bool.not_eq_true', Bool.not_eq_false'] at hcd; try simp only [hcd])) <;> (refine rg_w (Γ2 := _) (by repeat' (first | exact envw_nil | apply envw_cons | exact opens_t | exact opens_f | exact opens_r)) ?_) <;> (try simp only [hcP] at hcd) <;> (try (exfalso; first | omega | exact absurd hcd (by assumption) | exact absurd (by assumption) hcd)))) | (guard_target =~ rg _ _ _ (⟨_, .load _ _, _, _, _, some _⟩ :: _) _ _ _; first | (refine rg_gtp rfl (h := ?_)) | (refine rg_gf rfl (hn := rfl) (h := ?_)) | (refine rg_gq rfl (h := ?_)) | (refine rg_gt rfl (h := ?_)) | ((first | refine rg_case (by simp only [go_sem, seval, ↓reduceIte, hU] <;> rfl) (fun hcd => ?_) (fun hcd => ?_) | refine rg_case2 (by simp only [go_sem, seval, ↓reduceIte, hU] <;> rfl) (fun hcd => ?_) (fun hcd => ?_)) <;> (try simp only [hcd]) <;> (try (simp only [Bool.not_eq_true', Bool.not_eq_false'] at hcd; try simp only [hcd])) <;> (refine rg_w (Γ2 := _) (by repeat' (first | exact envw_nil | apply envw_cons | exact opens_t | exact opens_f | exact opens_r)) ?_) <;> (try simp only [hcP] at hcd) <;> (try (exfalso; first | omega | exact absurd hcd (by assumption) | exact absurd (by assumption) hcd)))) | (guard_target =~ rg _ _ _ (⟨_, .binOp _ _ _ _ _, _, _, _, some _⟩ :: _) _ _ _; first | (refine rg_gtp rfl (h := ?_)) | (refine rg_gf rfl (hn := rfl) (h := ?_)) | (refine rg_gq rfl (h := ?_)) | (refine rg_gt rfl (h := ?_)) | ((first | refine rg_case (by simp only [go_sem, seval, ↓reduceIte, hU] <;> rfl) (fun hcd => ?_) (fun hcd => ?_) | refine rg_case2 (by simp only [go_sem, seval, ↓reduceIte, hU] <;> rfl) (fun hcd => ?_) (fun hcd => ?_)) <;> (try simp only [hcd]) <;> (try (simp only [Bool.not_eq_true', Bool.not_eq_false'] at hcd; try simp only [hcd])) <;> (refine rg_w (Γ2 := _) (by repeat' (first | exact envw_nil | apply envw_cons | exact opens_t | exact opens_f | exact opens_r)) ?_) <;> (try simp only [hcP] at hcd) <;> (try (exfalso; first | omega | exact absurd hcd (by assumption) | exact absurd (by assumption) hcd)))) | (guard_target =~ rg _ _ _ (⟨_, .store _ _ _, _, _, _, none⟩ :: _) _ _ _; first | (refine rg_s rfl ?_)) | (guard_target =~ rg _ _ _ (⟨_, .alloc _, _, _, _, none⟩ :: _) _ _ _; first | (refine rg_s rfl ?_)) | (guard_target =~ rg _ _ _ (⟨_, .call ⟨.value (.func 99), _, _⟩, _, _, _, none⟩ :: _) _ _ _; first | (refine rg_s rfl ?_)) | (guard_target =~ rg _ _ _ (⟨_, .call ⟨.builtin .len, _, _⟩, _, _, _, some _⟩ :: _) _ _ _; first | (refine rg_gtp rfl (h := ?_)) | (refine rg_gf rfl (hn := rfl) (h := ?_)) | (refine rg_gq rfl (h := ?_)) | (refine rg_gt rfl (h := ?_)) | ((first | refine rg_case (by simp only [go_sem, seval, ↓reduceIte, hU] <;> rfl) (fun hcd => ?_) (fun hcd => ?_) | refine rg_case2 (by simp only [go_sem, seval, ↓reduceIte, hU] <;> rfl) (fun hcd => ?_) (fun hcd => ?_)) <;> (try simp only [hcd]) <;> (try (simp only [Bool.not_eq_true', Bool.not_eq_false'] at hcd; try simp only [hcd])) <;> (refine rg_w (Γ2 := _) (by repeat' (first | exact envw_nil | apply envw_cons | exact opens_t | exact opens_f | exact opens_r)) ?_) <;> (try simp only [hcP] at hcd) <;> (try (exfalso; first | omega | exact absurd hcd (by assumption) | exact absurd (by assumption) hcd)))) | (guard_target =~ rg _ _ _ (⟨_, .call ⟨.value (.func 100), _, _⟩, _, _, _, none⟩ :: _) _ _ _; first | (refine rg_s rfl ?_)) | (guard_target =~ rg _ _ _ (⟨_, .call ⟨.value (.func 96), _, _⟩, _, _, _, some _⟩ :: _) _ _ _; first | (refine rg_gtp rfl (h := ?_)) | (refine rg_gf rfl (hn := rfl) (h := ?_)) | (refine rg_gq rfl (h := ?_)) | (refine rg_gt rfl (h := ?_)) | ((first | refine rg_case (by simp only [go_sem, seval, ↓reduceIte, hU] <;> rfl) (fun hcd => ?_) (fun hcd => ?_) | refine rg_case2 (by simp only [go_sem, seval, ↓reduceIte, hU] <;> rfl) (fun hcd => ?_) (fun hcd => ?_)) <;> (try simp only [hcd]) <;> (try (simp only [Bool.not_eq_true', Bool.not_eq_false'] at hcd; try simp only [hcd])) <;> (refine rg_w (Γ2 := _) (by repeat' (first | exact envw_nil | apply envw_cons | exact opens_t | exact opens_f | exact opens_r)) ?_) <;> (try simp only [hcP] at hcd) <;> (try (exfalso; first | omega | exact absurd hcd (by assumption) | exact absurd (by assumption) hcd)))) | (guard_target =~ rg _ _ _ (⟨_, .call ⟨.value (.func 92), _, _⟩, _, _, _, none⟩ :: _) _ _ _; first | (refine rg_s rfl ?_)) | (guard_target =~ rg _ _ _ (⟨_, .unOp _ _ _, _, _, _, some _⟩ :: _) _ _ _; first | (refine rg_gtp rfl (h := ?_)) | (refine rg_gf rfl (hn := rfl) (h := ?_)) | (refine rg_gq rfl (h := ?_)) | (refine rg_gt rfl (h := ?_)) | ((first | refine rg_case (by simp only [go_sem, seval, ↓reduceIte, hU] <;> rfl) (fun hcd => ?_) (fun hcd => ?_) | refine rg_case2 (by simp only [go_sem, seval, ↓reduceIte, hU] <;> rfl) (fun hcd => ?_) (fun hcd => ?_)) <;> (try simp only [hcd]) <;> (try (simp only [Bool.not_eq_true', Bool.not_eq_false'] at hcd; try simp only [hcd])) <;> (refine rg_w (Γ2 := _) (by repeat' (first | exact envw_nil | apply envw_cons | exact opens_t | exact opens_f | exact opens_r)) ?_) <;> (try simp only [hcP] at hcd) <;> (try (exfalso; first | omega | exact absurd hcd (by assumption) | exact absurd (by assumption) hcd)))) | (guard_target =~ rg _ _ _ (⟨_, .call ⟨.value (.func 98), _, _⟩, _, _, _, some _⟩ :: _) _ _ _; first | (refine rg_gtp rfl (h := ?_)) | (refine rg_gf rfl (hn := rfl) (h := ?_)) | (refine rg_gq rfl (h := ?_)) | (refine rg_gt rfl (h := ?_)) | ((first | refine rg_case (by simp only [go_sem, seval, ↓reduceIte, hU] <;> rfl) (fun hcd => ?_) (fun hcd => ?_) | refine rg_case2 (by simp only [go_sem, seval, ↓reduceIte, hU] <;> rfl) (fun hcd => ?_) (fun hcd => ?_)) <;> (try simp only [hcd]) <;> (try (simp only [Bool.not_eq_true', Bool.not_eq_false'] at hcd; try simp only [hcd])) <;> (refine rg_w (Γ2 := _) (by repeat' (first | exact envw_nil | apply envw_cons | exact opens_t | exact opens_f | exact opens_r)) ?_) <;> (try simp only [hcP] at hcd) <;> (try (exfalso; first | omega | exact absurd hcd (by assumption) | exact absurd (by assumption) hcd)))) | (guard_target =~ rg _ _ _ (⟨_, .call ⟨.value (.func 91), _, _⟩, _, _, _, none⟩ :: _) _ _ _; first | (refine rg_s rfl ?_)) | (guard_target =~ rg _ _ _ (⟨_, .call ⟨.value (.func 96), _, _⟩, _, _, _, none⟩ :: _) _ _ _; first | (refine rg_s rfl ?_)) | (guard_target =~ rg _ _ _ (⟨_, .call ⟨.value (.func 92), _, _⟩, _, _, _, some _⟩ :: _) _ _ _; first | (refine rg_gtp rfl (h := ?_)) | (refine rg_gf rfl (hn := rfl) (h := ?_)) | (refine rg_gq rfl (h := ?_)) | (refine rg_gt rfl (h := ?_)) | ((first | refine rg_case (by simp only [go_sem, seval, ↓reduceIte, hU] <;> rfl) (fun hcd => ?_) (fun hcd => ?_) | refine rg_case2 (by simp only [go_sem, seval, ↓reduceIte, hU] <;> rfl) (fun hcd => ?_) (fun hcd => ?_)) <;> (try simp only [hcd]) <;> (try (simp only [Bool.not_eq_true', Bool.not_eq_false'] at hcd; try simp only [hcd])) <;> (refine rg_w (Γ2 := _) (by repeat' (first | exact envw_nil | apply envw_cons | exact opens_t | exact opens_f | exact opens_r)) ?_) <;> (try simp only [hcP] at hcd) <;> (try (exfalso; first | omega | exact absurd hcd (by assumption) | exact absurd (by assumption) hcd)))) | (guard_target =~ rg _ _ _ [] _ _ _; first | (refine rg_end ?_)) | (refine rg_a rfl (h := ?_)) | (refine rg_v rfl (h := ?_))) | (guard_target =~ SOp _ _ _ _ _ _; first | (guard_target =~ SOp _ _ ⟨_, .call ⟨.value (.func 92), _, _⟩, _, _, _, none⟩ _ _ _; first | (refine n_call (f := 92) rfl Try.call92 (h := AEq.pure' (by first | ((repeat' (first | exact trivial | (first | exact arg_lit | exact arg_sl id id | exact arg_nil | exact arg_sl (by simp) id | exact arg_sl (by simp) (fun _ => rfl) | exact arg_row_m (by rfl) (by rfl) (fun _ => rfl) | exact arg_vw_m (by rfl) (by rfl) (fun _ => rfl) | exact arg_rn (by rfl) (by rfl) | exact arg_junk | exact arg_row_mm (by rfl) (by rfl) (fun _ => rfl)) | refine ⟨?_, ?_⟩)); done) | fail) calive (hq := ?_)))) | (guard_target =~ SOp _ _ ⟨_, .call ⟨.value (.func 98), _, _⟩, _, _, _, some _⟩ _ _ _; first | (refine n_call (f := 98) rfl Try.call98 (h := AEq.pure' (by first | ((repeat' (first | exact trivial | (first | exact arg_lit | exact arg_sl id id | exact arg_nil | exact arg_sl (by simp) id | exact arg_sl (by simp) (fun _ => rfl) | exact arg_row_m (by rfl) (by rfl) (fun _ => rfl) | exact arg_vw_m (by rfl) (by rfl) (fun _ => rfl) | exact arg_rn (by rfl) (by rfl) | exact arg_junk | exact arg_row_mm (by rfl) (by rfl) (fun _ => rfl)) | refine ⟨?_, ?_⟩)); done) | fail) (rright _ _ (by omega)) (hq := ?_)))) | (guard_target =~ SOp _ _ ⟨_, .call ⟨.value (.func 91), _, _⟩, _, _, _, none⟩ _ _ _; first | (refine n_call (f := 91) rfl Try.call91 (h := AEq.pure' (by first | ((repeat' (first | exact trivial | (first | exact arg_lit | exact arg_sl id id | exact arg_nil | exact arg_sl (by simp) id | exact arg_sl (by simp) (fun _ => rfl) | exact arg_row_m (by rfl) (by rfl) (fun _ => rfl) | exact arg_vw_m (by rfl) (by rfl) (fun _ => rfl) | exact arg_rn (by rfl) (by rfl) | exact arg_junk | exact arg_row_mm (by rfl) (by rfl) (fun _ => rfl)) | refine ⟨?_, ?_⟩)); done) | fail) (large_c _ _ _ (by omega) (by omega)) (hq := ?_)))) | (guard_target =~ SOp _ _ ⟨_, .call ⟨.value (.func 92), _, _⟩, _, _, _, some _⟩ _ _ _; first | (refine n_call (f := 92) rfl Try.call92 (h := AEq.pure' (by first | ((repeat' (first | exact trivial | (first | exact arg_lit | exact arg_sl id id | exact arg_nil | exact arg_sl (by simp) id | exact arg_sl (by simp) (fun _ => rfl) | exact arg_row_m (by rfl) (by rfl) (fun _ => rfl) | exact arg_vw_m (by rfl) (by rfl) (fun _ => rfl) | exact arg_rn (by rfl) (by rfl) | exact arg_junk | exact arg_row_mm (by rfl) (by rfl) (fun _ => rfl)) | refine ⟨?_, ?_⟩)); done) | fail) calive (hq := ?_))))) | (guard_target =~ (_ ∨ _) ∧ _; first | ((refine end_d [] (by rw [Try.results19, Lf.res1]) (ale_1 ?_) ?_) <;> (try (first | exact ale_eq (by with_reducible rfl) | exact ale_full | exact ale_sl (fun _ => rfl) | exact ale_sl (by simp) | exact ale_junk | exact ale_eq rfl | exact stq (by with_reducible rfl) | exact stq (by rfl) | exact stq (by simp (disch := omega) only [go_sem, seval, ↓reduceIte, hU]))))) | (refine hK _ _ ?_; clear hK K))
    | true =>
      have hs3 : sumC l ≤ 2000 := by omega
      have hs4 : sumC l ≤ 100000 := by omega
      obtain ⟨FF, hFF⟩ : ∃ FF, allG [] l = FF := ⟨_, rfl⟩
      obtain ⟨hbd, hln⟩ := allG_bd hFF (by omega)
      rcases hq0 : cutP 0 true (sideB 0 l) with ⟨a0, e0, t0⟩
      rcases hq1 : cutP 1 false (sideB 1 l) with ⟨a1, e1, t1⟩
      have p1 : (cutA sz l).length ≤ 1000000 := by have := cutA_len sz l; omega
      have p2 : sumC (cutA sz l) ≤ 100000 := by rw [cutA_sum]; exact hs4
      have p3 : allG [] (cutA sz l) = FF := (cutA_all sz l).trans hFF
      have p4 : cutP 0 true (sideB 0 (cutA sz l)) = (a0, e0, t0) := by rw [cutA_side]; exact hq0
      have p5 : cutP 1 false (sideB 1 (cutA sz l)) = (a1, e1, t1) := by rw [cutA_side]; exact hq1
      have r1 : (cutA ot l).length ≤ 1000000 := by have := cutA_len ot l; omega
      have r2 : sumC (cutA ot l) ≤ 100000 := by rw [cutA_sum]; exact hs4
      have r3 : allG [] (cutA ot l) = FF := (cutA_all ot l).trans hFF
      have r4 : cutP 0 true (sideB 0 (cutA ot l)) = (a0, e0, t0) := by rw [cutA_side]; exact hq0
      have r5 : cutP 1 false (sideB 1 (cutA ot l)) = (a1, e1, t1) := by rw [cutA_side]; exact hq1
      have hdd : decide (FF = FF) = true := by simp
      refine acall_body Try.func19 rfl Try.ntmps19 (by simp) (fun hsc => ?_); simp only [Lf.enter, Nat.reduceAdd]; clear hsc
      have hU := And.intro @hL ( And.intro @hR (@hdd))
      repeat' (first | (guard_target =~ PWp _ _ _ _ _ _ _; first | (refine pwp_seq_k (fun K hK => ?_)) | (refine pwp_rg_then ?_) | (refine pwp_ret ?_) | (refine pwp_skip ?_) | ((refine pwp_cond_d (fun hcd => ?_) (fun hcd => ?_)) <;> (try simp only [hcP] at hcd) <;> (try (exfalso; first | omega | exact absurd hcd (by assumption) | exact absurd (by assumption) hcd)))) | (guard_target =~ rg _ _ _ _ _ _ _; first | (guard_target =~ rg _ _ _ (⟨_, .move _, _, _, _, some _⟩ :: _) _ _ _; first | (refine rg_gtp rfl (h := ?_)) | (refine rg_gf rfl (hn := rfl) (h := ?_)) | (refine rg_gq rfl (h := ?_)) | (refine rg_gt rfl (h := ?_)) | ((first | refine rg_case (by simp only [go_sem, seval, ↓reduceIte, hU] <;> rfl) (fun hcd => ?_) (fun hcd => ?_) | refine rg_case2 (by simp only [go_sem, seval, ↓reduceIte, hU] <;> rfl) (fun hcd => ?_) (fun hcd => ?_)) <;> (try simp only [hcd]) <;> (try (simp only [Bool.not_eq_true', Bool.not_eq_false'] at hcd; try simp only [hcd])) <;> (refine rg_w (Γ2 := _) (by repeat' (first | exact envw_nil | apply envw_cons | exact opens_t | exact opens_f | exact opens_r)) ?_) <;> (try simp only [hcP] at hcd) <;> (try (exfalso; first | omega | exact absurd hcd (by assumption) | exact absurd (by assumption) hcd)))) | (guard_target =~ rg _ _ _ (⟨_, .load _ _, _, _, _, some _⟩ :: _) _ _ _; first | (refine rg_gtp rfl (h := ?_)) | (refine rg_gf rfl (hn := rfl) (h := ?_)) | (refine rg_gq rfl (h := ?_)) | (refine rg_gt rfl (h := ?_)) | ((first | refine rg_case (by simp only [go_sem, seval, ↓reduceIte, hU] <;> rfl) (fun hcd => ?_) (fun hcd => ?_) | refine rg_case2 (by simp only [go_sem, seval, ↓reduceIte, hU] <;> rfl) (fun hcd => ?_) (fun hcd => ?_)) <;> (try simp only [hcd]) <;> (try (simp only [Bool.not_eq_true', Bool.not_eq_false'] at hcd; try simp only [hcd])) <;> (refine rg_w (Γ2 := _) (by repeat' (first | exact envw_nil | apply envw_cons | exact opens_t | exact opens_f | exact opens_r)) ?_) <;> (try simp only [hcP] at hcd) <;> (try (exfalso; first | omega | exact absurd hcd (by assumption) | exact absurd (by assumption) hcd)))) | (guard_target =~ rg _ _ _ (⟨_, .binOp _ _ _ _ _, _, _, _, some _⟩ :: _) _ _ _; first | (refine rg_gtp rfl (h := ?_)) | (refine rg_gf rfl (hn := rfl) (h := ?_)) | (refine rg_gq rfl (h := ?_)) | (refine rg_gt rfl (h := ?_)) | ((first | refine rg_case (by simp only [go_sem, seval, ↓reduceIte, hU] <;> rfl) (fun hcd => ?_) (fun hcd => ?_) | refine rg_case2 (by simp only [go_sem, seval, ↓reduceIte, hU] <;> rfl) (fun hcd => ?_) (fun hcd => ?_)) <;> (try simp only [hcd]) <;> (try (simp only [Bool.not_eq_true', Bool.not_eq_false'] at hcd; try simp only [hcd])) <;> (refine rg_w (Γ2 := _) (by repeat' (first | exact envw_nil | apply envw_cons | exact opens_t | exact opens_f | exact opens_r)) ?_) <;> (try simp only [hcP] at hcd) <;> (try (exfalso; first | omega | exact absurd hcd (by assumption) | exact absurd (by assumption) hcd)))) | (guard_target =~ rg _ _ _ (⟨_, .store _ _ _, _, _, _, none⟩ :: _) _ _ _; first | (refine rg_s rfl ?_) | (refine rg_n rfl ?_)) | (guard_target =~ rg _ _ _ (⟨_, .alloc _, _, _, _, none⟩ :: _) _ _ _; first | (refine rg_s rfl ?_) | (refine rg_n rfl ?_)) | (guard_target =~ rg _ _ _ (⟨_, .call ⟨.value (.func 99), _, _⟩, _, _, _, none⟩ :: _) _ _ _; first | (refine rg_s rfl ?_) | (refine rg_n rfl ?_)) | (guard_target =~ rg _ _ _ (⟨_, .call ⟨.builtin .len, _, _⟩, _, _, _, some _⟩ :: _) _ _ _; first | (refine rg_gtp rfl (h := ?_)) | (refine rg_gf rfl (hn := rfl) (h := ?_)) | (refine rg_gq rfl (h := ?_)) | (refine rg_gt rfl (h := ?_)) | ((first | refine rg_case (by simp only [go_sem, seval, ↓reduceIte, hU] <;> rfl) (fun hcd => ?_) (fun hcd => ?_) | refine rg_case2 (by simp only [go_sem, seval, ↓reduceIte, hU] <;> rfl) (fun hcd => ?_) (fun hcd => ?_)) <;> (try simp only [hcd]) <;> (try (simp only [Bool.not_eq_true', Bool.not_eq_false'] at hcd; try simp only [hcd])) <;> (refine rg_w (Γ2 := _) (by repeat' (first | exact envw_nil | apply envw_cons | exact opens_t | exact opens_f | exact opens_r)) ?_) <;> (try simp only [hcP] at hcd) <;> (try (exfalso; first | omega | exact absurd hcd (by assumption) | exact absurd (by assumption) hcd)))) | (guard_target =~ rg _ _ _ (⟨_, .call ⟨.value (.func 100), _, _⟩, _, _, _, none⟩ :: _) _ _ _; first | (refine rg_s rfl ?_) | (refine rg_n rfl ?_)) | (guard_target =~ rg _ _ _ (⟨_, .call ⟨.value (.func 96), _, _⟩, _, _, _, some _⟩ :: _) _ _ _; first | (refine rg_gtp rfl (h := ?_)) | (refine rg_gf rfl (hn := rfl) (h := ?_)) | (refine rg_gq rfl (h := ?_)) | (refine rg_gt rfl (h := ?_)) | ((first | refine rg_case (by simp only [go_sem, seval, ↓reduceIte, hU] <;> rfl) (fun hcd => ?_) (fun hcd => ?_) | refine rg_case2 (by simp only [go_sem, seval, ↓reduceIte, hU] <;> rfl) (fun hcd => ?_) (fun hcd => ?_)) <;> (try simp only [hcd]) <;> (try (simp only [Bool.not_eq_true', Bool.not_eq_false'] at hcd; try simp only [hcd])) <;> (refine rg_w (Γ2 := _) (by repeat' (first | exact envw_nil | apply envw_cons | exact opens_t | exact opens_f | exact opens_r)) ?_) <;> (try simp only [hcP] at hcd) <;> (try (exfalso; first | omega | exact absurd hcd (by assumption) | exact absurd (by assumption) hcd)))) | (guard_target =~ rg _ _ _ (⟨_, .call ⟨.value (.func 92), _, _⟩, _, _, _, none⟩ :: _) _ _ _; first | (refine rg_s rfl ?_) | (refine rg_n rfl ?_)) | (guard_target =~ rg _ _ _ (⟨_, .unOp _ _ _, _, _, _, some _⟩ :: _) _ _ _; first | (refine rg_gtp rfl (h := ?_)) | (refine rg_gf rfl (hn := rfl) (h := ?_)) | (refine rg_gq rfl (h := ?_)) | (refine rg_gt rfl (h := ?_)) | ((first | refine rg_case (by simp only [go_sem, seval, ↓reduceIte, hU] <;> rfl) (fun hcd => ?_) (fun hcd => ?_) | refine rg_case2 (by simp only [go_sem, seval, ↓reduceIte, hU] <;> rfl) (fun hcd => ?_) (fun hcd => ?_)) <;> (try simp only [hcd]) <;> (try (simp only [Bool.not_eq_true', Bool.not_eq_false'] at hcd; try simp only [hcd])) <;> (refine rg_w (Γ2 := _) (by repeat' (first | exact envw_nil | apply envw_cons | exact opens_t | exact opens_f | exact opens_r)) ?_) <;> (try simp only [hcP] at hcd) <;> (try (exfalso; first | omega | exact absurd hcd (by assumption) | exact absurd (by assumption) hcd)))) | (guard_target =~ rg _ _ _ (⟨_, .call ⟨.value (.func 98), _, _⟩, _, _, _, some _⟩ :: _) _ _ _; first | (refine rg_gtp rfl (h := ?_)) | (refine rg_gf rfl (hn := rfl) (h := ?_)) | (refine rg_gq rfl (h := ?_)) | (refine rg_gt rfl (h := ?_)) | ((first | refine rg_case (by simp only [go_sem, seval, ↓reduceIte, hU] <;> rfl) (fun hcd => ?_) (fun hcd => ?_) | refine rg_case2 (by simp only [go_sem, seval, ↓reduceIte, hU] <;> rfl) (fun hcd => ?_) (fun hcd => ?_)) <;> (try simp only [hcd]) <;> (try (simp only [Bool.not_eq_true', Bool.not_eq_false'] at hcd; try simp only [hcd])) <;> (refine rg_w (Γ2 := _) (by repeat' (first | exact envw_nil | apply envw_cons | exact opens_t | exact opens_f | exact opens_r)) ?_) <;> (try simp only [hcP] at hcd) <;> (try (exfalso; first | omega | exact absurd hcd (by assumption) | exact absurd (by assumption) hcd)))) | (guard_target =~ rg _ _ _ (⟨_, .call ⟨.value (.func 91), _, _⟩, _, _, _, none⟩ :: _) _ _ _; first | (refine rg_s rfl ?_) | (refine rg_n rfl ?_)) | (guard_target =~ rg _ _ _ (⟨_, .call ⟨.value (.func 96), _, _⟩, _, _, _, none⟩ :: _) _ _ _; first | (refine rg_s rfl ?_) | (refine rg_n rfl ?_)) | (guard_target =~ rg _ _ _ (⟨_, .call ⟨.value (.func 92), _, _⟩, _, _, _, some _⟩ :: _) _ _ _; first | (refine rg_gtp rfl (h := ?_)) | (refine rg_gf rfl (hn := rfl) (h := ?_)) | (refine rg_gq rfl (h := ?_)) | (refine rg_gt rfl (h := ?_)) | ((first | refine rg_case (by simp only [go_sem, seval, ↓reduceIte, hU] <;> rfl) (fun hcd => ?_) (fun hcd => ?_) | refine rg_case2 (by simp only [go_sem, seval, ↓reduceIte, hU] <;> rfl) (fun hcd => ?_) (fun hcd => ?_)) <;> (try simp only [hcd]) <;> (try (simp only [Bool.not_eq_true', Bool.not_eq_false'] at hcd; try simp only [hcd])) <;> (refine rg_w (Γ2 := _) (by repeat' (first | exact envw_nil | apply envw_cons | exact opens_t | exact opens_f | exact opens_r)) ?_) <;> (try simp only [hcP] at hcd) <;> (try (exfalso; first | omega | exact absurd hcd (by assumption) | exact absurd (by assumption) hcd)))) | (guard_target =~ rg _ _ _ [] _ _ _; first | (refine rg_end ?_)) | (refine rg_a rfl (h := ?_)) | (refine rg_x rfl (hy := rfl) (h := ?_)) | (refine rg_v rfl (h := ?_))) | (guard_target =~ SOp _ _ _ _ _ _; first | (guard_target =~ SOp _ _ ⟨_, .binOp _ _ _ _ _, _, _, _, some _⟩ _ _ _; first | (refine n_eqag (ne := false) rfl (by first | exact eg133 | exact eg148 | exact eg152 | fail) (hc := rfl) (hK := ?_))) | (guard_target =~ SOp _ _ ⟨_, .store _ _ _, _, _, _, none⟩ _ _ _; first | (refine n_store rfl (hK := ?_))) | (guard_target =~ SOp _ _ ⟨_, .alloc _, _, _, _, none⟩ _ _ _; first | (refine n_alloc rfl (by first | exact zv3 | exact zv4 | exact zv5 | exact zv33 | exact zv70 | exact zv133 | exact zv143 | exact zv148 | exact zv152 | exact zv153 | fail) (hK := ?_))) | (guard_target =~ SOp _ _ ⟨_, .call ⟨.value (.func 99), _, _⟩, _, _, _, none⟩ _ _ _; first | (refine n_call (f := 99) rfl Try.call99 (h := AEq.pure' (by first | ((repeat' (first | exact trivial | (first | exact arg_lit | exact arg_sl id id | exact arg_nil | exact arg_sl (by simp) id | exact arg_sl (by simp) (fun _ => rfl) | exact arg_row_m (by rfl) (by rfl) (fun _ => rfl) | exact arg_vw_m (by rfl) (by rfl) (fun _ => rfl) | exact arg_rn (by rfl) (by rfl) | exact arg_junk | exact arg_row_mm (by rfl) (by rfl) (fun _ => rfl)) | refine ⟨?_, ?_⟩)); done) | fail) (rall_c _ _ _ _ _ _ _ _ _ (by first | assumption | omega) (by first | assumption | omega) (by first | assumption | omega) (by first | assumption | omega) (by first | assumption | omega)) (hq := ?_)))) | (guard_target =~ SOp _ _ ⟨_, .call ⟨.value (.func 100), _, _⟩, _, _, _, none⟩ _ _ _; first | (refine n_call (f := 100) rfl Try.call100 (h := AEq.pure' (by first | ((repeat' (first | exact trivial | (first | exact arg_lit | exact arg_sl id id | exact arg_nil | exact arg_sl (by simp) id | exact arg_sl (by simp) (fun _ => rfl) | exact arg_row_m (by rfl) (by rfl) (fun _ => rfl) | exact arg_vw_m (by rfl) (by rfl) (fun _ => rfl) | exact arg_rn (by rfl) (by rfl) | exact arg_junk | exact arg_row_mm (by rfl) (by rfl) (fun _ => rfl)) | refine ⟨?_, ?_⟩)); done) | fail) (rcutA _ _ _ _ (by first | assumption | omega) (by first | assumption | omega) (by first | assumption | omega) (by first | assumption | omega)) (hq := ?_)))) | (guard_target =~ SOp _ _ ⟨_, .call ⟨.value (.func 96), _, _⟩, _, _, _, some _⟩ _ _ _; first | (refine n_call (f := 96) rfl Try.call96 (h := AEq.pure' (by first | ((repeat' (first | exact trivial | (first | exact arg_lit | exact arg_sl id id | exact arg_nil | exact arg_sl (by simp) id | exact arg_sl (by simp) (fun _ => rfl) | exact arg_row_m (by rfl) (by rfl) (fun _ => rfl) | exact arg_vw_m (by rfl) (by rfl) (fun _ => rfl) | exact arg_rn (by rfl) (by rfl) | exact arg_junk | exact arg_row_mm (by rfl) (by rfl) (fun _ => rfl)) | refine ⟨?_, ?_⟩)); done) | fail) (rfall _ _ _ _ _ _ (by first | assumption | omega) (by first | assumption | omega)) (hq := ?_)))) | (guard_target =~ SOp _ _ ⟨_, .call ⟨.value (.func 92), _, _⟩, _, _, _, none⟩ _ _ _; first | (refine n_call (f := 92) rfl Try.call92 (h := AEq.pure' (by first | ((repeat' (first | exact trivial | (first | exact arg_lit | exact arg_sl id id | exact arg_nil | exact arg_sl (by simp) id | exact arg_sl (by simp) (fun _ => rfl) | exact arg_row_m (by rfl) (by rfl) (fun _ => rfl) | exact arg_vw_m (by rfl) (by rfl) (fun _ => rfl) | exact arg_rn (by rfl) (by rfl) | exact arg_junk | exact arg_row_mm (by rfl) (by rfl) (fun _ => rfl)) | refine ⟨?_, ?_⟩)); done) | fail) calive (hq := ?_)))) | (guard_target =~ SOp _ _ ⟨_, .call ⟨.value (.func 98), _, _⟩, _, _, _, some _⟩ _ _ _; first | (refine n_call (f := 98) rfl Try.call98 (h := AEq.pure' (by first | ((repeat' (first | exact trivial | (first | exact arg_lit | exact arg_sl id id | exact arg_nil | exact arg_sl (by simp) id | exact arg_sl (by simp) (fun _ => rfl) | exact arg_row_m (by rfl) (by rfl) (fun _ => rfl) | exact arg_vw_m (by rfl) (by rfl) (fun _ => rfl) | exact arg_rn (by rfl) (by rfl) | exact arg_junk | exact arg_row_mm (by rfl) (by rfl) (fun _ => rfl)) | refine ⟨?_, ?_⟩)); done) | fail) (rright _ _ (by first | assumption | omega)) (hq := ?_)))) | (guard_target =~ SOp _ _ ⟨_, .call ⟨.value (.func 91), _, _⟩, _, _, _, none⟩ _ _ _; first | (refine n_call (f := 91) rfl Try.call91 (h := AEq.pure' (by first | ((repeat' (first | exact trivial | (first | exact arg_lit | exact arg_sl id id | exact arg_nil | exact arg_sl (by simp) id | exact arg_sl (by simp) (fun _ => rfl) | exact arg_row_m (by rfl) (by rfl) (fun _ => rfl) | exact arg_vw_m (by rfl) (by rfl) (fun _ => rfl) | exact arg_rn (by rfl) (by rfl) | exact arg_junk | exact arg_row_mm (by rfl) (by rfl) (fun _ => rfl)) | refine ⟨?_, ?_⟩)); done) | fail) (large_c _ _ _ (by first | assumption | omega) (by first | assumption | omega)) (hq := ?_)))) | (guard_target =~ SOp _ _ ⟨_, .call ⟨.value (.func 96), _, _⟩, _, _, _, none⟩ _ _ _; first | (refine n_call (f := 96) rfl Try.call96 (h := AEq.pure' (by first | ((repeat' (first | exact trivial | (first | exact arg_lit | exact arg_sl id id | exact arg_nil | exact arg_sl (by simp) id | exact arg_sl (by simp) (fun _ => rfl) | exact arg_row_m (by rfl) (by rfl) (fun _ => rfl) | exact arg_vw_m (by rfl) (by rfl) (fun _ => rfl) | exact arg_rn (by rfl) (by rfl) | exact arg_junk | exact arg_row_mm (by rfl) (by rfl) (fun _ => rfl)) | refine ⟨?_, ?_⟩)); done) | fail) (rfall _ _ _ _ _ _ (by first | assumption | omega) (by first | assumption | omega)) (hq := ?_)))) | (guard_target =~ SOp _ _ ⟨_, .call ⟨.value (.func 92), _, _⟩, _, _, _, some _⟩ _ _ _; first | (refine n_call (f := 92) rfl Try.call92 (h := AEq.pure' (by first | ((repeat' (first | exact trivial | (first | exact arg_lit | exact arg_sl id id | exact arg_nil | exact arg_sl (by simp) id | exact arg_sl (by simp) (fun _ => rfl) | exact arg_row_m (by rfl) (by rfl) (fun _ => rfl) | exact arg_vw_m (by rfl) (by rfl) (fun _ => rfl) | exact arg_rn (by rfl) (by rfl) | exact arg_junk | exact arg_row_mm (by rfl) (by rfl) (fun _ => rfl)) | refine ⟨?_, ?_⟩)); done) | fail) calive (hq := ?_))))) | (guard_target =~ (_ ∨ _) ∧ _; first | ((refine end_d [] (by rw [Try.results19, Lf.res1]) (ale_1 ?_) ?_) <;> (try (first | exact ale_eq (by with_reducible rfl) | exact ale_full | exact ale_sl (fun _ => rfl) | exact ale_sl (by simp) | exact ale_junk | exact ale_eq rfl | exact stq (by with_reducible rfl) | exact stq (by rfl) | exact stq (by simp (disch := omega) only [go_sem, seval, ↓reduceIte, hU]))))) | (refine hK _ _ ?_; clear hK K))
end Go.Proofs.Ytideijigonjohaa
