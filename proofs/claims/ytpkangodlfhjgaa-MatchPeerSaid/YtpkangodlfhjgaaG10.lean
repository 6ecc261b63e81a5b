import Derived.Test.YtpkangodlfhjgaaLc
import Derived.Lib.AppendZerosOnto
set_option linter.unusedVariables false
set_option linter.unusedSimpArgs false
namespace Go.Lf
open Go
section az
variable {P : Program} {w : World}
theorem zeroCells_list (z : Array Value) (hz : 0 < z.size) (n : Nat) : (Builtin.zeroCells z n).toList = (List.replicate n z.toList).flatten := madeCells_list z hz n
theorem run_append_none (t tn ty e : TypeId) (i : TypeInfo) (kq kn : IntKind) (ht : P.underlying t = some (.slice e)) (htn : P.underlying tn = some (.int kn)) (hi : P.info? e = some i)
    (base : Option Addr) (sLen sCap : Nat) (hle : sLen ≤ sCap) :
    (Builtin.append_ #[t, tn] ty #[.slice base sLen sCap, .int kq 0]).run P w = .ok (.slice base sLen sCap) w := by
  have hw : IntKind.i64.wrap (0 : Int) = 0 := by rw [IntKind.wrap_i64]; omega
  cases base <;> simp [Builtin.append_, run_underlying ht, run_underlying htn, sizeOf, typeInfo, hi, asInt, asIntOf, hw, hle, storeCells]
theorem run_append_room_zeros (t tn ty e : TypeId) (i : TypeInfo) (z : Value) (kq kn : IntKind) (ht : P.underlying t = some (.slice e)) (htn : P.underlying tn = some (.int kn)) (hi : P.info? e = some i) (hz : i.zero = some z)
    (g sLen sCap : Nat) (cur : Array Value) (hg : w.heap[g]? = some (.cells cur e (0, 0)))
    (k : Nat) (h0 : 0 < k) (hs : 0 < i.size) (hzp : 0 < z.cells.size) (h63 : (k : Int) ≤ 9223372036854775807) (h48 : k * i.bytes ≤ 281474976710656) (h1 : ∀ u ∈ (List.replicate k z.cells.toList).flatten, u.oneCell' = true)
    (hroom : sLen + k ≤ sCap) (hfit : sLen * i.size + ((List.replicate k z.cells.toList).flatten).length ≤ cur.size) :
    (Builtin.append_ #[t, tn] ty #[.slice (some ⟨g, 0, none⟩) sLen sCap, .int kq k]).run P w =
      .ok (.slice (some ⟨g, 0, none⟩) (sLen + k) sCap) (w.setRow g (cur.toList.take (sLen * i.size) ++ (List.replicate k z.cells.toList).flatten ++ cur.toList.drop (sLen * i.size + ((List.replicate k z.cells.toList).flatten).length)).toArray) := by
  have hk : k ≠ 0 := by omega
  have hw : IntKind.i64.wrap (k : Int) = k := by rw [IntKind.wrap_i64]; omega
  have h48i : ¬ (281474976710656 < (k : Int) * (i.bytes : Int)) := by
    rw [← Int.natCast_mul]
    omega
  have hneg : ¬ ((k : Int) < 0) := by omega
  have hns : ¬ (k * i.size = 0) := Nat.mul_ne_zero hk (by omega)
  have hst := run_storeCells_at P g (sLen * i.size) e ((List.replicate k z.cells.toList).flatten) 0 cur w hg (by simpa using hfit) h1
  simp only [Nat.add_zero] at hst
  simp [Builtin.append_, run_underlying ht, run_underlying htn, sizeOf, typeInfo, zeroValue, hi, hz, asInt, asIntOf, hw, hneg, hns, h48i, hroom, zeroCells_list _ hzp, Addr.add_lit, hst]
end az
theorem exec_append_n {P : Program} {o : Oper} {a : Act} {w w' : World} {x y : Operand} {t tn : TypeId} {v : Value} (ho : o.op = .call { callee := .builtin .append, args := #[x, y], argTypes := #[t, tn] })
    (h : (Builtin.append_ #[t, tn] o.type #[a.eval x, a.eval y]).run P w = .ok v w') : (execOp a.eval o).run P w = .ok (.value v) w' := by
  simp [execOp, ho, resolve, invoke, builtin, h]
theorem sop_append_zeros {P : Program} {N : Nat} {o : Oper} {Γ : Env} {σ : Sto} {K : AV → Sto → Prop} {x y : Operand} {t tn e sz bt : Nat} {z : Value} {oo s : Nat} {xs : List (List AV)} {k kn : IntKind} {c : Int}
    (ho : o.op = .call { callee := .builtin .append, args := #[x, y], argTypes := #[t, tn] }) (ht : P.underlying t = some (.slice e)) (htn : P.underlying tn = some (.int kn)) (he : EO P e sz bt z)
    (hx : ev Γ x = .row oo s) (hs : σ[oo]? = some (.row s e sz xs)) (hy : ev Γ y = .lit (.int k c)) (h0c : 0 ≤ c) (hz1 : z.cells.toList.all (fun v => v.oneCell') = true) (hb : (xs.length + c.toNat) * bt ≤ 140737488355328) (h63 : xs.length + c.toNat ≤ maxLen)
    (hK : K (.row oo (s + 1)) (σ.set oo (.row (s + 1) e sz (xs ++ List.replicate c.toNat (z.cells.toList.map alit))))) : SOp P N o Γ σ K := by
  obtain ⟨n, rfl⟩ : ∃ n : Nat, c = n := ⟨c.toNat, by omega⟩
  simp only [Int.toNat_natCast] at hb h63 hK
  obtain ⟨ys, hyse⟩ : ∃ ys, ys = List.replicate n (z.cells.toList.map alit) := ⟨_, rfl⟩
  obtain ⟨vy, hvy⟩ : ∃ vy, vy = (List.replicate n z.cells.toList).flatten := ⟨_, rfl⟩
  rw [← hyse] at hK
  intro ρ w a next Q hf hr hn
  have ey : a.eval y = .int k n := hf.lit hy
  obtain ⟨i, hi, hz, hi1, hi2⟩ := he.parts
  have hzs := he.2.1
  have hpos := he.2.2
  have hyl : ys.length = n := by rw [hyse, List.length_replicate]
  have hys : ∀ y ∈ ys, y.length = sz := by
    intro y hy; rw [hyse, List.mem_replicate] at hy; rw [hy.2]; simpa using hzs
  have hly := flat_len hys
  have Vy : VRl σ ρ w ys.flatten vy := by rw [hyse, hvy]; exact VRl_rep _ _
  have hlv := VRl_len _ _ Vy
  have oy : ∀ u ∈ vy, u.oneCell' = true := by
    intro v hv
    rw [hvy] at hv
    simp only [List.mem_flatten, List.mem_replicate] at hv
    obtain ⟨q, ⟨_, rfl⟩, hv⟩ := hv
    exact (List.all_eq_true.1 hz1) v hv
  have hX := hf.ev x
  rw [hx] at hX
  simp only [VR] at hX
  have hv := (hX.2 _ _ _ _ hs).2 rfl
  have hlt := hX.1
  obtain ⟨h0, h00, hO⟩ := hr.obj _ _ hs
  have hlx := flat_len h0
  have all : ∀ q ∈ xs ++ ys, q.length = sz := by intro q hq; simp only [List.mem_append] at hq; exact hq.elim (h0 q) (hys q)
  have fin : ∀ (v' : Value) (w' : World), (Builtin.append_ #[t, tn] o.type #[a.eval x, a.eval y]).run P w = .ok v' w' → w'.os = w.os → w'.tape = w.tape → w'.output = w.output → w.heap.size ≤ w'.heap.size →
      (∀ b, b < w.heap.size → blk (ρ oo) ≠ some b → w'.heap[b]? = w.heap[b]?) → (∀ b, blk v' = some b → blk (ρ oo) = some b ∨ w.heap.size ≤ b) →
      (((∃ ad, v' = .slice ad 0 0) ∧ xs ++ ys = []) ∨ ∃ b cap, ∃ vs sp : List Value, v' = .slice (some ⟨b, 0, none⟩) (xs ++ ys).length cap ∧ w'.heap[b]? = some (.cells (vs ++ sp).toArray e (0, 0)) ∧ (xs ++ ys).length ≤ cap ∧ (0 < cap ∧ cap ≤ maxLen) ∧ (vs ++ sp).length = cap * sz ∧ (∀ v ∈ vs, v.oneCell' = true) ∧ VRl σ ρ w (xs ++ ys).flatten vs) →
      (execOp a.eval o).run P w = .ok (.value v') w' ∧ ∃ ρ', Rel (σ.set oo (.row (s + 1) e sz (xs ++ ys))) ρ' w' ∧ VR (σ.set oo (.row (s + 1) e sz (xs ++ ys))) ρ' w' (.row oo (s + 1)) v' ∧ Step σ.length σ ρ w (σ.set oo (.row (s + 1) e sz (xs ++ ys))) ρ' w' := by
    intro v' w' hrun os tp ou hsz hk hbl hrow
    refine ⟨exec_append_n ho hrun, upd ρ oo v', ?_⟩
    have hobj : ObjStep (some (.row s e sz xs)) (some (.row (s + 1) e sz (xs ++ ys))) (ρ oo) v' := by simp only [ObjStep, true_and]; omega
    have st := step_set (σ := σ) (ρ := ρ) (w := w) (w' := w') (r := v') hs rfl hobj os tp ou hsz hk (fun b _ => hbl b)
    refine ⟨rel_set hr hs rfl hobj os tp ou hsz hk (fun b _ => hbl b) ⟨all, h00, ?_⟩, ?_, st⟩
    · rcases hrow with h | ⟨b, cap, vs, sp, k1, k2, k3, k4, k5, k6, k7⟩
      · exact .inl h
      · exact .inr ⟨b, cap, vs, sp, k1, k2, k3, k4, k5, k6, VRl.carry st _ _ k7⟩
    · simp only [VR, List.length_set]
      refine ⟨hlt, fun s' e' sz' xs' hs' => ?_⟩
      rw [List.getElem?_set_self hlt] at hs'
      simp at hs'
      obtain ⟨rfl, _⟩ := hs'
      exact ⟨Nat.le_refl _, fun _ => by rw [upd_same]⟩
  have done : ∀ v' w', ((execOp a.eval o).run P w = .ok (.value v') w' ∧ ∃ ρ', Rel (σ.set oo (.row (s + 1) e sz (xs ++ ys))) ρ' w' ∧ VR (σ.set oo (.row (s + 1) e sz (xs ++ ys))) ρ' w' (.row oo (s + 1)) v' ∧ Step σ.length σ ρ w (σ.set oo (.row (s + 1) e sz (xs ++ ys))) ρ' w') → o.wp P a w next Q := by
    rintro v' w' ⟨h1, ρ', h2, h3, h4⟩
    unfold Oper.wp
    rw [h1, Oper.upon_value]
    exact hn _ _ _ _ _ hK h2 h3 h4
  by_cases hn0 : n = 0
  · subst hn0
    have hy0 : ys = [] := List.eq_nil_of_length_eq_zero hyl
    subst hy0
    rcases hO with ⟨⟨ad, hO⟩, rfl⟩ | ⟨b, cap, vs, sp, hb', hh, hle, hm, hc, hone, hl⟩
    · refine done _ _ (fin (.slice ad 0 0) w ?_ rfl rfl rfl (Nat.le_refl _) (fun _ _ _ => rfl) (by cases ad <;> simp [blk]) (.inl ⟨⟨ad, rfl⟩, rfl⟩))
      rw [hv, hO, ey]
      exact run_append_none t tn _ e i k kn ht htn hi ad 0 0 (Nat.le_refl _)
    · refine done _ _ (fin (.slice (some ⟨b, 0, none⟩) xs.length cap) w ?_ rfl rfl rfl (Nat.le_refl _) (fun _ _ _ => rfl) (fun c hc => .inl (by rw [hb']; exact hc)) (.inr ⟨b, cap, vs, sp, by simp, hh, by simpa using hle, hm, hc, hone, by simpa using hl⟩))
      rw [hv, hb', ey]
      exact run_append_none t tn _ e i k kn ht htn hi _ _ _ hle
  · have hp : 0 < n := by omega
    have hbn : n * i.bytes ≤ 140737488355328 := by
      rw [hi2]; exact Nat.le_trans (Nat.mul_le_mul_right _ (Nat.le_add_left _ _)) hb
    have hb2 : (xs.length + n) * i.bytes ≤ 140737488355328 := by rw [hi2]; exact hb
    have hspos : 0 < i.size := by rw [hi1]; exact hpos
    have grow : ∀ ax cx (vx : List Value), a.eval x = .slice ax xs.length cx → xs.length ≤ cx → vx.length = xs.length * sz → (Builtin.firstCells i.size xs.length (.slice ax xs.length cx)).run P w.drew = .ok vx.toArray w.drew → (∀ u ∈ vx, u.oneCell' = true) → VRl σ ρ w xs.flatten vx → cx < xs.length + n → o.wp P a w next Q := by
      intro ax cx vx ex lx hl1 hfc ox Vx gx
      have hlvx := VRl_len _ _ Vx
      have h63' : ((xs.length + n : Nat) : Int) ≤ 9223372036854775807 := by simp only [maxLen] at h63; omega
      have hrun := Go.Lib.run_append_grow_zeros (P := P) w t tn o.type e i z k kn ht htn hi hz ax xs.length cx vx hfc n hp hspos gx h63' (by omega) (growslice_fits gx hb2)
      have hg1 := grownCap_ge w (xs.length + n) cx e
      have hg2 := grownCap_le_maxLen w (xs.length + n) cx e h63
      have hcl : (vx.toArray ++ Builtin.zeroCells z.cells n ++ Builtin.zeroCells z.cells (grownCap w (xs.length + n) cx e - (xs.length + n))) = (vx ++ vy ++ (Builtin.zeroCells z.cells (grownCap w (xs.length + n) cx e - (xs.length + n))).toList).toArray := by
        apply Array.ext'
        simp [zeroCells_list _ (show 0 < z.cells.size by rw [hzs]; exact hpos), hvy]
      rw [hcl] at hrun
      refine done _ _ (fin (.slice (some ⟨w.heap.size, 0, none⟩) (xs.length + n) (grownCap w (xs.length + n) cx e)) (w.drew.alloc (.cells (vx ++ vy ++ (Builtin.zeroCells z.cells (grownCap w (xs.length + n) cx e - (xs.length + n))).toList).toArray e)) (by rw [ex, ey]; exact hrun) rfl rfl rfl (by simp) (fun c hc _ => heap_alloc_old w.drew _ c hc) (fun c hc => .inr (by simp [blk] at hc; omega))
        (.inr ⟨w.heap.size, grownCap w (xs.length + n) cx e, vx ++ vy, (Builtin.zeroCells z.cells (grownCap w (xs.length + n) cx e - (xs.length + n))).toList, by simp [hyl], heap_alloc_new w.drew _, by simpa [hyl] using hg1, ⟨by omega, hg2⟩, ?_, (by intro u hu; simp only [List.mem_append] at hu; exact hu.elim (ox u) (oy u)), by rw [List.flatten_append]; exact VRl_app _ _ _ _ Vx Vy⟩))
      have hz3 : (Builtin.zeroCells z.cells (grownCap w (xs.length + n) cx e - (xs.length + n))).toList.length = (grownCap w (xs.length + n) cx e - (xs.length + n)) * sz := by rw [Array.length_toList, size_zeroCells, hzs]
      rw [List.length_append, List.length_append, hl1, ← hlv, hly, hyl, hz3, ← Nat.add_mul, ← Nat.add_mul]
      congr 1; omega
    rcases hO with ⟨⟨ad, hO⟩, rfl⟩ | ⟨b, cap, vs, sp, hb', hh, hle, hm, hc, hone, hl⟩
    · refine grow ad 0 [] (by rw [hv, hO]; rfl) (by simp) (by simp) ?_ (by simp) (by simp [VRl]) (by simpa using hp)
      cases ad <;> simp [Builtin.firstCells, loadCells, loadCellsFrom]
    · by_cases hroom : xs.length + n ≤ cap
      · have hlvs := VRl_len _ _ hl
        have hfit : xs.length * i.size + vy.length ≤ (vs ++ sp).toArray.size := by
          rw [hi1]
          simp only [List.size_toArray, hc]
          rw [← hlv, hly, hyl, ← Nat.add_mul]
          exact Nat.mul_le_mul_right _ hroom
        have hrun := run_append_room_zeros (P := P) (w := w) t tn o.type e i z k kn ht htn hi hz b xs.length cap (vs ++ sp).toArray hh n hp hspos (by rw [hzs]; exact hpos) (by simp only [maxLen] at h63; omega) (by omega) (by rw [← hvy]; exact oy) hroom (by rw [← hvy]; exact hfit)
        rw [← hvy] at hrun
        refine done _ _ (fin (.slice (some ⟨b, 0, none⟩) (xs.length + n) cap) (w.setRow b ((vs ++ sp).toArray.toList.take (xs.length * i.size) ++ vy ++ (vs ++ sp).toArray.toList.drop (xs.length * i.size + vy.length)).toArray) (by rw [hv, hb', ey]; exact hrun) rfl rfl rfl (by simp) (fun c hc hne => setRow_other w b c _ (fun e => hne (by rw [hb', e]; simp [blk]; omega))) (fun c hc => .inl (by rw [hb']; simp [blk] at hc ⊢; omega))
          (.inr ⟨b, cap, vs ++ vy, (sp.drop vy.length), by simp [hyl], ?_, by simpa [hyl] using hroom, hm, ?_, (by intro u hu; simp only [List.mem_append] at hu; exact hu.elim (hone u) (oy u)), by rw [List.flatten_append]; exact VRl_app _ _ _ _ hl Vy⟩))
        · rw [setRow_heap w b _ _ e _ hh]
          have e1 : xs.length * i.size = vs.length := by rw [hi1]; omega
          simp only [e1, List.take_left]
          congr 3
          rw [List.drop_append]
          simp
        · have := hc
          simp only [List.length_append, List.length_drop] at this ⊢
          have : ys.length * sz + vs.length ≤ cap * sz := by
            rw [← hlvs, hlx, ← Nat.add_mul]; exact Nat.mul_le_mul_right _ (by omega)
          omega
      · refine grow (some ⟨b, 0, none⟩) cap vs (by rw [hv, hb']) hle (by rw [← VRl_len _ _ hl, hlx]) ?_ hone hl (by omega)
        exact run_firstCells_some (P := P) w.drew i.size xs.length ⟨b, 0, none⟩ xs.length cap vs (by rw [hi1, ← VRl_len _ _ hl, hlx]) (fun j u hj => by
          have := cells_of_block hh j u (by rw [List.getElem?_append_left (List.getElem?_eq_some_iff.1 hj).1]; exact hj)
          simpa using this)
theorem n_append_zeros {P : Program} {N : Nat} {o : Oper} {Γ : Env} {σ σ2 : Sto} {K : AV → Sto → Prop} {x y : Operand} {t tn e sz bt : Nat} {z : Value} {oo s : Nat} {xs xs2 : List (List AV)} {zs : List AV} {k kn : IntKind} {c : Int}
    (ho : o.op = .call { callee := .builtin .append, args := #[x, y], argTypes := #[t, tn] }) (ht : P.underlying t = some (.slice e)) (htn : P.underlying tn = some (.int kn)) (he : EO P e sz bt z)
    (hx : ev Γ x = .row oo s) (hs : σ[oo]? = some (.row s e sz xs)) (hy : ev Γ y = .lit (.int k c)) (h0c : 0 ≤ c) (hz1 : z.cells.toList.all (fun v => v.oneCell') = true) (hb : (xs.length + c.toNat) * bt ≤ 140737488355328) (h63 : xs.length + c.toNat ≤ 9223372036854775807)
    (hz : z.cells.toList.map alit = zs) (hxs : xs ++ List.replicate c.toNat zs = xs2) (hσ : σ.set oo (.row (s + 1) e sz xs2) = σ2) (hK : K (.row oo (s + 1)) σ2) : SOp P N o Γ σ K := by
  subst hz; subst hxs; subst hσ
  exact sop_append_zeros ho ht htn he hx hs hy h0c hz1 hb h63 hK
end Go.Lf
