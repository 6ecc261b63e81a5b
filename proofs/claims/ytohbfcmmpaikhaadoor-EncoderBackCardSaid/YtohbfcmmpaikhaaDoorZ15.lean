import Derived.Test.YtohbfcmmpaikhaaDoorZ14
import Derived.Shelf.RegionOpenPlain
import Derived.WalkKit
import Derived.Deep.RegionLaw
import Derived.Lib.SliceRun
set_option linter.unusedVariables false
set_option linter.unusedSimpArgs false
namespace Go.Proofs.YtohbfcmmpaikhaaDoor
open Go Go.Lf Go.Proofs Go.RowKit
attribute [local irreducible] Lf.rg Lf.ro Lf.PWp Lf.SOp Lf.ACall Lf.Scoped Lf.dg
set_option maxRecDepth 20000
set_option maxHeartbeats 4000000
theorem step_app {P : Program} {ops : Array Oper} {o : Oper} {a : Act} {w : World} {K : Act → World → Prop} {Q : Exit → Act → World → Prop} {E : Prop}
    (hg : o.guard = none) (s x : Operand) (t : TypeId) (hop : o.op = Op.call { callee := Callee.builtin Builtin.append, args := #[s, x], argTypes := #[t, t] })
    (e : TypeId) (i : TypeInfo) (size : Nat) (h1 : P.underlying t = some (.slice e)) (h2 : P.info? e = some i) (h4 : i.size = size)
    (b n cap : Nat) (cur : Array Value) (hb : w.heap[b]? = some (.cells cur e (0, 0))) (hs : a.eval s = .slice (some ⟨b, 0, none⟩) n cap)
    (ad : Addr) (m c : Nat) (news : List Value) (hx : a.eval x = .slice (some ad) m c) (hn : news.length = m * size) (hc : ∀ j u, news[j]? = some u → w.cell? (ad.add j) = some u) (h1c : ∀ u ∈ news, u.oneCell' = true)
    (hroom : n + m ≤ cap) (hfit : n * size + news.length ≤ cur.size)
    (hK : K (a.put o.dst (.slice (some ⟨b, 0, none⟩) (n + m) cap)) (w.setRow b (cur.toList.take (n * size) ++ news ++ cur.toList.drop (n * size + news.length)).toArray)) :
    if Region.wanted o (yielded ops a.tmps) = true then Oper.wp P o a w K Q else E := by
  have hw : Region.wanted o (yielded ops a.tmps) = true := by simp [Region.wanted, hg]
  rw [if_pos hw]
  subst h4
  have hrun := run_append_room (P := P) w t o.type e i h1 h2 b n cap cur hb ad m c news hn hc h1c hroom hfit
  unfold Oper.wp
  simp [execOp, hop, resolve, invoke, builtin, hs, hx, hrun, Result.andThen]
  rw [List.append_assoc] at hK
  exact hK
theorem run_clear_k {P : Program} (w : World) (t e : TypeId) (z : Value) (sz : Nat) (ht : P.underlying t = some (.slice e)) (hv : ∀ w, (zeroValue e).run P w = .ok z w) (hz : z.cells.size = sz) (h1 : ∀ u ∈ z.cells.toList, u.oneCell' = true) (b o n c : Nat) (hn : 0 < n)
    (cur : Array Value) (hb : w.heap[b]? = some (.cells cur e (0, 0))) (hfit : o + n * sz ≤ cur.size) :
    ∃ zs : List Value, zs.length = n * sz ∧ ∀ ty, (Builtin.clear_ #[t] ty #[.slice (some ⟨b, o, none⟩) n c]).run P w = .ok (.tuple #[]) (w.setRow b (cur.toList.take o ++ zs ++ cur.toList.drop (o + n * sz)).toArray) := by
  have hl : (Builtin.zeroCells z.cells n).toList.length = n * sz := by rw [Array.length_toList, size_zeroCells, hz]
  refine ⟨(Builtin.zeroCells z.cells n).toList, hl, fun ty => ?_⟩
  have hst := run_storeCells_at (P := P) b o e (Builtin.zeroCells z.cells n).toList 0 cur w hb (by rw [hl]; omega) (by
    intro v hv'
    simp only [Builtin.zeroCells, Array.toList_map, List.mem_map] at hv'
    obtain ⟨j, _, rfl⟩ := hv'
    by_cases hj : j % z.cells.size < z.cells.size
    · rw [getElem!_pos z.cells _ hj]
      exact h1 _ (by simp)
    · rw [getElem!_neg z.cells _ hj]; rfl)
  rw [Nat.add_zero, hl] at hst
  obtain ⟨m, rfl⟩ : ∃ m, n = m + 1 := ⟨n - 1, by omega⟩
  simp [Builtin.clear_, run_underlying ht, hv, hst]
theorem heap_two (w : World) (b : Nat) (cur : Array Value) (e : TypeId) (hb : w.drew.heap[b]? = some (.cells cur e (0, 0))) (c X : Array Value) : ((w.drew.setRow b c).setRow b X).heap = (w.setRow b X).heap := by
 have hb' : w.heap[b]? = some (.cells cur e (0, 0)) := hb
 apply Array.ext_getElem?
 intro i
 by_cases h : b = i
 ·subst h
  rw [setRow_heap _ b c X e _ (setRow_heap w.drew b cur c e _ hb), setRow_heap w b cur X e _ hb']
 ·rw [setRow_other _ b i _ (Ne.symm h), setRow_other _ b i _ (Ne.symm h), setRow_other _ b i _ (Ne.symm h)]; rfl
theorem del_same (v : Value) (b : Option Addr) (n cap : Nat) (w : World) (hv : v = .slice b n cap) (hn : n ≤ cap) (hm : cap ≤ 9223372036854775807) :
    Calls Tryd.prog 114 #[.slice b n cap, .int .i64 0, .int .i64 0] w fun e w' => e = .returned (.slice b n cap) ∧ w' = w := by
  go_enter Tryd.func114, Tryd.ntmps114
  go_wp2
  all_goals (go_ret; exact ⟨rfl, rfl⟩)
theorem del_go (b n cap k : Nat) (cur : Array Value) (w : World) (hb : w.heap[b]? = some (.cells cur 67 (0, 0))) (hn : n ≤ cap) (hm : cap ≤ 9223372036854775807) (hk : k ≤ n) (hk0 : 0 < k) (hsz : cur.size = cap * 3) (hone : ∀ u ∈ (cur.toList.take (n * 3)).drop (k * 3), u.oneCell' = true) :
    Calls Tryd.prog 114 #[.slice (some ⟨b, 0, none⟩) n cap, .int .i64 0, .int .i64 k] w fun e w' => e = .returned (.slice (some ⟨b, 0, none⟩) (n - k) cap) ∧ w'.os = w.os ∧ w'.tape = w.tape ∧ w'.output = w.output ∧
      ∃ rest : List Value, w'.heap = (w.setRow b ((cur.toList.take (n * 3)).drop (k * 3) ++ rest).toArray).heap ∧ ((cur.toList.take (n * 3)).drop (k * 3) ++ rest).length = cap * 3 := by
  obtain ⟨i0, hi0, hz1⟩ : ∃ i, Tryd.prog.info? 67 = some i ∧ i.size = 3 := ⟨_, rfl, rfl⟩
  obtain ⟨news, hnews⟩ : ∃ news, news = (cur.toList.take (n * 3)).drop (k * 3) := ⟨_, rfl⟩
  rw [← hnews] at hone ⊢
  have hlen : news.length = (n - k) * 3 := by rw [hnews, List.length_drop, List.length_take, Array.length_toList, hsz]; omega
  have hget : ∀ j u, news[j]? = some u → cur[k * 3 + j]? = some u := by
    intro j u hu
    rw [hnews, List.getElem?_drop, List.getElem?_take] at hu
    split at hu
    · rw [← Array.getElem?_toList]; exact hu
    · cases hu
  obtain ⟨A, hA, hsrc⟩ : ∃ A : Addr, (if cap = k then some (⟨b, 0, none⟩ : Addr) else some ⟨b, k * 3, none⟩) = some A ∧ Hid (∀ j u, news[j]? = some u → w.drew.cell? (A.add j) = some u) := by
    by_cases h : cap = k
    · refine ⟨⟨b, 0, none⟩, by simp [h], fun j u hu => ?_⟩
      have h0 : news.length = 0 := by rw [hlen]; omega
      rw [List.length_eq_zero_iff.1 h0] at hu
      simp at hu
    · refine ⟨⟨b, k * 3, none⟩, by simp [h], fun j u hu => ?_⟩
      rw [Addr.add_lit]
      show (w.cell? ⟨b, k * 3 + j, none⟩) = some u
      have := hget j u hu
      simp [World.cell?, hb, this]
  have s1 : Hid (news.length = (n - k) * 3) := hlen
  have s2 : Hid (∀ u ∈ news, u.oneCell' = true) := hone
  have s3 : Hid (w.drew.heap[b]? = some (.cells cur 67 (0, 0))) := hb
  have s4 : Hid (0 * 3 + news.length ≤ cur.size) := by show 0 * 3 + news.length ≤ cur.size; rw [hlen, hsz]; omega
  obtain ⟨c1, hc1⟩ : ∃ c1, c1 = cur.toList.take (0 * 3) ++ news ++ cur.toList.drop (0 * 3 + news.length) := ⟨_, rfl⟩
  have hc1l : c1.length = cap * 3 := by rw [hc1]; simp [hlen, hsz]; omega
  obtain ⟨W1, hW1⟩ : ∃ W1, W1 = w.drew.setRow b c1.toArray := ⟨_, rfl⟩
  have hH1 : W1.heap[b]? = some (.cells c1.toArray 67 (0, 0)) := by rw [hW1]; exact setRow_heap w.drew b cur c1.toArray _ _ hb
  have hcl : ∃ zs : List Value, zs.length = k * 3 ∧ ∀ ty, (Builtin.clear_ #[50] ty #[.slice (some ⟨b, (n - k) * 3, none⟩) k (cap - (n - k))]).run Tryd.prog W1 = .ok (.tuple #[]) (W1.setRow b (c1.take ((n - k) * 3) ++ zs ++ c1.drop ((n - k) * 3 + k * 3)).toArray) := by
    exact run_clear_k (P := Tryd.prog) W1 50 67 _ 3 Tryd.underlying50 Tryd.zeroValue67 rfl (by decide) b ((n - k) * 3) k (cap - (n - k)) hk0 c1.toArray hH1 (by simp [hc1l]; omega)
  obtain ⟨zs, hzl, hcl0⟩ := hcl
  have hcl : ∀ ty, (Builtin.clear_ #[50] ty #[.slice (some ⟨b, (n - k) * 3, none⟩) (n - (n - k)) (cap - (n - k))]).run Tryd.prog W1 = .ok (.tuple #[]) (W1.setRow b (c1.take ((n - k) * 3) ++ zs ++ c1.drop ((n - k) * 3 + k * 3)).toArray) := by
    intro ty
    rw [show n - (n - k) = k by omega]
    exact hcl0 ty
  clear hcl0
  have hW : Hid (W1 = w.drew.setRow b c1.toArray) := hW1
  have C1 : Hid (c1 = cur.toList.take (0 * 3) ++ news ++ cur.toList.drop (0 * 3 + news.length)) := hc1
  have H1 : Hid (W1.heap[b]? = some (.cells c1.toArray 67 (0, 0))) := hH1
  have L1 : Hid (c1.length = cap * 3) := hc1l
  have hkc : k ≤ cap := by omega
  have hk0' : ¬ (0 = k) := by omega
  have hkn : n - k ≤ n := by omega
  have hkn2 : n - k ≤ cap := by omega
  have Z : Hid (zs.length = k * 3) := hzl
  clear hW1 hc1 hH1 hc1l hzl hget hnews hlen hone hb hsz
  go_enter Tryd.func114, Tryd.ntmps114
  go_wp2_with fail
  go_region_law (refine step_app rfl (.tmp 22) (.tmp 25) 50 rfl 67 i0 3 Tryd.underlying50 hi0 hz1 b 0 cap cur s3.out (by simp [Act.eval, Act.put]) A (n - k) (cap - k) news (by simp [Act.eval, Act.put]) s1.out hsrc.out s2.out (by omega) s4.out ?_; rw [← C1.out, ← hW.out])
  go_wp2
  go_ret
  have ht : c1.take ((n - k) * 3) = news := by
    rw [C1.out, Nat.zero_mul, List.take_zero, List.nil_append, ← s1.out, List.take_left]
  rw [ht, hW.out]
  refine ⟨rfl, rfl, rfl, rfl, zs ++ c1.drop ((n - k) * 3 + k * 3), heap_two w b cur _ s3.out _ _, ?_⟩
  rw [List.length_append, List.length_append, List.length_drop, L1.out, Z.out, s1.out]
  omega
theorem fit_take (cap n : Nat) (vs sp : List Value) (h : vs.length = n * 3) (k : Nat) : ((vs ++ sp).toArray.toList.take (n * 3)).drop (k * 3) = vs.drop (k * 3) := by
 rw [← h, List.take_left]
theorem del_f (xs : List Fl) (s k : Nat) (h : k ≤ xs.length) : AEq Tryd.prog 114 [.row 0 s, i64 0, i64 k] [.row s 67 3 (xs.map flA)] (.row 0 (s + 1)) [.row (s + 1) 67 3 ((xs.drop k).map flA)] := by
  unfold AEq ACall
  intro ρ w vs hr hG hv
  match vs, hv with
  | [v0, v1, v2], hv =>
  simp only [VRl, VR, and_true] at hv
  obtain ⟨⟨_, hv0⟩, rfl, rfl⟩ := hv
  have hv0 := (hv0 s 67 3 (xs.map flA) rfl).2 rfl
  subst hv0
  obtain ⟨h0, h00, hO⟩ := hr.obj 0 _ rfl
  have hll := h0
  have all : ∀ q ∈ (xs.drop k).map flA, q.length = 3 := by intro q hq; simp only [List.mem_map] at hq; obtain ⟨_, _, rfl⟩ := hq; rfl
  have fin : ∀ (v' : Value) (w' : World), w'.os = w.os → w'.tape = w.tape → w'.output = w.output → w.heap.size ≤ w'.heap.size →
      (∀ b, b < w.heap.size → blk (ρ 0) ≠ some b → w'.heap[b]? = w.heap[b]?) → (∀ b, blk v' = some b → blk (ρ 0) = some b ∨ w.heap.size ≤ b) →
      (((∃ ad, v' = .slice ad 0 0) ∧ (xs.drop k).map flA = []) ∨ ∃ b cap, ∃ us sp : List Value, v' = .slice (some ⟨b, 0, none⟩) ((xs.drop k).map flA).length cap ∧ w'.heap[b]? = some (.cells (us ++ sp).toArray 67 (0, 0)) ∧ ((xs.drop k).map flA).length ≤ cap ∧ (0 < cap ∧ cap ≤ maxLen) ∧ (us ++ sp).length = cap * 3 ∧ (∀ u ∈ us, u.oneCell' = true) ∧ VRl [.row s 67 3 (xs.map flA)] ρ w ((xs.drop k).map flA).flatten us) →
      ∃ r σ' ρ' v, Ending.returned v' = .returned v ∧ (r = AV.row 0 (s + 1) ∧ σ' = [Ob.row (s + 1) 67 3 ((xs.drop k).map flA)]) ∧ Rel σ' ρ' w' ∧ VR σ' ρ' w' r v ∧ Step 1 [.row s 67 3 (xs.map flA)] ρ w σ' ρ' w' := by
    intro v' w' os tp ou hsz hk hbl hrow
    have hs : [Ob.row s 67 3 (xs.map flA)][0]? = some (Ob.row s 67 3 (xs.map flA)) := rfl
    have hobj : ObjStep (some (Ob.row s 67 3 (xs.map flA))) (some (Ob.row (s + 1) 67 3 ((xs.drop k).map flA))) (ρ 0) v' := by simp only [ObjStep, true_and]; omega
    have st := step_set (σ := [Ob.row s 67 3 (xs.map flA)]) (ρ := ρ) (w := w) (w' := w') (r := v') hs rfl hobj os tp ou hsz hk (fun b _ => hbl b)
    refine ⟨_, _, upd ρ 0 v', v', rfl, ⟨rfl, rfl⟩, rel_set (σ := [Ob.row s 67 3 (xs.map flA)]) hr hs rfl hobj os tp ou hsz hk (fun b _ => hbl b) ⟨all, h00, ?_⟩, ?_, st⟩
    · rcases hrow with h | ⟨b, cap, us, sp, k1, k2, k3, k4, k5, k6, k7⟩
      · exact .inl h
      · exact .inr ⟨b, cap, us, sp, k1, k2, k3, k4, k5, k6, VRl.carry st _ _ k7⟩
    · simp only [VR]
      refine ⟨by simp, fun s' e' sz' xs' hs' => ?_⟩
      simp at hs'
      obtain ⟨rfl, _⟩ := hs'
      exact ⟨Nat.le_refl _, fun _ => by rw [upd_same]⟩
  rcases hO with ⟨⟨ad, hO⟩, hx⟩ | ⟨b, cap, us, sp, hb', hh, hle, hm, hc, hone, hl⟩
  · have hx : xs = [] := by simpa using hx
    subst hx
    obtain rfl : k = 0 := by simpa using h
    rw [hO]
    refine (del_same _ ad 0 0 w rfl (Nat.le_refl _) (by omega)).mono ?_
    rintro e w' ⟨rfl, rfl⟩
    exact fin _ _ rfl rfl rfl (Nat.le_refl _) (fun _ _ _ => rfl) (fun b hb => by cases ad <;> simp [blk] at hb) (.inl ⟨⟨ad, rfl⟩, rfl⟩)
  · have hlu := VRl_len _ _ hl
    rw [flat_len h0, List.length_map] at hlu
    rw [List.length_map] at hb' hle
    have hmx : cap ≤ 9223372036854775807 := by have := hm.2; unfold maxLen at this; omega
    have hflat : ((xs.drop k).map flA).flatten = ((xs.map flA).flatten).drop (k * 3) := by
      have := List.take_append_drop k xs
      conv => rhs; rw [← this]
      rw [List.map_append, List.flatten_append]
      have hlt : ((xs.take k).map flA).flatten.length = k * 3 := by rw [flat_len (sz := 3) (by intro q hq; simp only [List.mem_map] at hq; obtain ⟨_, _, rfl⟩ := hq; rfl), List.length_map, List.length_take]; congr 1; omega
      rw [← hlt, List.drop_left]
    by_cases hk0 : k = 0
    · subst hk0
      rw [hb']
      refine (del_same _ (some ⟨b, 0, none⟩) xs.length cap w rfl hle hmx).mono ?_
      rintro e w' ⟨rfl, rfl⟩
      exact fin _ _ rfl rfl rfl (Nat.le_refl _) (fun _ _ _ => rfl) (fun c hc => .inl (by rw [hb']; exact hc)) (.inr ⟨b, cap, us, sp, by rw [List.length_map, List.drop_zero], hh, by rw [List.length_map, List.drop_zero]; exact hle, hm, hc, hone, by rw [List.drop_zero]; exact hl⟩)
    · rw [hb']
      refine (del_go b xs.length cap k (us ++ sp).toArray w hh hle hmx h (by omega) (by simpa using hc) (by rw [fit_take cap xs.length us sp hlu.symm]; intro u hu; exact hone u (List.mem_of_mem_drop hu))).mono ?_
      rintro e w' ⟨rfl, os, tp, ou, rest, hhp, hrl⟩
      rw [fit_take cap xs.length us sp hlu.symm] at hhp hrl
      have hsz : w'.heap.size = w.heap.size := by rw [hhp]; simp
      refine fin _ _ os tp ou (by omega) (fun c _ hne => ?_) (fun c hc => .inl (by rw [hb']; exact hc)) (.inr ⟨b, cap, us.drop (k * 3), rest, by rw [List.length_map, List.length_drop], ?_, by rw [List.length_map, List.length_drop]; omega, hm, hrl, fun u hu => hone u (List.mem_of_mem_drop hu), by rw [hflat]; exact VRl_drop _ _ _ hl⟩)
      · rw [hhp]
        exact setRow_other w b c _ (fun e => hne (by rw [hb', e]; simp [blk]; omega))
      · rw [hhp]
        exact setRow_heap w b _ _ _ _ hh
end Go.Proofs.YtohbfcmmpaikhaaDoor

