import Derived.Test.YtohbfcmmpaikhaaDoorZ02
import Derived.Shelf.RegionOpenPlain
import Derived.WalkKit
import Derived.Deep.RegionLaw
import Derived.Lib.SliceRun
import Derived.Test.YtohbfcmmpaikhaaDoorLc
import Derived.Test.YtohbfcmmpaikhaaDoorZ01
import Derived.KernelRfl
set_option linter.unusedVariables false
set_option linter.unusedSimpArgs false
namespace Go.Proofs.YtohbfcmmpaikhaaDoor
open Go Go.Lf Go.Proofs Go.RowKit
attribute [local irreducible] Lf.rg Lf.ro Lf.PWp Lf.SOp Lf.ACall Lf.Scoped Lf.dg
set_option maxRecDepth 20000
set_option maxHeartbeats 4000000
theorem step_app {P : Program} {ops : Array Oper} {o : Oper} {a : Act} {w : World} {K : Act → World → Prop} {Q : Exit → Act → World → Prop} {E : Prop}
    (hg : o.guard = none) (s x : Operand) (t : TypeId) (hop : o.op = Op.call { callee := Callee.builtin Builtin.append, args := #[s, x], argTypes := #[t, t] })
    (e : TypeId) (i : TypeInfo) (size : Nat) (h1 : P.underlying t = some (.slice e)) (h2 : P.info? e = some i) (h4 : i.size = size)
    (b n cap : Nat) (cur : Array Value) (hb : w.heap[b]? = some (.cells cur e (0, 0))) (hs : a.eval s = .slice (some ⟨b, 0, none⟩) n cap)
    (ad : Addr) (m c : Nat) (news : List Value) (hx : a.eval x = .slice (some ad) m c) (hn : news.length = m * size) (hc : ∀ j u, news[j]? = some u → w.cell? (ad.add j) = some u) (h1c : ∀ u ∈ news, u.oneCell' = true)
    (hroom : n + m ≤ cap) (hfit : n * size + news.length ≤ cur.size)
    (hK : K (a.put o.dst (.slice (some ⟨b, 0, none⟩) (n + m) cap)) (w.setRow b (cur.toList.take (n * size) ++ news ++ cur.toList.drop (n * size + news.length)).toArray)) :
    if Region.wanted o (yielded ops a.tmps) = true then Oper.wp P o a w K Q else E := by
  have hw : Region.wanted o (yielded ops a.tmps) = true := by simp [Region.wanted, hg]
  rw [if_pos hw]
  subst h4
  have hrun := run_append_room (P := P) w t o.type e i h1 h2 b n cap cur hb ad m c news hn hc h1c hroom hfit
  unfold Oper.wp
  simp [execOp, hop, resolve, invoke, builtin, hs, hx, hrun, Result.andThen]
  rw [List.append_assoc] at hK
  exact hK
theorem run_clear_k {P : Program} (w : World) (t e : TypeId) (z : Value) (sz : Nat) (ht : P.underlying t = some (.slice e)) (hv : ∀ w, (zeroValue e).run P w = .ok z w) (hz : z.cells.size = sz) (h1 : ∀ u ∈ z.cells.toList, u.oneCell' = true) (b o n c : Nat) (hn : 0 < n)
    (cur : Array Value) (hb : w.heap[b]? = some (.cells cur e (0, 0))) (hfit : o + n * sz ≤ cur.size) :
    ∃ zs : List Value, zs.length = n * sz ∧ ∀ ty, (Builtin.clear_ #[t] ty #[.slice (some ⟨b, o, none⟩) n c]).run P w = .ok (.tuple #[]) (w.setRow b (cur.toList.take o ++ zs ++ cur.toList.drop (o + n * sz)).toArray) := by
  have hl : (Builtin.zeroCells z.cells n).toList.length = n * sz := by rw [Array.length_toList, size_zeroCells, hz]
  refine ⟨(Builtin.zeroCells z.cells n).toList, hl, fun ty => ?_⟩
  have hst := run_storeCells_at (P := P) b o e (Builtin.zeroCells z.cells n).toList 0 cur w hb (by rw [hl]; omega) (by
    intro v hv'
    simp only [Builtin.zeroCells, Array.toList_map, List.mem_map] at hv'
    obtain ⟨j, _, rfl⟩ := hv'
    by_cases hj : j % z.cells.size < z.cells.size
    · rw [getElem!_pos z.cells _ hj]
      exact h1 _ (by simp)
    · rw [getElem!_neg z.cells _ hj]; rfl)
  rw [Nat.add_zero, hl] at hst
  obtain ⟨m, rfl⟩ : ∃ m, n = m + 1 := ⟨n - 1, by omega⟩
  simp [Builtin.clear_, run_underlying ht, hv, hst]
theorem heap_two (w : World) (b : Nat) (cur : Array Value) (e : TypeId) (hb : w.drew.heap[b]? = some (.cells cur e (0, 0))) (c X : Array Value) : ((w.drew.setRow b c).setRow b X).heap = (w.setRow b X).heap := by
  have hb' : w.heap[b]? = some (.cells cur e (0, 0)) := hb
  apply Array.ext_getElem?
  intro i
  by_cases h : b = i
  · subst h
    rw [setRow_heap _ b c X e _ (setRow_heap w.drew b cur c e _ hb), setRow_heap w b cur X e _ hb']
  · rw [setRow_other _ b i _ (Ne.symm h), setRow_other _ b i _ (Ne.symm h), setRow_other _ b i _ (Ne.symm h)]; rfl
theorem del_same (v : Value) (b : Option Addr) (n cap : Nat) (w : World) (hv : v = .slice b n cap) (hn : n ≤ cap) (hm : cap ≤ 9223372036854775807) :
    Calls Tryd.prog 114 #[.slice b n cap, .int .i64 0, .int .i64 0] w fun e w' => e = .returned (.slice b n cap) ∧ w' = w := by
  go_enter Tryd.func114, Tryd.ntmps114
  go_wp2
  all_goals (go_ret; exact ⟨rfl, rfl⟩)
theorem del_go (b n cap k : Nat) (cur : Array Value) (w : World) (hb : w.heap[b]? = some (.cells cur 67 (0, 0))) (hn : n ≤ cap) (hm : cap ≤ 9223372036854775807) (hk : k ≤ n) (hk0 : 0 < k) (hsz : cur.size = cap * 3) (hone : ∀ u ∈ (cur.toList.take (n * 3)).drop (k * 3), u.oneCell' = true) :
    Calls Tryd.prog 114 #[.slice (some ⟨b, 0, none⟩) n cap, .int .i64 0, .int .i64 k] w fun e w' => e = .returned (.slice (some ⟨b, 0, none⟩) (n - k) cap) ∧ w'.os = w.os ∧ w'.tape = w.tape ∧ w'.output = w.output ∧
      ∃ rest : List Value, w'.heap = (w.setRow b ((cur.toList.take (n * 3)).drop (k * 3) ++ rest).toArray).heap ∧ ((cur.toList.take (n * 3)).drop (k * 3) ++ rest).length = cap * 3 := by
  obtain ⟨i0, hi0, hz1⟩ : ∃ i, Tryd.prog.info? 67 = some i ∧ i.size = 3 := ⟨_, rfl, rfl⟩
  obtain ⟨news, hnews⟩ : ∃ news, news = (cur.toList.take (n * 3)).drop (k * 3) := ⟨_, rfl⟩
  rw [← hnews] at hone ⊢
  have hlen : news.length = (n - k) * 3 := by rw [hnews, List.length_drop, List.length_take, Array.length_toList, hsz]; omega
  have hget : ∀ j u, news[j]? = some u → cur[k * 3 + j]? = some u := by
    intro j u hu
    rw [hnews, List.getElem?_drop, List.getElem?_take] at hu
    split at hu
    · rw [← Array.getElem?_toList]; exact hu
    · cases hu
  obtain ⟨A, hA, hsrc⟩ : ∃ A : Addr, (if cap = k then some (⟨b, 0, none⟩ : Addr) else some ⟨b, k * 3, none⟩) = some A ∧ Hid (∀ j u, news[j]? = some u → w.drew.cell? (A.add j) = some u) := by
    by_cases h : cap = k
    · refine ⟨⟨b, 0, none⟩, by simp [h], fun j u hu => ?_⟩
      have h0 : news.length = 0 := by rw [hlen]; omega
      rw [List.length_eq_zero_iff.1 h0] at hu
      simp at hu
    · refine ⟨⟨b, k * 3, none⟩, by simp [h], fun j u hu => ?_⟩
      rw [Addr.add_lit]
      show (w.cell? ⟨b, k * 3 + j, none⟩) = some u
      have := hget j u hu
      simp [World.cell?, hb, this]
  have s1 : Hid (news.length = (n - k) * 3) := hlen
  have s2 : Hid (∀ u ∈ news, u.oneCell' = true) := hone
  have s3 : Hid (w.drew.heap[b]? = some (.cells cur 67 (0, 0))) := hb
  have s4 : Hid (0 * 3 + news.length ≤ cur.size) := by show 0 * 3 + news.length ≤ cur.size; rw [hlen, hsz]; omega
  obtain ⟨c1, hc1⟩ : ∃ c1, c1 = cur.toList.take (0 * 3) ++ news ++ cur.toList.drop (0 * 3 + news.length) := ⟨_, rfl⟩
  have hc1l : c1.length = cap * 3 := by rw [hc1]; simp [hlen, hsz]; omega
  obtain ⟨W1, hW1⟩ : ∃ W1, W1 = w.drew.setRow b c1.toArray := ⟨_, rfl⟩
  have hH1 : W1.heap[b]? = some (.cells c1.toArray 67 (0, 0)) := by rw [hW1]; exact setRow_heap w.drew b cur c1.toArray _ _ hb
  have hcl : ∃ zs : List Value, zs.length = k * 3 ∧ ∀ ty, (Builtin.clear_ #[50] ty #[.slice (some ⟨b, (n - k) * 3, none⟩) k (cap - (n - k))]).run Tryd.prog W1 = .ok (.tuple #[]) (W1.setRow b (c1.take ((n - k) * 3) ++ zs ++ c1.drop ((n - k) * 3 + k * 3)).toArray) := by
    exact run_clear_k (P := Tryd.prog) W1 50 67 _ 3 Tryd.underlying50 Tryd.zeroValue67 rfl (by decide) b ((n - k) * 3) k (cap - (n - k)) hk0 c1.toArray hH1 (by simp [hc1l]; omega)
  obtain ⟨zs, hzl, hcl0⟩ := hcl
  have hcl : ∀ ty, (Builtin.clear_ #[50] ty #[.slice (some ⟨b, (n - k) * 3, none⟩) (n - (n - k)) (cap - (n - k))]).run Tryd.prog W1 = .ok (.tuple #[]) (W1.setRow b (c1.take ((n - k) * 3) ++ zs ++ c1.drop ((n - k) * 3 + k * 3)).toArray) := by
    intro ty
    rw [show n - (n - k) = k by omega]
    exact hcl0 ty
  clear hcl0
  have hW : Hid (W1 = w.drew.setRow b c1.toArray) := hW1
  have C1 : Hid (c1 = cur.toList.take (0 * 3) ++ news ++ cur.toList.drop (0 * 3 + news.length)) := hc1
  have H1 : Hid (W1.heap[b]? = some (.cells c1.toArray 67 (0, 0))) := hH1
  have L1 : Hid (c1.length = cap * 3) := hc1l
  have hkc : k ≤ cap := by omega
  have hk0' : ¬ (0 = k) := by omega
  have hkn : n - k ≤ n := by omega
  have hkn2 : n - k ≤ cap := by omega
  have Z : Hid (zs.length = k * 3) := hzl
  clear hW1 hc1 hH1 hc1l hzl hget hnews hlen hone hb hsz
  go_enter Tryd.func114, Tryd.ntmps114
  go_wp2_with fail
  go_region_law (refine step_app rfl (.tmp 22) (.tmp 25) 50 rfl 67 i0 3 Tryd.underlying50 hi0 hz1 b 0 cap cur s3.out (by simp [Act.eval, Act.put]) A (n - k) (cap - k) news (by simp [Act.eval, Act.put]) s1.out hsrc.out s2.out (by omega) s4.out ?_; rw [← C1.out, ← hW.out])
  go_wp2
  go_ret
  have ht : c1.take ((n - k) * 3) = news := by
    rw [C1.out, Nat.zero_mul, List.take_zero, List.nil_append, ← s1.out, List.take_left]
  rw [ht, hW.out]
  refine ⟨rfl, rfl, rfl, rfl, zs ++ c1.drop ((n - k) * 3 + k * 3), heap_two w b cur _ s3.out _ _, ?_⟩
  rw [List.length_append, List.length_append, List.length_drop, L1.out, Z.out, s1.out]
  omega
theorem fit_take (cap n : Nat) (vs sp : List Value) (h : vs.length = n * 3) (k : Nat) : ((vs ++ sp).toArray.toList.take (n * 3)).drop (k * 3) = vs.drop (k * 3) := by
  rw [← h, List.take_left]
theorem del_f (xs : List Fl) (s k : Nat) (h : k ≤ xs.length) : AEq Tryd.prog 114 [.row 0 s, i64 0, i64 k] [.row s 67 3 (xs.map flA)] (.row 0 (s + 1)) [.row (s + 1) 67 3 ((xs.drop k).map flA)] := by
  unfold AEq ACall
  intro ρ w vs hr hG hv
  match vs, hv with
  | [v0, v1, v2], hv =>
  simp only [VRl, VR, and_true] at hv
  obtain ⟨⟨_, hv0⟩, rfl, rfl⟩ := hv
  have hv0 := (hv0 s 67 3 (xs.map flA) rfl).2 rfl
  subst hv0
  obtain ⟨h0, h00, hO⟩ := hr.obj 0 _ rfl
  have hll := h0
  have all : ∀ q ∈ (xs.drop k).map flA, q.length = 3 := by intro q hq; simp only [List.mem_map] at hq; obtain ⟨_, _, rfl⟩ := hq; rfl
  have fin : ∀ (v' : Value) (w' : World), w'.os = w.os → w'.tape = w.tape → w'.output = w.output → w.heap.size ≤ w'.heap.size →
      (∀ b, b < w.heap.size → blk (ρ 0) ≠ some b → w'.heap[b]? = w.heap[b]?) → (∀ b, blk v' = some b → blk (ρ 0) = some b ∨ w.heap.size ≤ b) →
      (((∃ ad, v' = .slice ad 0 0) ∧ (xs.drop k).map flA = []) ∨ ∃ b cap, ∃ us sp : List Value, v' = .slice (some ⟨b, 0, none⟩) ((xs.drop k).map flA).length cap ∧ w'.heap[b]? = some (.cells (us ++ sp).toArray 67 (0, 0)) ∧ ((xs.drop k).map flA).length ≤ cap ∧ (0 < cap ∧ cap ≤ maxLen) ∧ (us ++ sp).length = cap * 3 ∧ (∀ u ∈ us, u.oneCell' = true) ∧ VRl [.row s 67 3 (xs.map flA)] ρ w ((xs.drop k).map flA).flatten us) →
      ∃ r σ' ρ' v, Ending.returned v' = .returned v ∧ (r = AV.row 0 (s + 1) ∧ σ' = [Ob.row (s + 1) 67 3 ((xs.drop k).map flA)]) ∧ Rel σ' ρ' w' ∧ VR σ' ρ' w' r v ∧ Step 1 [.row s 67 3 (xs.map flA)] ρ w σ' ρ' w' := by
    intro v' w' os tp ou hsz hk hbl hrow
    have hs : [Ob.row s 67 3 (xs.map flA)][0]? = some (Ob.row s 67 3 (xs.map flA)) := rfl
    have hobj : ObjStep (some (Ob.row s 67 3 (xs.map flA))) (some (Ob.row (s + 1) 67 3 ((xs.drop k).map flA))) (ρ 0) v' := by simp only [ObjStep, true_and]; omega
    have st := step_set (σ := [Ob.row s 67 3 (xs.map flA)]) (ρ := ρ) (w := w) (w' := w') (r := v') hs rfl hobj os tp ou hsz hk (fun b _ => hbl b)
    refine ⟨_, _, upd ρ 0 v', v', rfl, ⟨rfl, rfl⟩, rel_set (σ := [Ob.row s 67 3 (xs.map flA)]) hr hs rfl hobj os tp ou hsz hk (fun b _ => hbl b) ⟨all, h00, ?_⟩, ?_, st⟩
    · rcases hrow with h | ⟨b, cap, us, sp, k1, k2, k3, k4, k5, k6, k7⟩
      · exact .inl h
      · exact .inr ⟨b, cap, us, sp, k1, k2, k3, k4, k5, k6, VRl.carry st _ _ k7⟩
    · simp only [VR]
      refine ⟨by simp, fun s' e' sz' xs' hs' => ?_⟩
      simp at hs'
      obtain ⟨rfl, _⟩ := hs'
      exact ⟨Nat.le_refl _, fun _ => by rw [upd_same]⟩
  rcases hO with ⟨⟨ad, hO⟩, hx⟩ | ⟨b, cap, us, sp, hb', hh, hle, hm, hc, hone, hl⟩
  · have hx : xs = [] := by simpa using hx
    subst hx
    obtain rfl : k = 0 := by simpa using h
    rw [hO]
    refine (del_same _ ad 0 0 w rfl (Nat.le_refl _) (by omega)).mono ?_
    rintro e w' ⟨rfl, rfl⟩
    exact fin _ _ rfl rfl rfl (Nat.le_refl _) (fun _ _ _ => rfl) (fun b hb => by cases ad <;> simp [blk] at hb) (.inl ⟨⟨ad, rfl⟩, rfl⟩)
  · have hlu := VRl_len _ _ hl
    rw [flat_len h0, List.length_map] at hlu
    rw [List.length_map] at hb' hle
    have hmx : cap ≤ 9223372036854775807 := by have := hm.2; unfold maxLen at this; omega
    have hflat : ((xs.drop k).map flA).flatten = ((xs.map flA).flatten).drop (k * 3) := by
      have := List.take_append_drop k xs
      conv => rhs; rw [← this]
      rw [List.map_append, List.flatten_append]
      have hlt : ((xs.take k).map flA).flatten.length = k * 3 := by rw [flat_len (sz := 3) (by intro q hq; simp only [List.mem_map] at hq; obtain ⟨_, _, rfl⟩ := hq; rfl), List.length_map, List.length_take]; congr 1; omega
      rw [← hlt, List.drop_left]
    by_cases hk0 : k = 0
    · subst hk0
      rw [hb']
      refine (del_same _ (some ⟨b, 0, none⟩) xs.length cap w rfl hle hmx).mono ?_
      rintro e w' ⟨rfl, rfl⟩
      exact fin _ _ rfl rfl rfl (Nat.le_refl _) (fun _ _ _ => rfl) (fun c hc => .inl (by rw [hb']; exact hc)) (.inr ⟨b, cap, us, sp, by rw [List.length_map, List.drop_zero], hh, by rw [List.length_map, List.drop_zero]; exact hle, hm, hc, hone, by rw [List.drop_zero]; exact hl⟩)
    · rw [hb']
      refine (del_go b xs.length cap k (us ++ sp).toArray w hh hle hmx h (by omega) (by simpa using hc) (by rw [fit_take cap xs.length us sp hlu.symm]; intro u hu; exact hone u (List.mem_of_mem_drop hu))).mono ?_
      rintro e w' ⟨rfl, os, tp, ou, rest, hhp, hrl⟩
      rw [fit_take cap xs.length us sp hlu.symm] at hhp hrl
      have hsz : w'.heap.size = w.heap.size := by rw [hhp]; simp
      refine fin _ _ os tp ou (by omega) (fun c _ hne => ?_) (fun c hc => .inl (by rw [hb']; exact hc)) (.inr ⟨b, cap, us.drop (k * 3), rest, by rw [List.length_map, List.length_drop], ?_, by rw [List.length_map, List.length_drop]; omega, hm, hrl, fun u hu => hone u (List.mem_of_mem_drop hu), by rw [hflat]; exact VRl_drop _ _ _ hl⟩)
      · rw [hhp]
        exact setRow_other w b c _ (fun e => hne (by rw [hb', e]; simp [blk]; omega))
      · rw [hhp]
        exact setRow_heap w b _ _ _ _ hh
end Go.Proofs.YtohbfcmmpaikhaaDoor

set_option linter.unusedVariables false
set_option linter.unusedSimpArgs false
namespace Go.Proofs.YtohbfcmmpaikhaaDoor
open Go Go.Lf Go.Proofs
attribute [local irreducible] Lf.rg Lf.ro Lf.PWp Lf.SOp Lf.ACall Lf.Scoped Lf.dg Lf.dw
set_option maxRecDepth 20000
set_option maxHeartbeats 4000000
theorem keptL_step {xs : List Fl} {g : Nat} {x : Fl} {m : Int} (hx : xs[g]? = some x) (h : m < sumW (xs.drop g)) : keptL (xs.drop g) m = keptL (xs.drop (g + 1)) m ∧ sumW (xs.drop g) = wt x + sumW (xs.drop (g + 1)) := by
  have hd := ddrop_at hx
  rw [hd] at h ⊢
  exact ⟨by rw [keptL, if_pos h], rfl⟩
theorem sumW_drop : ∀ (l : List Fl) (g : Nat), sumW (l.drop g) ≤ sumW l
  | [], g => by rw [List.drop_nil]; exact Int.le_refl _
  | x :: l, 0 => Int.le_refl _
  | x :: l, g + 1 => by
    have := sumW_drop l g
    have := wt_pos x
    rw [List.drop_succ_cons, sumW]; omega
theorem keptL_stop {xs : List Fl} {g : Nat} {m : Int} (h : g = xs.length ∨ sumW (xs.drop g) ≤ m) : keptL (xs.drop g) m = xs.drop g := by
  rcases h with rfl | h
  · rw [List.drop_length]; rfl
  · exact keptL_all h
theorem t_len (xs : List Fl) (s : Nat) (z m : Int) : AEq Tryd.prog 118 [.ptr 0 0] [.box [.row 1 s, i64 z, i64 m], .row s 67 3 (xs.map flA)] (i64 xs.length) [.box [.row 1 s, i64 z, i64 m], .row s 67 3 (xs.map flA)] := by
  refine acall_body Tryd.func118 rfl Tryd.ntmps118 (by simp) (fun hsc => ?_); simp only [Lf.enter, Nat.reduceAdd]; clear hsc
  have hU := True.intro
  repeat' (first | (guard_target =~ PWp _ _ _ _ _ _ _; first | (refine pwp_seq_k (fun K hK => ?_)) | (refine pwp_rg_then ?_) | (refine pwp_ret ?_) | (refine pwp_skip ?_) | ((refine pwp_cond_d (fun hcd => ?_) (fun hcd => ?_)) <;> (try simp only [hcP] at hcd) <;> (try exact cdT))) | (guard_target =~ rg _ _ _ _ _ _ _; first | (guard_target =~ rg _ _ _ [] _ _ _; first | (refine rg_end ?_)) | (refine rg_a rfl (h := ?_)) | (refine rg_v rfl (h := ?_))) | (guard_target =~ (_ ∨ _) ∧ _; first | ((refine end_d [0, 1] (by rw [Tryd.results118, Lf.res1]) (ale_1 ?_) ?_) <;> (try (first | exact aleT | exact stq (by with_reducible rfl) | exact stq (by rfl) | exact stq (by simp (disch := omega) only [go_sem, seval, ↓reduceIte, hU]))))) | (refine hK _ _ ?_; clear hK K))
theorem t_size0 : AEq Tryd.prog 64 [.lit (.pointer none)] [] (i64 0) [] := by
  refine acall_body Tryd.func64 rfl Tryd.ntmps64 (by simp) (fun hsc => ?_); simp only [Lf.enter, Nat.reduceAdd]; clear hsc
  have hU := True.intro
  repeat' (first | (guard_target =~ PWp _ _ _ _ _ _ _; first | (refine pwp_seq_k (fun K hK => ?_)) | (refine pwp_rg_then ?_) | (refine pwp_ret ?_) | ((refine pwp_cond_d (fun hcd => ?_) (fun hcd => ?_)) <;> (try simp only [hcP] at hcd) <;> (try exact cdT))) | (guard_target =~ rg _ _ _ _ _ _ _; first | (guard_target =~ rg _ _ _ [] _ _ _; first | (refine rg_end ?_)) | (refine rg_a rfl (h := ?_)) | (refine rg_v rfl (h := ?_))) | (guard_target =~ (_ ∨ _) ∧ _; first | ((refine end_d [] (by rw [Tryd.results64, Lf.res1]) (ale_1 ?_) ?_) <;> (try (first | exact aleT | exact stq (by with_reducible rfl) | exact stq (by rfl) | exact stq (by simp (disch := omega) only [go_sem, seval, ↓reduceIte, hU]))))) | (refine hK _ _ ?_; clear hK K))
theorem t_size (xs : List Fl) (s : Nat) (z m : Int) : AEq Tryd.prog 64 [.ptr 0 0] [.box [.row 1 s, i64 z, i64 m], .row s 67 3 (xs.map flA)] (i64 z) [.box [.row 1 s, i64 z, i64 m], .row s 67 3 (xs.map flA)] := by
  refine acall_body Tryd.func64 rfl Tryd.ntmps64 (by simp) (fun hsc => ?_); simp only [Lf.enter, Nat.reduceAdd]; clear hsc
  have hU := True.intro
  repeat' (first | (guard_target =~ PWp _ _ _ _ _ _ _; first | (refine pwp_seq_k (fun K hK => ?_)) | (refine pwp_rg_then ?_) | (refine pwp_ret ?_) | (refine pwp_skip ?_) | ((refine pwp_cond_d (fun hcd => ?_) (fun hcd => ?_)) <;> (try simp only [hcP] at hcd) <;> (try exact cdT))) | (guard_target =~ rg _ _ _ _ _ _ _; first | (guard_target =~ rg _ _ _ [] _ _ _; first | (refine rg_end ?_)) | (refine rg_a rfl (h := ?_)) | (refine rg_v rfl (h := ?_))) | (guard_target =~ (_ ∨ _) ∧ _; first | ((refine end_d [0, 1] (by rw [Tryd.results64, Lf.res1]) (ale_1 ?_) ?_) <;> (try (first | exact aleT | exact stq (by with_reducible rfl) | exact stq (by rfl) | exact stq (by simp (disch := omega) only [go_sem, seval, ↓reduceIte, hU]))))) | (refine hK _ _ ?_; clear hK K))
theorem t_max0 : AEq Tryd.prog 63 [.lit (.pointer none)] [] (i64 0) [] := by
  refine acall_body Tryd.func63 rfl Tryd.ntmps63 (by simp) (fun hsc => ?_); simp only [Lf.enter, Nat.reduceAdd]; clear hsc
  have hU := True.intro
  repeat' (first | (guard_target =~ PWp _ _ _ _ _ _ _; first | (refine pwp_seq_k (fun K hK => ?_)) | (refine pwp_rg_then ?_) | (refine pwp_ret ?_) | ((refine pwp_cond_d (fun hcd => ?_) (fun hcd => ?_)) <;> (try simp only [hcP] at hcd) <;> (try exact cdT))) | (guard_target =~ rg _ _ _ _ _ _ _; first | (guard_target =~ rg _ _ _ [] _ _ _; first | (refine rg_end ?_)) | (refine rg_a rfl (h := ?_)) | (refine rg_v rfl (h := ?_))) | (guard_target =~ (_ ∨ _) ∧ _; first | ((refine end_d [] (by rw [Tryd.results63, Lf.res1]) (ale_1 ?_) ?_) <;> (try (first | exact aleT | exact stq (by with_reducible rfl) | exact stq (by rfl) | exact stq (by simp (disch := omega) only [go_sem, seval, ↓reduceIte, hU]))))) | (refine hK _ _ ?_; clear hK K))
theorem t_max (xs : List Fl) (s : Nat) (z m : Int) : AEq Tryd.prog 63 [.ptr 0 0] [.box [.row 1 s, i64 z, i64 m], .row s 67 3 (xs.map flA)] (i64 m) [.box [.row 1 s, i64 z, i64 m], .row s 67 3 (xs.map flA)] := by
  refine acall_body Tryd.func63 rfl Tryd.ntmps63 (by simp) (fun hsc => ?_); simp only [Lf.enter, Nat.reduceAdd]; clear hsc
  have hU := True.intro
  repeat' (first | (guard_target =~ PWp _ _ _ _ _ _ _; first | (refine pwp_seq_k (fun K hK => ?_)) | (refine pwp_rg_then ?_) | (refine pwp_ret ?_) | (refine pwp_skip ?_) | ((refine pwp_cond_d (fun hcd => ?_) (fun hcd => ?_)) <;> (try simp only [hcP] at hcd) <;> (try exact cdT))) | (guard_target =~ rg _ _ _ _ _ _ _; first | (guard_target =~ rg _ _ _ [] _ _ _; first | (refine rg_end ?_)) | (refine rg_a rfl (h := ?_)) | (refine rg_v rfl (h := ?_))) | (guard_target =~ (_ ∨ _) ∧ _; first | ((refine end_d [0, 1] (by rw [Tryd.results63, Lf.res1]) (ale_1 ?_) ?_) <;> (try (first | exact aleT | exact stq (by with_reducible rfl) | exact stq (by rfl) | exact stq (by simp (disch := omega) only [go_sem, seval, ↓reduceIte, hU]))))) | (refine hK _ _ ?_; clear hK K))
theorem t_new_no (m : Int) (h : m < 0 ∨ 2147483647 < m) : AEq Tryd.prog 55 [i64 m] [] (.tu [.lit (.pointer none), i64 1]) [] := by
  have hd : decide (0 ≤ m ∧ m ≤ 2147483647) = false := by rw [decide_eq_false_iff_not]; omega
  refine acall_body Tryd.func55 rfl Tryd.ntmps55 (by simp) (fun hsc => ?_); simp only [Lf.enter, Nat.reduceAdd]; clear hsc
  have hU := @hd
  repeat' (first | (guard_target =~ PWp _ _ _ _ _ _ _; first | (refine pwp_seq_k (fun K hK => ?_)) | (refine pwp_rg_then ?_) | (refine pwp_ret ?_) | ((refine pwp_cond_d (fun hcd => ?_) (fun hcd => ?_)) <;> (try simp only [hcP] at hcd) <;> (try exact cdT))) | (guard_target =~ rg _ _ _ _ _ _ _; first | (guard_target =~ rg _ _ _ [] _ _ _; first | (refine rg_end ?_)) | (refine rg_a rfl (h := ?_)) | (refine rg_v rfl (h := ?_)) | (refine rg_s rfl ?_)) | (guard_target =~ SOp _ _ _ _ _ _; first | (guard_target =~ SOp _ _ ⟨_, .call ⟨.value (.func 80), _, _⟩, _, _, _, none⟩ _ _ _; first | (refine n_call (f := 80) rfl Tryd.call80 (h := AEq.pure' agT (d_may _) (hq := ?_))))) | (guard_target =~ (_ ∨ _) ∧ _; first | ((refine end_d [] (by rw [Tryd.results55, Lf.res2]) (ale_2 ?_ ?_) ?_) <;> (try (first | exact aleT | exact stq (by with_reducible rfl) | exact stq (by rfl) | exact stq (by simp (disch := omega) only [go_sem, seval, ↓reduceIte, hU]))))) | (refine hK _ _ ?_; clear hK K))
theorem t_new (m : Int) (h : 0 ≤ m) (h2 : m ≤ 2147483647) : AEq Tryd.prog 55 [i64 m] [] (.tu [.ptr 0 0, i64 0]) [.box [.sl true false [], i64 0, i64 m]] := by
  have hd : decide (0 ≤ m ∧ m ≤ 2147483647) = true := by rw [decide_eq_true_eq]; omega
  refine acall_body Tryd.func55 rfl Tryd.ntmps55 (by simp) (fun hsc => ?_); simp only [Lf.enter, Nat.reduceAdd]; clear hsc
  have hU := @hd
  repeat' (first | (guard_target =~ PWp _ _ _ _ _ _ _; first | (refine pwp_seq_k (fun K hK => ?_)) | (refine pwp_rg_then ?_) | (refine pwp_ret ?_) | (refine pwp_skip ?_) | ((refine pwp_cond_d (fun hcd => ?_) (fun hcd => ?_)) <;> (try simp only [hcP] at hcd) <;> (try exact cdT))) | (guard_target =~ rg _ _ _ _ _ _ _; first | (guard_target =~ rg _ _ _ [] _ _ _; first | (refine rg_end ?_)) | (refine rg_a rfl (h := ?_)) | (refine rg_v rfl (h := ?_)) | (refine rg_s rfl ?_)) | (guard_target =~ SOp _ _ _ _ _ _; first | (guard_target =~ SOp _ _ ⟨_, .call ⟨.value (.func 80), _, _⟩, _, _, _, none⟩ _ _ _; first | (refine n_call (f := 80) rfl Tryd.call80 (h := AEq.pure' agT (d_may _) (hq := ?_)))) | (guard_target =~ SOp _ _ ⟨_, .box _ _, _, _, _, none⟩ _ _ _; first | (refine n_box rfl (hK := ?_))) | (guard_target =~ SOp _ _ ⟨_, .build _ _, _, _, _, none⟩ _ _ _; first | (refine n_build rfl (by first | exact bd67 | exact bd112 | fail) (hK := ?_)))) | (guard_target =~ (_ ∨ _) ∧ _; first | ((refine end_d [0] (by rw [Tryd.results55, Lf.res2]) (ale_2 ?_ ?_) ?_) <;> (try (first | exact aleT | exact stq (by with_reducible rfl) | exact stq (by rfl) | exact stq (by simp (disch := omega) only [go_sem, seval, ↓reduceIte, hU]))))) | (refine hK _ _ ?_; clear hK K))
theorem t_new_r (m : Int) (h : 0 ≤ m) (h2 : m ≤ 2147483647) : AEq Tryd.prog 55 [i64 m] [] (.tu [.ptr 0 0, i64 0]) [.box [.row 1 0, i64 (sumW xsE), i64 m], .row 0 67 3 (xsE.map flA)] :=
  daeq_post (t_new m h h2) (fun ρ w v hr hG hv => dpost_rowc (q := false) (cs := [.sl true false [], i64 0, i64 m]) 0 0 67 3 (by decide) rfl rfl ρ w v hr hG hv)
theorem t_at_no (xs : List Fl) (s : Nat) (z m i : Int) (h : i < 1 ∨ xs.length < i) : AEq Tryd.prog 110 [.ptr 0 0, i64 i] [.box [.row 1 s, i64 z, i64 m], .row s 67 3 (xs.map flA)] (.tu [.ag (flA fl0), bl false]) [.box [.row 1 s, i64 z, i64 m], .row s 67 3 (xs.map flA)] := by
  refine acall_body Tryd.func110 rfl Tryd.ntmps110 (by simp) (fun hsc => ?_); simp only [Lf.enter, Nat.reduceAdd]; clear hsc
  have hU := True.intro
  repeat' (first | (guard_target =~ PWp _ _ _ _ _ _ _; first | (refine pwp_seq_k (fun K hK => ?_)) | (refine pwp_rg_then ?_) | (refine pwp_ret ?_) | ((refine pwp_cond_d (fun hcd => ?_) (fun hcd => ?_)) <;> (try simp only [hcP] at hcd) <;> (try exact cdT))) | (guard_target =~ rg _ _ _ _ _ _ _; first | (guard_target =~ rg _ _ _ (⟨_, .move _, _, _, _, some _⟩ :: _) _ _ _; first | (refine rg_gtp rfl (h := ?_)) | (refine rg_gf rfl (hn := rfl) (h := ?_)) | (refine rg_gq rfl (h := ?_)) | (refine rg_gt rfl (h := ?_)) | ((first | refine rg_case (by simp only [go_sem, seval, ↓reduceIte, hU] <;> rfl) (fun hcd => ?_) (fun hcd => ?_) | refine rg_case2 (by simp only [go_sem, seval, ↓reduceIte, hU] <;> rfl) (fun hcd => ?_) (fun hcd => ?_)) <;> (try simp only [hcd]) <;> (try (simp only [Bool.not_eq_true', Bool.not_eq_false'] at hcd; try simp only [hcd])) <;> (refine rg_w (Γ2 := _) (by repeat' (first | exact envw_nil | apply envw_cons | exact opens_t | exact opens_f | exact opens_r)) ?_) <;> (try simp only [hcP] at hcd) <;> (try exact cdT))) | (guard_target =~ rg _ _ _ (⟨_, .call ⟨.value (.func 118), _, _⟩, _, _, _, some _⟩ :: _) _ _ _; first | (refine rg_gtp rfl (h := ?_)) | (refine rg_gf rfl (hn := rfl) (h := ?_)) | (refine rg_gq rfl (h := ?_)) | (refine rg_gt rfl (h := ?_)) | ((first | refine rg_case (by simp only [go_sem, seval, ↓reduceIte, hU] <;> rfl) (fun hcd => ?_) (fun hcd => ?_) | refine rg_case2 (by simp only [go_sem, seval, ↓reduceIte, hU] <;> rfl) (fun hcd => ?_) (fun hcd => ?_)) <;> (try simp only [hcd]) <;> (try (simp only [Bool.not_eq_true', Bool.not_eq_false'] at hcd; try simp only [hcd])) <;> (refine rg_w (Γ2 := _) (by repeat' (first | exact envw_nil | apply envw_cons | exact opens_t | exact opens_f | exact opens_r)) ?_) <;> (try simp only [hcP] at hcd) <;> (try exact cdT))) | (guard_target =~ rg _ _ _ (⟨_, .binOp _ _ _ _ _, _, _, _, some _⟩ :: _) _ _ _; first | (refine rg_gtp rfl (h := ?_)) | (refine rg_gf rfl (hn := rfl) (h := ?_)) | (refine rg_gq rfl (h := ?_)) | (refine rg_gt rfl (h := ?_)) | ((first | refine rg_case (by simp only [go_sem, seval, ↓reduceIte, hU] <;> rfl) (fun hcd => ?_) (fun hcd => ?_) | refine rg_case2 (by simp only [go_sem, seval, ↓reduceIte, hU] <;> rfl) (fun hcd => ?_) (fun hcd => ?_)) <;> (try simp only [hcd]) <;> (try (simp only [Bool.not_eq_true', Bool.not_eq_false'] at hcd; try simp only [hcd])) <;> (refine rg_w (Γ2 := _) (by repeat' (first | exact envw_nil | apply envw_cons | exact opens_t | exact opens_f | exact opens_r)) ?_) <;> (try simp only [hcP] at hcd) <;> (try exact cdT))) | (guard_target =~ rg _ _ _ [] _ _ _; first | (refine rg_end ?_)) | (refine rg_a rfl (h := ?_)) | (refine rg_v rfl (h := ?_)) | (refine rg_s rfl ?_) | (refine rg_n rfl ?_)) | (guard_target =~ SOp _ _ _ _ _ _; first | (guard_target =~ SOp _ _ ⟨_, .store _ _ _, _, _, _, none⟩ _ _ _; first | (refine n_store rfl (hK := ?_))) | (guard_target =~ SOp _ _ ⟨_, .call ⟨.value (.func 118), _, _⟩, _, _, _, some _⟩ _ _ _; first | (refine n_call (f := 118) rfl Tryd.call118 (h := AEq.sub' [_, _] (hc := t_len _ _ _ _) (hq := ?_)))) | (guard_target =~ SOp _ _ ⟨_, .alloc _, _, _, _, none⟩ _ _ _; first | (refine n_alloc rfl (by first | exact zv3 | exact zv4 | exact zv9 | exact zv50 | exact zv67 | exact zv69 | exact zv112 | fail) (hK := ?_))) | (guard_target =~ SOp _ _ ⟨_, .build _ _, _, _, _, none⟩ _ _ _; first | (refine n_build rfl (by first | exact bd67 | exact bd112 | fail) (hK := ?_)))) | (guard_target =~ (_ ∨ _) ∧ _; first | ((refine end_q [0, 1] (by first | exact .inr rfl | exact .inl rfl | fail) (by rfl) (by rw [Tryd.results110]; exact Lf.resM2 (by (try simp (disch := omega) only [Lf.resOne, go_sem, seval, ↓reduceIte, hU]); rfl) (by (try simp (disch := omega) only [Lf.resOne, go_sem, seval, ↓reduceIte, hU]); rfl)) sT sT (ale_2 ?_ ?_) ?_) <;> (try (first | exact aleT | exact stq (by with_reducible rfl) | exact stq (by rfl) | exact stq (by simp (disch := omega) only [go_sem, seval, ↓reduceIte, hU]))))) | (refine hK _ _ ?_; clear hK K))
theorem t_at (xs : List Fl) (s : Nat) (z m i : Int) (f : Fl) (h1 : 1 ≤ i) (h2 : i ≤ xs.length) (h3 : xs.length ≤ 100000) (hf : xs.reverse[i.toNat - 1]? = some f) : AEq Tryd.prog 110 [.ptr 0 0, i64 i] [.box [.row 1 s, i64 z, i64 m], .row s 67 3 (xs.map flA)] (.tu [.ag (flA f), bl true]) [.box [.row 1 s, i64 z, i64 m], .row s 67 3 (xs.map flA)] := by
  have hg := rev_at hf
  have hr : (xs.map flA)[((xs.length : Int) - i).toNat]? = some (flA f) := by
    rw [List.getElem?_map, show ((xs.length : Int) - i).toNat = xs.length - (i.toNat - 1 + 1) from by omega, hg]; rfl
  refine acall_body Tryd.func110 rfl Tryd.ntmps110 (by simp) (fun hsc => ?_); simp only [Lf.enter, Nat.reduceAdd]; clear hsc
  have hU := @hr
  repeat' (first | (guard_target =~ PWp _ _ _ _ _ _ _; first | (refine pwp_draw_tail (id := 3) 13 mixed (by kernel_rfl) (by kernel_rfl) (by kernel_rfl) rfl rfl ?_) | (refine pwp_seq_k (fun K hK => ?_)) | (refine pwp_rg_then ?_) | (refine pwp_ret ?_) | (refine pwp_skip ?_) | ((refine pwp_cond_d (fun hcd => ?_) (fun hcd => ?_)) <;> (try simp only [hcP] at hcd) <;> (try exact cdT))) | (guard_target =~ rg _ _ _ _ _ _ _; first | (guard_target =~ rg _ _ _ (⟨_, .move _, _, _, _, some _⟩ :: _) _ _ _; first | (refine rg_gtp rfl (h := ?_)) | (refine rg_gq rfl (h := ?_)) | (refine rg_gt rfl (h := ?_)) | ((first | refine rg_case (by simp only [go_sem, seval, ↓reduceIte, hU] <;> rfl) (fun hcd => ?_) (fun hcd => ?_) | refine rg_case2 (by simp only [go_sem, seval, ↓reduceIte, hU] <;> rfl) (fun hcd => ?_) (fun hcd => ?_)) <;> (try simp only [hcd]) <;> (try (simp only [Bool.not_eq_true', Bool.not_eq_false'] at hcd; try simp only [hcd])) <;> (refine rg_w (Γ2 := _) (by repeat' (first | exact envw_nil | apply envw_cons | exact opens_t | exact opens_f | exact opens_r)) ?_) <;> (try simp only [hcP] at hcd) <;> (try exact cdT))) | (guard_target =~ rg _ _ _ (⟨_, .call ⟨.value (.func 118), _, _⟩, _, _, _, some _⟩ :: _) _ _ _; first | (refine rg_gtp rfl (h := ?_)) | (refine rg_gq rfl (h := ?_)) | (refine rg_gt rfl (h := ?_)) | ((first | refine rg_case (by simp only [go_sem, seval, ↓reduceIte, hU] <;> rfl) (fun hcd => ?_) (fun hcd => ?_) | refine rg_case2 (by simp only [go_sem, seval, ↓reduceIte, hU] <;> rfl) (fun hcd => ?_) (fun hcd => ?_)) <;> (try simp only [hcd]) <;> (try (simp only [Bool.not_eq_true', Bool.not_eq_false'] at hcd; try simp only [hcd])) <;> (refine rg_w (Γ2 := _) (by repeat' (first | exact envw_nil | apply envw_cons | exact opens_t | exact opens_f | exact opens_r)) ?_) <;> (try simp only [hcP] at hcd) <;> (try exact cdT))) | (guard_target =~ rg _ _ _ (⟨_, .binOp _ _ _ _ _, _, _, _, some _⟩ :: _) _ _ _; first | (refine rg_gtp rfl (h := ?_)) | (refine rg_gq rfl (h := ?_)) | (refine rg_gt rfl (h := ?_)) | ((first | refine rg_case (by simp only [go_sem, seval, ↓reduceIte, hU] <;> rfl) (fun hcd => ?_) (fun hcd => ?_) | refine rg_case2 (by simp only [go_sem, seval, ↓reduceIte, hU] <;> rfl) (fun hcd => ?_) (fun hcd => ?_)) <;> (try simp only [hcd]) <;> (try (simp only [Bool.not_eq_true', Bool.not_eq_false'] at hcd; try simp only [hcd])) <;> (refine rg_w (Γ2 := _) (by repeat' (first | exact envw_nil | apply envw_cons | exact opens_t | exact opens_f | exact opens_r)) ?_) <;> (try simp only [hcP] at hcd) <;> (try exact cdT))) | (guard_target =~ rg _ _ _ [] _ _ _; first | (refine rg_end ?_)) | (refine rg_a rfl (h := ?_)) | (refine rg_v rfl (h := ?_)) | (refine rg_s rfl ?_) | (refine rg_n rfl ?_)) | (guard_target =~ SOp _ _ _ _ _ _; first | (guard_target =~ SOp _ _ ⟨_, .store _ _ _, _, _, _, none⟩ _ _ _; first | (refine n_store rfl (hK := ?_))) | (guard_target =~ SOp _ _ ⟨_, .call ⟨.value (.func 118), _, _⟩, _, _, _, some _⟩ _ _ _; first | (refine n_call (f := 118) rfl Tryd.call118 (h := AEq.sub' [_, _] (hc := t_len _ _ _ _) (hq := ?_)))) | (guard_target =~ SOp _ _ ⟨_, .alloc _, _, _, _, none⟩ _ _ _; first | (refine n_alloc rfl (by first | exact zv3 | exact zv4 | exact zv9 | exact zv50 | exact zv67 | exact zv69 | exact zv112 | fail) (hK := ?_)))) | (guard_target =~ dg _ _ _ _ _ _ _; first | (guard_target =~ dg _ _ _ (⟨_, .move _, _, _, _, none⟩ :: _) _ _ _; first | (refine dg_v rfl (hk := ?_))) | (guard_target =~ dg _ _ _ (⟨_, .load _ _, _, _, _, none⟩ :: _) _ _ _; first | (refine dg_v rfl (hk := ?_))) | (guard_target =~ dg _ _ _ (⟨_, .fieldAddr _ _ _, _, _, _, none⟩ :: _) _ _ _; first | (refine dg_v rfl (hk := ?_))) | (guard_target =~ dg _ _ _ (⟨_, .nilCheck _, _, _, _, none⟩ :: _) _ _ _; first | (refine dg_v rfl (hk := ?_))) | (guard_target =~ dg _ _ _ (⟨_, .binOp _ _ _ _ _, _, _, _, none⟩ :: _) _ _ _; first | (refine dg_v rfl (hk := ?_))) | (guard_target =~ dg _ _ _ (⟨_, .pick _ _ _, _, _, _, none⟩ :: _) _ _ _; first | (refine dg_v rfl (hk := ?_))) | (guard_target =~ dg _ _ _ (⟨_, .call ⟨.builtin .len, _, _⟩, _, _, _, none⟩ :: _) _ _ _; first | (refine dg_v rfl (hk := ?_))) | (guard_target =~ dg _ _ _ (⟨_, .indexAddr _ _ _, _, _, _, none⟩ :: _) _ _ _; first | (refine dg_c (x := _) (h := ro_s (h := n_index_row rfl (hK := ro_end ⟨rfl, rfl⟩))) (hk := ?_))) | (guard_target =~ dg _ _ _ [] _ _ _; first | (refine dg_nil ?_))) | (guard_target =~ (_ ∨ _) ∧ _; first | ((refine end_q [0, 1] (by first | exact .inr rfl | exact .inl rfl | fail) (by rfl) (by rw [Tryd.results110]; exact Lf.resM2 (by (try simp (disch := omega) only [Lf.resOne, go_sem, seval, ↓reduceIte, hU]); rfl) (by (try simp (disch := omega) only [Lf.resOne, go_sem, seval, ↓reduceIte, hU]); rfl)) sT sT (ale_2 ?_ ?_) ?_) <;> (try (first | exact aleT | exact stq (by with_reducible rfl) | exact stq (by rfl) | exact stq (by simp (disch := omega) only [go_sem, seval, ↓reduceIte, hU]))))) | (refine hK _ _ ?_; clear hK K))
theorem t_shrink (xs : List Fl) (s : Nat) (m most : Int) (h : xs.length ≤ 100000) (hS : sumW xs ≤ 4000000000) (hb : ∀ f ∈ xs, f.n.size ≤ 1000000000 ∧ f.v.size ≤ 1000000000) : AEq Tryd.prog 89 [.ptr 0 0, i64 most] [.box [.row 1 s, i64 (sumW xs), i64 m], .row s 67 3 (xs.map flA)] (.tu []) [.box [.row 1 (s + 1), i64 (sumW (keptL xs most)), i64 m], .row (s + 1) 67 3 ((keptL xs most).map flA)] := by
  refine acall_body Tryd.func89 rfl Tryd.ntmps89 (by simp) (fun hsc => ?_); simp only [Lf.enter, Nat.reduceAdd]; clear hsc
  have hU := True.intro
  repeat' (first | (guard_target =~ PWp _ _ _ _ _ _ _; first | (refine pwp_seq_k (fun K hK => ?_)) | (refine pwp_block ?_) | (refine pwp_rg_then ?_)) | (guard_target =~ rg _ _ _ _ _ _ _; first | (guard_target =~ rg _ _ _ [] _ _ _; first | (refine rg_end ?_)) | (refine rg_a rfl (h := ?_))) | (refine hK _ _ ?_; clear hK K))
  refine pwp_loop_e [4, 5, 6, 7, 8, 9, 10, 11, 12, 13, 14, 15, 16, 17, 18, 19, 20, 21, 22, 23, 24, 25, 26, 27, 28, 29, 30, 31, 32, 33, 34, 35, 36] (fun g : Nat => [(4, i64 g)]) (fun g => [.box [.row 1 s, i64 (sumW (xs.drop g)), i64 m], .row s 67 3 (xs.map flA)]) (fun g => g ≤ xs.length ∧ keptL xs most = keptL (xs.drop g) most) (fun g => xs.length - g) 0 ⟨Nat.zero_le _, rfl⟩ ?_ rfl ?_
  · (refine ⟨⟨_, sT, ?_⟩, trivial⟩ <;> (try (first | exact aleT)))
  · rintro g ⟨hg, hk⟩
    simp only [mask, List.map_cons, List.map_nil, List.cons_append, List.nil_append]
    have hp := (sumW_pos (xs.drop g)).1
    by_cases hlt : g < xs.length
    · obtain ⟨x, hx⟩ := ex_at hlt
      have hxb := hb x (List.mem_of_getElem? hx)
      by_cases hm : most < sumW (xs.drop g)
      · obtain ⟨e1, e2⟩ := keptL_step hx hm
        have hp2 := (sumW_pos (xs.drop (g + 1))).1
        have hxA : (xs.map flA)[g]? = some (flA x) := by rw [List.getElem?_map, hx]; rfl
        have hz := sumW_drop xs (g + 1)
        have hz2 := sumW_drop xs g
        have e3 : sumW (xs.drop g) - wt x = sumW (xs.drop (g + 1)) := by omega
        have hU := And.intro @hxA (@e3)
        repeat' (first | (guard_target =~ PWp _ _ _ _ _ _ _; first | (refine pwp_draw_tail (id := 2) 15 mixed (by kernel_rfl) (by kernel_rfl) (by kernel_rfl) rfl rfl ?_) | (refine pwp_seq_k (fun K hK => ?_)) | (refine pwp_block ?_) | (refine pwp_rg_then ?_) | (refine pwp_rg ?_) | (refine pwp_skip ?_) | ((refine pwp_cond_d (fun hcd => ?_) (fun hcd => ?_)) <;> (try simp only [hcP] at hcd) <;> (try exact cdT))) | (guard_target =~ rg _ _ _ _ _ _ _; first | (guard_target =~ rg _ _ _ (⟨_, .move _, _, _, _, some _⟩ :: _) _ _ _; first | (refine rg_gq rfl (h := ?_))) | (guard_target =~ rg _ _ _ (⟨_, .nilCheck _, _, _, _, some _⟩ :: _) _ _ _; first | (refine rg_gq rfl (h := ?_))) | (guard_target =~ rg _ _ _ (⟨_, .load _ _, _, _, _, some _⟩ :: _) _ _ _; first | (refine rg_gq rfl (h := ?_))) | (guard_target =~ rg _ _ _ (⟨_, .binOp _ _ _ _ _, _, _, _, some _⟩ :: _) _ _ _; first | (refine rg_gq rfl (h := ?_))) | (guard_target =~ rg _ _ _ (⟨_, .fieldAddr _ _ _, _, _, _, some _⟩ :: _) _ _ _; first | (refine rg_gq rfl (h := ?_))) | (guard_target =~ rg _ _ _ [] _ _ _; first | (refine rg_end ?_)) | (refine rg_a rfl (h := ?_)) | (refine rg_v rfl (h := ?_)) | (refine rg_n rfl ?_)) | (guard_target =~ SOp _ _ _ _ _ _; first | (guard_target =~ SOp _ _ ⟨_, .store _ _ _, _, _, _, none⟩ _ _ _; first | (refine n_store rfl (hK := ?_)))) | (guard_target =~ dg _ _ _ _ _ _ _; first | (guard_target =~ dg _ _ _ (⟨_, .move _, _, _, _, none⟩ :: _) _ _ _; first | (refine dg_v rfl (hk := ?_))) | (guard_target =~ dg _ _ _ (⟨_, .fieldAddr _ _ _, _, _, _, none⟩ :: _) _ _ _; first | (refine dg_v rfl (hk := ?_))) | (guard_target =~ dg _ _ _ (⟨_, .nilCheck _, _, _, _, none⟩ :: _) _ _ _; first | (refine dg_v rfl (hk := ?_))) | (guard_target =~ dg _ _ _ (⟨_, .load _ _, _, _, _, none⟩ :: _) _ _ _; first | (refine dg_v rfl (hk := ?_))) | (guard_target =~ dg _ _ _ (⟨_, .binOp _ _ _ _ _, _, _, _, none⟩ :: _) _ _ _; first | (refine dg_v rfl (hk := ?_))) | (guard_target =~ dg _ _ _ (⟨_, .pick _ _ _, _, _, _, none⟩ :: _) _ _ _; first | (refine dg_v rfl (hk := ?_))) | (guard_target =~ dg _ _ _ (⟨_, .call ⟨.value (.func 111), _, _⟩, _, _, _, none⟩ :: _) _ _ _; first | (refine dg_c (x := _) (h := ro_s (h := n_call (f := 111) rfl Tryd.call111 (h := AEq.pure' agT (d_weight _ (by omega) (by omega)) (hq := ro_end ⟨rfl, rfl⟩)))) (hk := ?_))) | (guard_target =~ dg _ _ _ (⟨_, .call ⟨.builtin .len, _, _⟩, _, _, _, none⟩ :: _) _ _ _; first | (refine dg_v rfl (hk := ?_))) | (guard_target =~ dg _ _ _ (⟨_, .indexAddr _ _ _, _, _, _, none⟩ :: _) _ _ _; first | (refine dg_c (x := _) (h := ro_s (h := n_index_row rfl (hK := ro_end ⟨rfl, rfl⟩))) (hk := ?_))) | (guard_target =~ dg _ _ _ [] _ _ _; first | (refine dg_nil ?_))) | (refine hK _ _ ?_; clear hK K) | (dsimp only [Lf.thenQ, Lf.blockQ]))
        refine ⟨g + 1, ⟨by omega, by rw [hk, e1]⟩, by omega, ?_, (by repeat' (first | exact agr_refl | refine agr_cons (by rfl) ?_)), (by first | rfl | (simp (disch := omega) only [go_sem, seval, ↓reduceIte, hU]; done) | (simp (disch := omega) only [go_sem, seval, ↓reduceIte, hU]; rfl))⟩
        (refine ⟨⟨_, sT, ?_⟩, trivial⟩ <;> (try (first | exact aleT)))
      · have hs : keptL xs most = xs.drop g := by rw [hk]; exact keptL_stop (.inr (by omega))
        repeat' (first | (guard_target =~ PWp _ _ _ _ _ _ _; first | (refine pwp_seq_k (fun K hK => ?_)) | (refine pwp_rg_then ?_) | (refine pwp_rg ?_) | (refine pwp_exit ?_) | ((refine pwp_cond_d (fun hcd => ?_) (fun hcd => ?_)) <;> (try simp only [hcP] at hcd) <;> (try exact cdT))) | (guard_target =~ rg _ _ _ _ _ _ _; first | (guard_target =~ rg _ _ _ (⟨_, .move _, _, _, _, some _⟩ :: _) _ _ _; first | (refine rg_gq rfl (h := ?_))) | (guard_target =~ rg _ _ _ (⟨_, .nilCheck _, _, _, _, some _⟩ :: _) _ _ _; first | (refine rg_gq rfl (h := ?_))) | (guard_target =~ rg _ _ _ (⟨_, .load _ _, _, _, _, some _⟩ :: _) _ _ _; first | (refine rg_gq rfl (h := ?_))) | (guard_target =~ rg _ _ _ (⟨_, .binOp _ _ _ _ _, _, _, _, some _⟩ :: _) _ _ _; first | (refine rg_gq rfl (h := ?_))) | (guard_target =~ rg _ _ _ (⟨_, .fieldAddr _ _ _, _, _, _, some _⟩ :: _) _ _ _; first | (refine rg_gq rfl (h := ?_))) | (guard_target =~ rg _ _ _ [] _ _ _; first | (refine rg_end ?_)) | (refine rg_v rfl (h := ?_)) | (refine rg_s rfl ?_) | (refine rg_n rfl ?_)) | (guard_target =~ SOp _ _ _ _ _ _; first | (guard_target =~ SOp _ _ ⟨_, .store _ _ _, _, _, _, none⟩ _ _ _; first | (refine n_store rfl (hK := ?_))) | (guard_target =~ SOp _ _ ⟨_, .call ⟨.value (.func 114), _, _⟩, _, _, _, none⟩ _ _ _; first | (refine n_call (f := 114) rfl Tryd.call114 (h := AEq.sub' [_] (hc := del_f _ _ _ (by assumption)) (hq := ?_))))) | (guard_target =~ (_ ∨ _) ∧ _; first | ((refine end_d [0, 1] (by rw [Tryd.results89, Lf.res0]) ale_0 ?_) <;> (try (first | exact aleT | exact stq (by with_reducible rfl) | exact stq (by rfl) | exact stq (by simp (disch := omega) only [go_sem, seval, ↓reduceIte, hU]))))) | (refine hK _ _ ?_; clear hK K) | (apply_assumption (exfalso := false) (symm := false)))
        all_goals exact stq (by rw [hs])
    · have hs : keptL xs most = xs.drop g := by rw [hk]; exact keptL_stop (.inl (by omega))
      repeat' (first | (guard_target =~ PWp _ _ _ _ _ _ _; first | (refine pwp_seq_k (fun K hK => ?_)) | (refine pwp_rg_then ?_) | (refine pwp_rg ?_) | (refine pwp_exit ?_) | ((refine pwp_cond_d (fun hcd => ?_) (fun hcd => ?_)) <;> (try simp only [hcP] at hcd) <;> (try exact cdT))) | (guard_target =~ rg _ _ _ _ _ _ _; first | (guard_target =~ rg _ _ _ (⟨_, .move _, _, _, _, some _⟩ :: _) _ _ _; first | (refine rg_gq rfl (h := ?_))) | (guard_target =~ rg _ _ _ (⟨_, .nilCheck _, _, _, _, some _⟩ :: _) _ _ _; first | (refine rg_gq rfl (h := ?_))) | (guard_target =~ rg _ _ _ (⟨_, .load _ _, _, _, _, some _⟩ :: _) _ _ _; first | (refine rg_gq rfl (h := ?_))) | (guard_target =~ rg _ _ _ (⟨_, .binOp _ _ _ _ _, _, _, _, some _⟩ :: _) _ _ _; first | (refine rg_gq rfl (h := ?_))) | (guard_target =~ rg _ _ _ (⟨_, .fieldAddr _ _ _, _, _, _, some _⟩ :: _) _ _ _; first | (refine rg_gq rfl (h := ?_))) | (guard_target =~ rg _ _ _ [] _ _ _; first | (refine rg_end ?_)) | (refine rg_v rfl (h := ?_)) | (refine rg_s rfl ?_) | (refine rg_n rfl ?_)) | (guard_target =~ SOp _ _ _ _ _ _; first | (guard_target =~ SOp _ _ ⟨_, .store _ _ _, _, _, _, none⟩ _ _ _; first | (refine n_store rfl (hK := ?_))) | (guard_target =~ SOp _ _ ⟨_, .call ⟨.value (.func 114), _, _⟩, _, _, _, none⟩ _ _ _; first | (refine n_call (f := 114) rfl Tryd.call114 (h := AEq.sub' [_] (hc := del_f _ _ _ (by assumption)) (hq := ?_))))) | (guard_target =~ (_ ∨ _) ∧ _; first | ((refine end_d [0, 1] (by rw [Tryd.results89, Lf.res0]) ale_0 ?_) <;> (try (first | exact aleT | exact stq (by with_reducible rfl) | exact stq (by rfl) | exact stq (by simp (disch := omega) only [go_sem, seval, ↓reduceIte, hU]))))) | (refine hK _ _ ?_; clear hK K) | (apply_assumption (exfalso := false) (symm := false)))
      all_goals exact stq (by rw [hs])
attribute [local irreducible] wt
theorem fl_join {l : List Fl} {f : Fl} : List.map flA l ++ [[AV.lit (Value.string f.n), AV.lit (Value.string f.v), AV.lit (Value.bool false)]] = List.map flA (l ++ [flN f]) := by rw [List.map_append]; rfl
set_option maxRecDepth 20000 in
theorem t_add_big_r (xs : List Fl) (s : Nat) (m : Int) (f : Fl) (h : xs.length ≤ 100000) (hS : sumW xs ≤ 4000000000) (hb : ∀ f ∈ xs, f.n.size ≤ 1000000000 ∧ f.v.size ≤ 1000000000) (h1 : f.n.size ≤ 1000000000) (h2 : f.v.size ≤ 1000000000) (h3 : 0 ≤ m) (h4 : m < wt f) : AEq Tryd.prog 83 [.ptr 0 0, .ag (flA f)] [.box [.row 1 s, i64 (sumW xs), i64 m], .row s 67 3 (xs.map flA)] (.tu []) [.box [.row 1 (s + 1), i64 0, i64 m], .row (s + 1) 67 3 (List.map flA [])] := by
  have hw : wt f ≤ 2000000032 := by unfold wt; omega
  refine acall_body Tryd.func83 rfl Tryd.ntmps83 (by simp) (fun hsc => ?_); simp only [Lf.enter, Nat.reduceAdd]; clear hsc
  have hU := And.intro @keptL_zero (@sumW_nil)
  repeat' (first | (guard_target =~ PWp _ _ _ _ _ _ _; first | (refine pwp_seq_k (fun K hK => ?_)) | (refine pwp_rg_then ?_) | (refine pwp_ret ?_) | (refine pwp_skip ?_) | ((refine pwp_cond_d (fun hcd => ?_) (fun hcd => ?_)) <;> (try simp only [hcP] at hcd) <;> (try exact cdT))) | (guard_target =~ rg _ _ _ _ _ _ _; first | (guard_target =~ rg _ _ _ [] _ _ _; first | (refine rg_end ?_)) | (refine rg_a rfl (h := ?_)) | (refine rg_v rfl (h := ?_)) | (refine rg_s rfl ?_)) | (guard_target =~ SOp _ _ _ _ _ _; first | (guard_target =~ SOp _ _ ⟨_, .call ⟨.value (.func 111), _, _⟩, _, _, _, none⟩ _ _ _; first | (refine n_call (f := 111) rfl Tryd.call111 (h := AEq.pure' agT (d_weight _ (by assumption) (by assumption)) (hq := ?_)))) | (guard_target =~ SOp _ _ ⟨_, .call ⟨.value (.func 89), _, _⟩, _, _, _, none⟩ _ _ _; first | (refine n_call (f := 89) rfl Tryd.call89 (h := AEq.sub' [_, _] (hc := t_shrink _ _ _ _ (by assumption) (by assumption) (by assumption)) (hq := ?_)))) | (guard_target =~ SOp _ _ ⟨_, .box _ _, _, _, _, none⟩ _ _ _; first | (refine n_box rfl (hK := ?_))) | (guard_target =~ SOp _ _ ⟨_, .call ⟨.builtin .max, _, _⟩, _, _, _, none⟩ _ _ _; first | (refine n_max_r rfl sT sT (by (try simp only [List.length_map, List.length_append, List.length_cons, List.length_nil, List.length_replicate, List.length_take, List.length_drop, List.length_set]); omega) ?_))) | (guard_target =~ (_ ∨ _) ∧ _; first | ((refine end_d [0, 1] (by rw [Tryd.results83, Lf.res0]) ale_0 ?_) <;> (try (first | exact aleT | exact stq (by with_reducible rfl) | exact stq (by rfl) | exact stq (by simp (disch := omega) only [go_sem, seval, ↓reduceIte, hU]))))) | (refine hK _ _ ?_; clear hK K))
theorem t_add_big (xs : List Fl) (s : Nat) (m : Int) (f : Fl) (h : xs.length ≤ 100000) (hS : sumW xs ≤ 4000000000) (hb : ∀ f ∈ xs, f.n.size ≤ 1000000000 ∧ f.v.size ≤ 1000000000) (h1 : f.n.size ≤ 1000000000) (h2 : f.v.size ≤ 1000000000) (h3 : 0 ≤ m) (h4 : m < wt f) : AEq Tryd.prog 83 [.ptr 0 0, .ag (flA f)] [.box [.row 1 s, i64 (sumW xs), i64 m], .row s 67 3 (xs.map flA)] (.tu []) [.box [.row 1 (s + 1), i64 (sumW xsE), i64 m], .row (s + 1) 67 3 (xsE.map flA)] := t_add_big_r xs s m f h hS hb h1 h2 h3 h4
theorem t_add (xs : List Fl) (s : Nat) (m : Int) (f : Fl) (h : xs.length ≤ 100000) (hS : sumW xs ≤ 4000000000) (hb : ∀ f ∈ xs, f.n.size ≤ 1000000000 ∧ f.v.size ≤ 1000000000) (h1 : f.n.size ≤ 1000000000) (h2 : f.v.size ≤ 1000000000) (h3 : m ≤ 4000000000) (h4 : wt f ≤ m) : AEq Tryd.prog 83 [.ptr 0 0, .ag (flA f)] [.box [.row 1 s, i64 (sumW xs), i64 m], .row s 67 3 (xs.map flA)] (.tu []) [.box [.row 1 (s + 2), i64 (sumW (keptL xs (m - wt f) ++ [flN f])), i64 m], .row (s + 2) 67 3 ((keptL xs (m - wt f) ++ [flN f]).map flA)] := by
  have hp := wt_pos f
  have hkl := keptL_len (m - wt f) xs
  have hks := keptL_sum (m - wt f) (by omega) xs
  have hkp := (sumW_pos (keptL xs (m - wt f))).1
  have hsa : sumW (keptL xs (m - wt f) ++ [flN f]) = sumW (keptL xs (m - wt f)) + wt f := by rw [sumW_app]; simp only [sumW, wt_N]; omega
  refine acall_body Tryd.func83 rfl Tryd.ntmps83 (by simp) (fun hsc => ?_); simp only [Lf.enter, Nat.reduceAdd]; clear hsc
  have hU := And.intro @hsa (@fl_join)
  repeat' (first | (guard_target =~ PWp _ _ _ _ _ _ _; first | (refine pwp_draw_ord (id := 5) [5, 6, 7, 8, 9, 10, 1, 2, 3, 4, 11, 0, 12, 13, 14] [10, 11, 14] mixed (by kernel_rfl) (by kernel_rfl) ?_) | (refine pwp_seq_k (fun K hK => ?_)) | (refine pwp_rg_then ?_) | (refine pwp_rg ?_) | (refine pwp_skip ?_) | ((refine pwp_cond_d (fun hcd => ?_) (fun hcd => ?_)) <;> (try simp only [hcP] at hcd) <;> (try exact cdT))) | (guard_target =~ rg _ _ _ _ _ _ _; first | (guard_target =~ rg _ _ _ [] _ _ _; first | (refine rg_end ?_)) | (refine rg_a rfl (h := ?_)) | (refine rg_v rfl (h := ?_)) | (refine rg_s rfl ?_) | (refine rg_n rfl ?_)) | (guard_target =~ SOp _ _ _ _ _ _; first | (guard_target =~ SOp _ _ ⟨_, .store _ _ _, _, _, _, none⟩ _ _ _; first | (refine n_store rfl (hK := ?_))) | (guard_target =~ SOp _ _ ⟨_, .call ⟨.value (.func 111), _, _⟩, _, _, _, none⟩ _ _ _; first | (refine n_call (f := 111) rfl Tryd.call111 (h := AEq.pure' agT (d_weight _ (by assumption) (by assumption)) (hq := ?_)))) | (guard_target =~ SOp _ _ ⟨_, .call ⟨.value (.func 89), _, _⟩, _, _, _, none⟩ _ _ _; first | (refine n_call (f := 89) rfl Tryd.call89 (h := AEq.sub' [_, _] (hc := t_shrink _ _ _ _ (by assumption) (by assumption) (by assumption)) (hq := ?_)))) | (guard_target =~ SOp _ _ ⟨_, .box _ _, _, _, _, none⟩ _ _ _; first | (refine n_box rfl (hK := ?_))) | (guard_target =~ SOp _ _ ⟨_, .call ⟨.builtin .max, _, _⟩, _, _, _, none⟩ _ _ _; first | (refine n_max_l rfl sT sT (by (try simp only [List.length_map, List.length_append, List.length_cons, List.length_nil, List.length_replicate, List.length_take, List.length_drop, List.length_set]); omega) ?_))) | (guard_target =~ dw _ _ _ _ _ _ _ _ _ _; first | ((first | guard_target =~ dw _ _ _ _ _ (0 :: _) _ _ _ _ | guard_target =~ dw _ _ _ _ _ (1 :: _) _ _ _ _); first | (refine dw_p rfl rfl (h := (fun τ => ro_v rfl (h := ro_end ⟨rfl, rfl⟩))) (hk := ?_)) | (refine dw_c rfl rfl (h := ro_v rfl (h := ro_end ⟨rfl, rfl⟩)) (hk := ?_)) | (refine dw_m rfl rfl (h := ro_v rfl (h := ro_end ⟨rfl, rfl⟩)) (h2 := allS_one (ro_v rfl (by first | (simp (disch := omega) only [go_sem, seval, ↓reduceIte, hU]; done) | rfl) (ro_end ⟨rfl, rfl⟩))) (hk := ?_))) | ((first | guard_target =~ dw _ _ _ _ _ (2 :: _) _ _ _ _ | guard_target =~ dw _ _ _ _ _ (12 :: _) _ _ _ _); first | (refine dw_p rfl rfl (h := (fun τ => ro_v rfl (h := ro_end ⟨rfl, rfl⟩))) (hk := ?_)) | (refine dw_c rfl rfl (h := ro_v rfl (h := ro_end ⟨rfl, rfl⟩)) (hk := ?_)) | (refine dw_m rfl rfl (h := ro_v rfl (h := ro_end ⟨rfl, rfl⟩)) (h2 := allS_one (ro_v rfl (by first | (simp (disch := omega) only [go_sem, seval, ↓reduceIte, hU]; done) | rfl) (ro_end ⟨rfl, rfl⟩))) (hk := ?_))) | ((first | guard_target =~ dw _ _ _ _ _ (3 :: _) _ _ _ _ | guard_target =~ dw _ _ _ _ _ (5 :: _) _ _ _ _ | guard_target =~ dw _ _ _ _ _ (7 :: _) _ _ _ _ | guard_target =~ dw _ _ _ _ _ (13 :: _) _ _ _ _); first | (refine dw_p rfl rfl (h := (fun τ => ro_v rfl (h := ro_end ⟨rfl, rfl⟩))) (hk := ?_)) | (refine dw_c rfl rfl (h := ro_v rfl (h := ro_end ⟨rfl, rfl⟩)) (hk := ?_)) | (refine dw_m rfl rfl (h := ro_v rfl (h := ro_end ⟨rfl, rfl⟩)) (h2 := allS_one (ro_v rfl (by first | (simp (disch := omega) only [go_sem, seval, ↓reduceIte, hU]; done) | rfl) (ro_end ⟨rfl, rfl⟩))) (hk := ?_))) | ((first | guard_target =~ dw _ _ _ _ _ (4 :: _) _ _ _ _ | guard_target =~ dw _ _ _ _ _ (6 :: _) _ _ _ _ | guard_target =~ dw _ _ _ _ _ (8 :: _) _ _ _ _); first | (refine dw_p rfl rfl (h := (fun τ => ro_v rfl (h := ro_end ⟨rfl, rfl⟩))) (hk := ?_)) | (refine dw_c rfl rfl (h := ro_v rfl (h := ro_end ⟨rfl, rfl⟩)) (hk := ?_)) | (refine dw_m rfl rfl (h := ro_v rfl (h := ro_end ⟨rfl, rfl⟩)) (h2 := allS_one (ro_v rfl (by first | (simp (disch := omega) only [go_sem, seval, ↓reduceIte, hU]; done) | rfl) (ro_end ⟨rfl, rfl⟩))) (hk := ?_))) | (guard_target =~ dw _ _ _ _ _ (9 :: _) _ _ _ _; first | (refine dw_p rfl rfl (h := (fun τ => ro_s (h := n_build rfl (by first | exact bd67 | exact bd112 | fail) (hK := ro_end ⟨rfl, rfl⟩)))) (hk := ?_))) | (guard_target =~ dw _ _ _ _ _ (10 :: _) _ _ _ _; first | (refine dw_w rfl rfl (h := ro_s (h := n_lit rfl (he := by first | exact eo3 | exact eo4 | exact eo9 | exact eo50 | exact eo67 | exact eo69 | exact eo112 | fail) (hK := ro_end ⟨rfl, rfl⟩))) (hk := ?_))) | (guard_target =~ dw _ _ _ _ _ (11 :: _) _ _ _ _; first | (refine dw_w rfl rfl (h := ro_s (h := n_append_row rfl (he := by first | exact eo3 | exact eo4 | exact eo9 | exact eo50 | exact eo67 | exact eo69 | exact eo112 | fail) (hK := ro_end ⟨rfl, rfl⟩))) (hk := ?_))) | (guard_target =~ dw _ _ _ _ _ (14 :: _) _ _ _ _; first | (refine dw_wn rfl rfl (h := ro_n (h := n_store rfl (hK := ro_end ⟨rfl, rfl⟩))) (hk := ?_))) | (guard_target =~ dw _ _ _ _ _ [] _ _ _ _; first | (refine dw_nil ?_))) | (guard_target =~ (_ ∨ _) ∧ _; first | ((refine end_d [0, 1] (by rw [Tryd.results83, Lf.res0]) ale_0 ?_) <;> (try (first | exact aleT | exact stq (by with_reducible rfl) | exact stq (by rfl) | exact stq (by simp (disch := omega) only [go_sem, seval, ↓reduceIte, hU]))))) | (refine hK _ _ ?_; clear hK K))
theorem t_add_c (xs : List Fl) (s : Nat) (m : Int) (n v : ByteArray) (k : Bool) (h : xs.length ≤ 100000) (hS : sumW xs ≤ 4000000000) (hb : ∀ f ∈ xs, f.n.size ≤ 1000000000 ∧ f.v.size ≤ 1000000000) (h1 : n.size ≤ 1000000000) (h2 : v.size ≤ 1000000000) (h3 : m ≤ 4000000000) (h4 : wt ⟨n, v, k⟩ ≤ m) : AEq Tryd.prog 83 [.ptr 0 0, .ag [.lit (.string n), .lit (.string v), .lit (.bool k)]] [.box [.row 1 s, i64 (sumW xs), i64 m], .row s 67 3 (xs.map flA)] (.tu []) [.box [.row 1 (s + 2), i64 (sumW (keptL xs (m - wt ⟨n, v, k⟩) ++ [flN ⟨n, v, k⟩])), i64 m], .row (s + 2) 67 3 ((keptL xs (m - wt ⟨n, v, k⟩) ++ [flN ⟨n, v, k⟩]).map flA)] := t_add xs s m ⟨n, v, k⟩ h hS hb h1 h2 h3 h4
end Go.Proofs.YtohbfcmmpaikhaaDoor

set_option linter.unusedVariables false
set_option linter.unusedSimpArgs false
namespace Go.Proofs.YtohbfcmmpaikhaaDoor
open Go Go.Lf Go.Proofs
attribute [local irreducible] Lf.rg Lf.ro Lf.PWp Lf.SOp Lf.ACall Lf.Scoped Lf.dg Lf.dw
set_option maxRecDepth 20000
set_option maxHeartbeats 4000000
attribute [local irreducible] wt
theorem t_res (xs : List Fl) (s : Nat) (m n : Int) (h : xs.length ≤ 100000) (hS : sumW xs ≤ 4000000000) (hb : ∀ f ∈ xs, f.n.size ≤ 1000000000 ∧ f.v.size ≤ 1000000000) (h1 : 0 ≤ n) (h2 : n ≤ 2147483647) : AEq Tryd.prog 69 [.ptr 0 0, i64 n] [.box [.row 1 s, i64 (sumW xs), i64 m], .row s 67 3 (xs.map flA)] (i64 0) [.box [.row 1 (s + 1), i64 (sumW (keptL xs n)), i64 n], .row (s + 1) 67 3 ((keptL xs n).map flA)] := by
  have hd : decide (0 ≤ n ∧ n ≤ 2147483647) = true := by rw [decide_eq_true_eq]; omega
  refine acall_body Tryd.func69 rfl Tryd.ntmps69 (by simp) (fun hsc => ?_); simp only [Lf.enter, Nat.reduceAdd]; clear hsc
  have hU := @hd
  repeat' (first | (guard_target =~ PWp _ _ _ _ _ _ _; first | (refine pwp_seq_k (fun K hK => ?_)) | (refine pwp_block ?_) | (refine pwp_rg_then ?_) | (refine pwp_ret ?_) | (refine pwp_skip ?_) | ((refine pwp_cond_d (fun hcd => ?_) (fun hcd => ?_)) <;> (try simp only [hcP] at hcd) <;> (try exact cdT))) | (guard_target =~ rg _ _ _ _ _ _ _; first | (guard_target =~ rg _ _ _ [] _ _ _; first | (refine rg_end ?_)) | (refine rg_a rfl (h := ?_)) | (refine rg_v rfl (h := ?_)) | (refine rg_s rfl ?_) | (refine rg_n rfl ?_)) | (guard_target =~ SOp _ _ _ _ _ _; first | (guard_target =~ SOp _ _ ⟨_, .call ⟨.value (.func 89), _, _⟩, _, _, _, none⟩ _ _ _; first | (refine n_call (f := 89) rfl Tryd.call89 (h := AEq.sub' [_, _] (hc := t_shrink _ _ _ _ (by assumption) (by assumption) (by assumption)) (hq := ?_)))) | (guard_target =~ SOp _ _ ⟨_, .store _ _ _, _, _, _, none⟩ _ _ _; first | (refine n_store rfl (hK := ?_))) | (guard_target =~ SOp _ _ ⟨_, .call ⟨.value (.func 80), _, _⟩, _, _, _, none⟩ _ _ _; first | (refine n_call (f := 80) rfl Tryd.call80 (h := AEq.pure' agT (d_may _) (hq := ?_))))) | (guard_target =~ (_ ∨ _) ∧ _; first | ((refine end_d [0, 1] (by rw [Tryd.results69, Lf.res1]) (ale_1 ?_) ?_) <;> (try (first | exact aleT | exact stq (by with_reducible rfl) | exact stq (by rfl) | exact stq (by simp (disch := omega) only [go_sem, seval, ↓reduceIte, hU]))))) | (refine hK _ _ ?_; clear hK K))
theorem t_all0 : AEq Tryd.prog 65 [.lit (.pointer none)] [] (.sl true false []) [] := by
  refine acall_body Tryd.func65 rfl Tryd.ntmps65 (by simp) (fun hsc => ?_); simp only [Lf.enter, Nat.reduceAdd]; clear hsc
  have hU := True.intro
  repeat' (first | (guard_target =~ PWp _ _ _ _ _ _ _; first | (refine pwp_seq_k (fun K hK => ?_)) | (refine pwp_rg_then ?_) | (refine pwp_ret ?_) | ((refine pwp_cond_d (fun hcd => ?_) (fun hcd => ?_)) <;> (try simp only [hcP] at hcd) <;> (try exact cdT))) | (guard_target =~ rg _ _ _ _ _ _ _; first | (guard_target =~ rg _ _ _ [] _ _ _; first | (refine rg_end ?_)) | (refine rg_a rfl (h := ?_)) | (refine rg_v rfl (h := ?_))) | (guard_target =~ (_ ∨ _) ∧ _; first | ((refine end_d [] (by rw [Tryd.results65, Lf.res1]) (ale_1 ?_) ?_) <;> (try (first | exact aleT | exact stq (by with_reducible rfl) | exact stq (by rfl) | exact stq (by simp (disch := omega) only [go_sem, seval, ↓reduceIte, hU]))))) | (refine hK _ _ ?_; clear hK K))
theorem t_all (xs : List Fl) (s : Nat) (z m : Int) (h : xs.length ≤ 100000) : AEq Tryd.prog 65 [.ptr 0 0] [.box [.row 1 s, i64 z, i64 m], .row s 67 3 (xs.map flA)] (.sl false false (xs.reverse.map flA)) [.box [.row 1 s, i64 z, i64 m], .row s 67 3 (xs.map flA)] := by
  refine acall_body Tryd.func65 rfl Tryd.ntmps65 (by simp) (fun hsc => ?_); simp only [Lf.enter, Nat.reduceAdd]; clear hsc
  have hU := True.intro
  repeat' (first | (guard_target =~ PWp _ _ _ _ _ _ _; first | (refine pwp_seq_k (fun K hK => ?_)) | (refine pwp_rg_then ?_) | (refine pwp_ret ?_) | (refine pwp_skip ?_) | ((refine pwp_cond_d (fun hcd => ?_) (fun hcd => ?_)) <;> (try simp only [hcP] at hcd) <;> (try exact cdT))) | (guard_target =~ rg _ _ _ _ _ _ _; first | (guard_target =~ rg _ _ _ [] _ _ _; first | (refine rg_end ?_)) | (refine rg_a rfl (h := ?_)) | (refine rg_v rfl (h := ?_)) | (refine rg_s rfl ?_)) | (guard_target =~ SOp _ _ _ _ _ _; first | (guard_target =~ SOp _ _ ⟨_, .call ⟨.value (.func 87), _, _⟩, _, _, _, none⟩ _ _ _; first | (refine n_call (f := 87) rfl Tryd.call87 (h := AEq.sub' [_] (hc := rev_f _ _ (by omega)) (hq := ?_)))) | (guard_target =~ SOp _ _ ⟨_, .call ⟨.value (.func 81), _, _⟩, _, _, _, none⟩ _ _ _; first | (refine n_call (f := 81) rfl Tryd.call81 (h := AEq.sub' [] (hc := clone_f_r _ _ _ (by omega)) (hq := ?_))))) | (guard_target =~ (_ ∨ _) ∧ _; first | ((refine end_d [0, 1] (by rw [Tryd.results65, Lf.res1]) (ale_1 ?_) ?_) <;> (try (first | exact aleT | exact stq (by with_reducible rfl) | exact stq (by rfl) | exact stq (by simp (disch := omega) only [go_sem, seval, ↓reduceIte, hU]))))) | (refine hK _ _ ?_; clear hK K))
theorem t_copy0 : AEq Tryd.prog 56 [.lit (.pointer none)] [] (.lit (.pointer none)) [] := by
  refine acall_body Tryd.func56 rfl Tryd.ntmps56 (by simp) (fun hsc => ?_); simp only [Lf.enter, Nat.reduceAdd]; clear hsc
  have hU := True.intro
  repeat' (first | (guard_target =~ PWp _ _ _ _ _ _ _; first | (refine pwp_seq_k (fun K hK => ?_)) | (refine pwp_rg_then ?_) | (refine pwp_ret ?_) | ((refine pwp_cond_d (fun hcd => ?_) (fun hcd => ?_)) <;> (try simp only [hcP] at hcd) <;> (try exact cdT))) | (guard_target =~ rg _ _ _ _ _ _ _; first | (guard_target =~ rg _ _ _ [] _ _ _; first | (refine rg_end ?_)) | (refine rg_a rfl (h := ?_)) | (refine rg_v rfl (h := ?_))) | (guard_target =~ (_ ∨ _) ∧ _; first | ((refine end_d [] (by rw [Tryd.results56, Lf.res1]) (ale_1 ?_) ?_) <;> (try (first | exact aleT | exact stq (by with_reducible rfl) | exact stq (by rfl) | exact stq (by simp (disch := omega) only [go_sem, seval, ↓reduceIte, hU]))))) | (refine hK _ _ ?_; clear hK K))
theorem t_copy (xs : List Fl) (s : Nat) (z m : Int) (h : xs.length ≤ 100000) : AEq Tryd.prog 56 [.ptr 0 0] [.box [.row 1 s, i64 z, i64 m], .row s 67 3 (xs.map flA)] (.ptr 2 0) [.box [.row 1 s, i64 z, i64 m], .row s 67 3 (xs.map flA), .box [.row 3 0, i64 z, i64 m], .row 0 67 3 (xs.map flA)] := by
  refine acall_body Tryd.func56 rfl Tryd.ntmps56 (by simp) (fun hsc => ?_); simp only [Lf.enter, Nat.reduceAdd]; clear hsc
  have hU := True.intro
  repeat' (first | (guard_target =~ PWp _ _ _ _ _ _ _; first | (refine pwp_draw_ord (id := 3) [0, 1, 2, 3, 4, 5, 6, 7, 8, 9, 10, 11, 12, 13, 14, 15] [4, 14] mixed (by kernel_rfl) (by kernel_rfl) ?_) | (refine pwp_seq_k (fun K hK => ?_)) | (refine pwp_rg_then ?_) | (refine pwp_ret ?_) | (refine pwp_skip ?_) | ((refine pwp_cond_d (fun hcd => ?_) (fun hcd => ?_)) <;> (try simp only [hcP] at hcd) <;> (try exact cdT))) | (guard_target =~ rg _ _ _ _ _ _ _; first | (guard_target =~ rg _ _ _ [] _ _ _; first | (refine rg_end ?_)) | (refine rg_a rfl (h := ?_)) | (refine rg_v rfl (h := ?_))) | (guard_target =~ dw _ _ _ _ _ _ _ _ _ _; first | ((first | guard_target =~ dw _ _ _ _ _ (0 :: _) _ _ _ _ | guard_target =~ dw _ _ _ _ _ (5 :: _) _ _ _ _ | guard_target =~ dw _ _ _ _ _ (9 :: _) _ _ _ _); first | (refine dw_p rfl rfl (h := (fun τ => ro_v rfl (h := ro_end ⟨rfl, rfl⟩))) (hk := ?_)) | (refine dw_c rfl rfl (h := ro_v rfl (h := ro_end ⟨rfl, rfl⟩)) (hk := ?_)) | (refine dw_m rfl rfl (h := ro_v rfl (h := ro_end ⟨rfl, rfl⟩)) (h2 := allS_one (ro_v rfl (by first | (simp (disch := omega) only [go_sem, seval, ↓reduceIte, hU]; done) | rfl) (ro_end ⟨rfl, rfl⟩))) (hk := ?_))) | ((first | guard_target =~ dw _ _ _ _ _ (1 :: _) _ _ _ _ | guard_target =~ dw _ _ _ _ _ (6 :: _) _ _ _ _ | guard_target =~ dw _ _ _ _ _ (10 :: _) _ _ _ _); first | (refine dw_p rfl rfl (h := (fun τ => ro_v rfl (h := ro_end ⟨rfl, rfl⟩))) (hk := ?_)) | (refine dw_c rfl rfl (h := ro_v rfl (h := ro_end ⟨rfl, rfl⟩)) (hk := ?_)) | (refine dw_m rfl rfl (h := ro_v rfl (h := ro_end ⟨rfl, rfl⟩)) (h2 := allS_one (ro_v rfl (by first | (simp (disch := omega) only [go_sem, seval, ↓reduceIte, hU]; done) | rfl) (ro_end ⟨rfl, rfl⟩))) (hk := ?_))) | ((first | guard_target =~ dw _ _ _ _ _ (2 :: _) _ _ _ _ | guard_target =~ dw _ _ _ _ _ (7 :: _) _ _ _ _ | guard_target =~ dw _ _ _ _ _ (11 :: _) _ _ _ _); first | (refine dw_p rfl rfl (h := (fun τ => ro_v rfl (h := ro_end ⟨rfl, rfl⟩))) (hk := ?_)) | (refine dw_c rfl rfl (h := ro_v rfl (h := ro_end ⟨rfl, rfl⟩)) (hk := ?_)) | (refine dw_m rfl rfl (h := ro_v rfl (h := ro_end ⟨rfl, rfl⟩)) (h2 := allS_one (ro_v rfl (by first | (simp (disch := omega) only [go_sem, seval, ↓reduceIte, hU]; done) | rfl) (ro_end ⟨rfl, rfl⟩))) (hk := ?_))) | ((first | guard_target =~ dw _ _ _ _ _ (3 :: _) _ _ _ _ | guard_target =~ dw _ _ _ _ _ (8 :: _) _ _ _ _ | guard_target =~ dw _ _ _ _ _ (12 :: _) _ _ _ _); first | (refine dw_p rfl rfl (h := (fun τ => ro_v rfl (h := ro_end ⟨rfl, rfl⟩))) (hk := ?_)) | (refine dw_c rfl rfl (h := ro_v rfl (h := ro_end ⟨rfl, rfl⟩)) (hk := ?_)) | (refine dw_m rfl rfl (h := ro_v rfl (h := ro_end ⟨rfl, rfl⟩)) (h2 := allS_one (ro_v rfl (by first | (simp (disch := omega) only [go_sem, seval, ↓reduceIte, hU]; done) | rfl) (ro_end ⟨rfl, rfl⟩))) (hk := ?_))) | (guard_target =~ dw _ _ _ _ _ (4 :: _) _ _ _ _; first | (refine dw_w rfl rfl (h := ro_s (h := n_call (f := 81) rfl Tryd.call81 (h := AEq.sub' [] (hc := clone_f_r _ _ _ (by omega)) (hq := ro_end ⟨rfl, rfl⟩)))) (hk := ?_))) | (guard_target =~ dw _ _ _ _ _ (13 :: _) _ _ _ _; first | (refine dw_c rfl rfl (h := ro_s (h := n_build rfl (by first | exact bd67 | exact bd112 | fail) (hK := ro_end ⟨rfl, rfl⟩))) (hk := ?_))) | (guard_target =~ dw _ _ _ _ _ (14 :: _) _ _ _ _; first | (refine dw_w rfl rfl (h := ro_s (h := n_box rfl (hK := ro_end ⟨rfl, rfl⟩))) (hk := ?_))) | (guard_target =~ dw _ _ _ _ _ (15 :: _) _ _ _ _; first | (refine dw_p rfl rfl (h := (fun τ => ro_a rfl (h := ro_end ⟨rfl, rfl⟩))) (hk := ?_))) | (guard_target =~ dw _ _ _ _ _ [] _ _ _ _; first | (refine dw_nil ?_))) | (guard_target =~ (_ ∨ _) ∧ _; first | ((refine end_d [0, 1, 3, 2] (by rw [Tryd.results56, Lf.res1]) (ale_1 ?_) ?_) <;> (try (first | exact aleT | exact stq (by with_reducible rfl) | exact stq (by rfl) | exact stq (by simp (disch := omega) only [go_sem, seval, ↓reduceIte, hU]))))) | (refine hK _ _ ?_; clear hK K))
end Go.Proofs.YtohbfcmmpaikhaaDoor

set_option linter.unusedVariables false
set_option linter.unusedSimpArgs false
namespace Go.Proofs.YtohbfcmmpaikhaaDoor
open Go Go.Lf Go.Proofs
attribute [local irreducible] Lf.rg Lf.ro Lf.PWp Lf.SOp Lf.ACall Lf.Scoped Lf.dg Lf.dw
set_option maxRecDepth 20000
set_option maxHeartbeats 4000000
theorem sumW_take : ∀ (l : List Fl) (g : Nat), sumW (l.take g) ≤ sumW l
  | [], g => by rw [List.take_nil]; exact Int.le_refl _
  | x :: l, 0 => by rw [List.take_zero, sumW_nil]; exact (sumW_pos _).1
  | x :: l, g + 1 => by
    have := sumW_take l g
    rw [List.take_succ_cons, sumW, sumW]; omega
theorem sumW_snoc {l : List Fl} {i : Nat} {x : Fl} (h : l[i]? = some x) : sumW (l.take (i + 1)) = sumW (l.take i) + wt x := by
  rw [dtake_snoc h, sumW_app]; simp only [sumW]; omega
theorem fitN_at {l : List Fl} {i : Nat} {x : Fl} {n m : Int} (h : l[i]? = some x) : fitN (l.drop i) n m = if m < n + wt x then 0 else fitN (l.drop (i + 1)) (n + wt x) m + 1 := by
  rw [ddrop_at h, fitN]
attribute [local irreducible] wt
theorem r_size (f : Bool) (R : List Fl) (m : Int) (h : R.length ≤ 100000) (hS : sumW R ≤ 4000000000) (hb : ∀ f ∈ R, f.n.size ≤ 1000000000 ∧ f.v.size ≤ 1000000000) : AEq Tryd.prog 31 [.ag [.sl f false (R.map flA), i64 m]] [] (i64 (sumW R)) [] := by
  refine acall_body Tryd.func31 rfl Tryd.ntmps31 (by simp) (fun hsc => ?_); simp only [Lf.enter, Nat.reduceAdd]; clear hsc
  have hU := True.intro
  repeat' (first | (guard_target =~ PWp _ _ _ _ _ _ _; first | (refine pwp_seq_k (fun K hK => ?_)) | (refine pwp_block ?_) | (refine pwp_rg_then ?_)) | (guard_target =~ rg _ _ _ _ _ _ _; first | (guard_target =~ rg _ _ _ [] _ _ _; first | (refine rg_end ?_)) | (refine rg_a rfl (h := ?_)) | (refine rg_s rfl ?_)) | (guard_target =~ SOp _ _ _ _ _ _; first | (guard_target =~ SOp _ _ ⟨_, .box _ _, _, _, _, none⟩ _ _ _; first | (refine n_box rfl (hK := ?_)))) | (refine hK _ _ ?_; clear hK K))
  refine pwp_loop_e [3, 4, 5, 6, 7, 8, 9, 10, 11, 12, 13, 14, 15, 16, 17, 18, 19] (fun i : Nat => [(4, i64 i), (3, i64 (sumW (R.take i)))]) (fun _ => [.box [.sl f false (R.map flA), i64 m]]) (fun i => i ≤ R.length) (fun i => R.length - i) 0 (Nat.zero_le _) ?_ rfl ?_
  · (refine ⟨⟨_, sT, ?_⟩, ⟨_, sT, ?_⟩, trivial⟩ <;> (try (first | exact aleT)))
  · rintro i hi
    simp only [mask, List.map_cons, List.map_nil, List.cons_append, List.nil_append]
    by_cases hlt : i < R.length
    · obtain ⟨x, hx⟩ := ex_at hlt
      have hxb := hb x (List.mem_of_getElem? hx)
      have hz := sumW_take R (i + 1)
      have hp := (sumW_pos (R.take (i + 1))).1
      have hs := sumW_snoc hx
      rw [hs] at hz hp
      have hU := @hs
      repeat' (first | (guard_target =~ PWp _ _ _ _ _ _ _; first | (refine pwp_seq_k (fun K hK => ?_)) | (refine pwp_block ?_) | (refine pwp_rg_then ?_) | (refine pwp_rg ?_) | (refine pwp_skip ?_) | ((refine pwp_cond_d (fun hcd => ?_) (fun hcd => ?_)) <;> (try simp only [hcP] at hcd) <;> (try exact cdT))) | (guard_target =~ rg _ _ _ _ _ _ _; first | (guard_target =~ rg _ _ _ [] _ _ _; first | (refine rg_end ?_)) | (refine rg_a rfl (h := ?_)) | (refine rg_v rfl (h := ?_)) | (refine rg_s rfl ?_)) | (guard_target =~ SOp _ _ _ _ _ _; first | (guard_target =~ SOp _ _ ⟨_, .call ⟨.value (.func 33), _, _⟩, _, _, _, none⟩ _ _ _; first | (refine n_call (f := 33) rfl Tryd.call33 (h := AEq.pure' agT (r_weight _ (by omega) (by omega)) (hq := ?_)))) | (guard_target =~ SOp _ _ ⟨_, .indexAddr _ _ _, _, _, _, none⟩ _ _ _; first | (refine n_index rfl (hK := ?_)))) | (refine hK _ _ ?_; clear hK K))
      refine ⟨i + 1, by omega, by omega, ?_, (by repeat' (first | exact agr_refl | refine agr_cons (by rfl) ?_)), (by first | rfl | (simp (disch := omega) only [go_sem, seval, ↓reduceIte, hU]; done) | (simp (disch := omega) only [go_sem, seval, ↓reduceIte, hU]; rfl))⟩
      (refine ⟨⟨_, sT, ?_⟩, ⟨_, sT, ?_⟩, trivial⟩ <;> (try (first | exact aleT)))
      all_goals exact ale_i hs.symm
    · obtain rfl : i = R.length := by omega
      have hs : R.take R.length = R := List.take_length
      have hU := @hs
      repeat' (first | (guard_target =~ PWp _ _ _ _ _ _ _; first | (refine pwp_seq_k (fun K hK => ?_)) | (refine pwp_rg_then ?_) | (refine pwp_ret ?_) | (refine pwp_exit ?_) | ((refine pwp_cond_d (fun hcd => ?_) (fun hcd => ?_)) <;> (try simp only [hcP] at hcd) <;> (try exact cdT))) | (guard_target =~ rg _ _ _ _ _ _ _; first | (guard_target =~ rg _ _ _ [] _ _ _; first | (refine rg_end ?_)) | (refine rg_a rfl (h := ?_)) | (refine rg_v rfl (h := ?_))) | (guard_target =~ (_ ∨ _) ∧ _; first | ((refine end_d [] (by rw [Tryd.results31, Lf.res1]) (ale_1 ?_) ?_) <;> (try (first | exact aleT | exact stq (by with_reducible rfl) | exact stq (by rfl) | exact stq (by simp (disch := omega) only [go_sem, seval, ↓reduceIte, hU]))))) | (refine hK _ _ ?_; clear hK K) | (apply_assumption (exfalso := false) (symm := false)))
theorem r_fit (f : Bool) (l : List Fl) (most : Int) (h : l.length ≤ 100000) (hS : sumW l ≤ 4000000000) (hb : ∀ f ∈ l, f.n.size ≤ 1000000000 ∧ f.v.size ≤ 1000000000) : AEq Tryd.prog 84 [.sl f false (l.map flA), i64 most] [] (.sl false false ((l.take (fitN l 0 most)).map flA)) [] := by
  refine acall_body Tryd.func84 rfl Tryd.ntmps84 (by simp) (fun hsc => ?_); simp only [Lf.enter, Nat.reduceAdd]; clear hsc
  have hU := True.intro
  repeat' (first | (guard_target =~ PWp _ _ _ _ _ _ _; first | (refine pwp_seq_k (fun K hK => ?_)) | (refine pwp_block ?_) | (refine pwp_rg_then ?_)) | (guard_target =~ rg _ _ _ _ _ _ _; first | (guard_target =~ rg _ _ _ [] _ _ _; first | (refine rg_end ?_)) | (refine rg_a rfl (h := ?_))) | (refine hK _ _ ?_; clear hK K))
  refine pwp_loop_e [4, 5, 6, 7, 8, 9, 10, 11, 12, 13, 14, 15, 16, 17, 18, 19, 20, 21, 22, 23, 24, 25] (fun i : Nat => [(6, i64 i), (5, i64 (sumW (l.take i)))]) (fun _ => []) (fun i => i ≤ l.length ∧ fitN l 0 most = i + fitN (l.drop i) (sumW (l.take i)) most) (fun i => l.length - i) 0 ⟨Nat.zero_le _, by rw [List.take_zero, sumW_nil, List.drop_zero, Nat.zero_add]⟩ ?_ rfl ?_
  · (refine ⟨⟨_, sT, ?_⟩, ⟨_, sT, ?_⟩, trivial⟩ <;> (try (first | exact aleT)))
  · rintro i ⟨hi, hk⟩
    simp only [mask, List.map_cons, List.map_nil, List.cons_append, List.nil_append]
    by_cases hlt : i < l.length
    · obtain ⟨x, hx⟩ := ex_at hlt
      have hxb := hb x (List.mem_of_getElem? hx)
      have hz := sumW_take l (i + 1)
      have hp := (sumW_pos (l.take (i + 1))).1
      have hp1 := (sumW_pos (l.take i)).1
      have hs := sumW_snoc hx
      rw [fitN_at hx] at hk
      rw [hs] at hz hp
      by_cases hm : most < sumW (l.take i) + wt x
      · rw [if_pos hm, Nat.add_zero] at hk
        repeat' (first | (guard_target =~ PWp _ _ _ _ _ _ _; first | (refine pwp_seq_k (fun K hK => ?_)) | (refine pwp_block ?_) | (refine pwp_rg_then ?_) | (refine pwp_ret ?_) | (refine pwp_skip ?_) | ((refine pwp_cond_d (fun hcd => ?_) (fun hcd => ?_)) <;> (try simp only [hcP] at hcd) <;> (try exact cdT))) | (guard_target =~ rg _ _ _ _ _ _ _; first | (guard_target =~ rg _ _ _ [] _ _ _; first | (refine rg_end ?_)) | (refine rg_a rfl (h := ?_)) | (refine rg_v rfl (h := ?_)) | (refine rg_s rfl ?_)) | (guard_target =~ SOp _ _ _ _ _ _; first | (guard_target =~ SOp _ _ ⟨_, .call ⟨.value (.func 33), _, _⟩, _, _, _, none⟩ _ _ _; first | (refine n_call (f := 33) rfl Tryd.call33 (h := AEq.pure' agT (r_weight _ (by omega) (by omega)) (hq := ?_)))) | (guard_target =~ SOp _ _ ⟨_, .slice _ _ _ _ _, _, _, _, none⟩ _ _ _; first | (refine n_slice rfl (hg := (fun _ => (by simp only [go_sem, seval, ↓reduceIte, hU] <;> rfl))) (hK := ?_))) | (guard_target =~ SOp _ _ ⟨_, .indexAddr _ _ _, _, _, _, none⟩ _ _ _; first | (refine n_index rfl (hK := ?_)))) | (guard_target =~ (_ ∨ _) ∧ _; first | ((refine end_d [] (by rw [Tryd.results84, Lf.res1]) (ale_1 ?_) ?_) <;> (try (first | exact aleT | exact stq (by with_reducible rfl) | exact stq (by rfl) | exact stq (by simp (disch := omega) only [go_sem, seval, ↓reduceIte, hU]))))) | (refine hK _ _ ?_; clear hK K))
        all_goals exact ale_eq (by rw [hk])
      · rw [if_neg hm, ← hs] at hk
        have hU := @hs
        repeat' (first | (guard_target =~ PWp _ _ _ _ _ _ _; first | (refine pwp_seq_k (fun K hK => ?_)) | (refine pwp_block ?_) | (refine pwp_rg_then ?_) | (refine pwp_skip ?_) | ((refine pwp_cond_d (fun hcd => ?_) (fun hcd => ?_)) <;> (try simp only [hcP] at hcd) <;> (try exact cdT))) | (guard_target =~ rg _ _ _ _ _ _ _; first | (guard_target =~ rg _ _ _ [] _ _ _; first | (refine rg_end ?_)) | (refine rg_a rfl (h := ?_)) | (refine rg_v rfl (h := ?_)) | (refine rg_s rfl ?_)) | (guard_target =~ SOp _ _ _ _ _ _; first | (guard_target =~ SOp _ _ ⟨_, .call ⟨.value (.func 33), _, _⟩, _, _, _, none⟩ _ _ _; first | (refine n_call (f := 33) rfl Tryd.call33 (h := AEq.pure' agT (r_weight _ (by omega) (by omega)) (hq := ?_)))) | (guard_target =~ SOp _ _ ⟨_, .indexAddr _ _ _, _, _, _, none⟩ _ _ _; first | (refine n_index rfl (hK := ?_)))) | (refine hK _ _ ?_; clear hK K))
        refine ⟨i + 1, ⟨by omega, by rw [hk]; omega⟩, by omega, ?_, (by repeat' (first | exact agr_refl | refine agr_cons (by rfl) ?_)), (by first | rfl | (simp (disch := omega) only [go_sem, seval, ↓reduceIte, hU]; done) | (simp (disch := omega) only [go_sem, seval, ↓reduceIte, hU]; rfl))⟩
        (refine ⟨⟨_, sT, ?_⟩, ⟨_, sT, ?_⟩, trivial⟩ <;> (try (first | exact aleT)))
        all_goals exact ale_i hs.symm
    · have he : fitN l 0 most = l.length := by rw [hk, List.drop_eq_nil_of_le (by omega)]; simp only [fitN]; omega
      have ht : l.take l.length = l := List.take_length
      repeat' (first | (guard_target =~ PWp _ _ _ _ _ _ _; first | (refine pwp_seq_k (fun K hK => ?_)) | (refine pwp_rg_then ?_) | (refine pwp_ret ?_) | (refine pwp_exit ?_) | ((refine pwp_cond_d (fun hcd => ?_) (fun hcd => ?_)) <;> (try simp only [hcP] at hcd) <;> (try exact cdT))) | (guard_target =~ rg _ _ _ _ _ _ _; first | (guard_target =~ rg _ _ _ [] _ _ _; first | (refine rg_end ?_)) | (refine rg_a rfl (h := ?_)) | (refine rg_v rfl (h := ?_))) | (guard_target =~ (_ ∨ _) ∧ _; first | ((refine end_d [] (by rw [Tryd.results84, Lf.res1]) (ale_1 ?_) ?_) <;> (try (first | exact aleT | exact stq (by with_reducible rfl) | exact stq (by rfl) | exact stq (by simp (disch := omega) only [go_sem, seval, ↓reduceIte, hU]))))) | (refine hK _ _ ?_; clear hK K) | (apply_assumption (exfalso := false) (symm := false)))
      all_goals (rw [he, ht]; cases f <;> first | exact ale_refl | exact ale_full)
def fl1 (f : Fl) : List Fl := [flN f]
theorem fl1_len (f : Fl) : (fl1 f).length = 1 := rfl
theorem fl1_is {f : Fl} : [[AV.lit (Value.string f.n), AV.lit (Value.string f.v), AV.lit (Value.bool false)]] = List.map flA (fl1 f) := rfl
def addL (f : Fl) (l : List Fl) : List Fl := flN f :: l
theorem fl1_app {f : Fl} {l : List Fl} : List.map flA (fl1 f) ++ List.map flA l = List.map flA (addL f l) := rfl
theorem r_weight_c (n v : ByteArray) (k : Bool) (h1 : n.size ≤ 1000000000) (h2 : v.size ≤ 1000000000) : AEq Tryd.prog 33 [.ag [.lit (.string n), .lit (.string v), .lit (.bool k)]] [] (i64 (wt ⟨n, v, k⟩)) [] := r_weight ⟨n, v, k⟩ h1 h2
theorem wt_no (f : Fl) : wt ⟨f.n, f.v, false⟩ = wt f := wt_N f
theorem r_add_big_r (f1 : Bool) (R : List Fl) (m : Int) (f : Fl) (h1 : f.n.size ≤ 1000000000) (h2 : f.v.size ≤ 1000000000) (h3 : m < wt f) : AEq Tryd.prog 61 [.ag [.sl f1 false (R.map flA), i64 m], .ag (flA f)] [] (.ag [.sl true false [], i64 m]) [] := by
  refine acall_body Tryd.func61 rfl Tryd.ntmps61 (by simp) (fun hsc => ?_); simp only [Lf.enter, Nat.reduceAdd]; clear hsc
  have hU := @wt_no
  repeat' (first | (guard_target =~ PWp _ _ _ _ _ _ _; first | (refine pwp_seq_k (fun K hK => ?_)) | (refine pwp_rg_then ?_) | (refine pwp_draw mixed (by kernel_rfl) ?_) | (refine pwp_ret ?_) | ((refine pwp_cond_d (fun hcd => ?_) (fun hcd => ?_)) <;> (try simp only [hcP] at hcd) <;> (try exact cdT))) | (guard_target =~ rg _ _ _ _ _ _ _; first | (guard_target =~ rg _ _ _ [] _ _ _; first | (refine rg_end ?_)) | (refine rg_v rfl (h := ?_)) | (refine rg_s rfl ?_) | (refine rg_n rfl ?_)) | (guard_target =~ SOp _ _ _ _ _ _; first | (guard_target =~ SOp _ _ ⟨_, .store _ _ _, _, _, _, none⟩ _ _ _; first | (refine n_store rfl (hK := ?_))) | (guard_target =~ SOp _ _ ⟨_, .box _ _, _, _, _, none⟩ _ _ _; first | (refine n_box rfl (hK := ?_))) | (guard_target =~ SOp _ _ ⟨_, .build _ _, _, _, _, none⟩ _ _ _; first | (refine n_build rfl (by first | exact bd52 | exact bd67 | fail) (hK := ?_))) | (guard_target =~ SOp _ _ ⟨_, .alloc _, _, _, _, none⟩ _ _ _; first | (refine n_alloc rfl (by first | exact zv3 | exact zv4 | exact zv9 | exact zv50 | exact zv52 | exact zv67 | fail) (hK := ?_)))) | (guard_target =~ dg _ _ _ _ _ _ _; first | (guard_target =~ dg _ _ _ (⟨_, .load _ _, _, _, _, none⟩ :: _) _ _ _; first | (refine dg_v rfl (hk := ?_))) | (guard_target =~ dg _ _ _ (⟨_, .fieldAddr _ _ _, _, _, _, none⟩ :: _) _ _ _; first | (refine dg_v rfl (hk := ?_))) | (guard_target =~ dg _ _ _ (⟨_, .call ⟨.value (.func 33), _, _⟩, _, _, _, none⟩ :: _) _ _ _; first | (refine dg_c (x := _) (h := ro_s (h := n_call (f := 33) rfl Tryd.call33 (h := AEq.pure' agT (r_weight_c _ _ _ (by assumption) (by assumption)) (hq := ro_end ⟨rfl, rfl⟩)))) (hk := ?_))) | (guard_target =~ dg _ _ _ (⟨_, .binOp _ _ _ _ _, _, _, _, none⟩ :: _) _ _ _; first | (refine dg_v rfl (hk := ?_))) | (guard_target =~ dg _ _ _ [] _ _ _; first | (refine dg_nil ?_))) | (guard_target =~ (_ ∨ _) ∧ _; first | ((refine end_q [] (by first | exact .inr rfl | exact .inl rfl | fail) (by rfl) (by rw [Tryd.results61, Lf.resM1]; (try simp (disch := omega) only [Lf.resOne, go_sem, seval, ↓reduceIte, hU]); rfl) sT sT (ale_1 ?_) ?_) <;> (try (first | exact aleT | exact stq (by with_reducible rfl) | exact stq (by rfl) | exact stq (by simp (disch := omega) only [go_sem, seval, ↓reduceIte, hU]))))) | (refine hK _ _ ?_; clear hK K))
theorem r_add_big (f1 : Bool) (R : List Fl) (m : Int) (f : Fl) (h1 : f.n.size ≤ 1000000000) (h2 : f.v.size ≤ 1000000000) (h3 : m < wt f) : AEq Tryd.prog 61 [.ag [.sl f1 false (R.map flA), i64 m], .ag (flA f)] [] (.ag [.sl true false (xsE.reverse.map flA), i64 m]) [] := r_add_big_r f1 R m f h1 h2 h3
theorem r_add0_r (f1 : Bool) (R : List Fl) (m : Int) (f : Fl) (h : R.length ≤ 100000) (hS : sumW R ≤ 4000000000) (hb : ∀ f ∈ R, f.n.size ≤ 1000000000 ∧ f.v.size ≤ 1000000000) (h1 : f.n.size ≤ 1000000000) (h2 : f.v.size ≤ 1000000000) (h3 : wt f ≤ m) (h4 : m ≤ 4000000000) (hne : R.take (fitN R 0 (m - wt f)) = []) : AEq Tryd.prog 61 [.ag [.sl f1 false (R.map flA), i64 m], .ag (flA f)] [] (.ag [.sl true false ((fl1 f).map flA), i64 m]) [] := by
  have hp := wt_pos f
  have hfl := fitN_len (m - wt f) R 0
  refine acall_body Tryd.func61 rfl Tryd.ntmps61 (by simp) (fun hsc => ?_); simp only [Lf.enter, Nat.reduceAdd]; clear hsc
  have hU := And.intro @wt_no ( And.intro @fl1_is ( And.intro @fl1_app (@hne)))
  repeat' (first | (guard_target =~ PWp _ _ _ _ _ _ _; first | (refine pwp_draw_ord (id := 4) [0, 1, 2, 3, 4, 5, 6, 7, 8, 9, 10, 11, 12, 13, 14] [1, 10, 14] mixed (by kernel_rfl) (by kernel_rfl) ?_) | (refine pwp_seq_k (fun K hK => ?_)) | (refine pwp_rg_then ?_) | (refine pwp_draw mixed (by kernel_rfl) ?_) | (refine pwp_ret ?_) | (refine pwp_skip ?_) | ((refine pwp_cond_d (fun hcd => ?_) (fun hcd => ?_)) <;> (try simp only [hcP] at hcd) <;> (try exact cdT))) | (guard_target =~ rg _ _ _ _ _ _ _; first | (guard_target =~ rg _ _ _ [] _ _ _; first | (refine rg_end ?_)) | (refine rg_v rfl (h := ?_)) | (refine rg_s rfl ?_) | (refine rg_n rfl ?_)) | (guard_target =~ SOp _ _ _ _ _ _; first | (guard_target =~ SOp _ _ ⟨_, .store _ _ _, _, _, _, none⟩ _ _ _; first | (refine n_store rfl (hK := ?_))) | (guard_target =~ SOp _ _ ⟨_, .box _ _, _, _, _, none⟩ _ _ _; first | (refine n_box rfl (hK := ?_))) | (guard_target =~ SOp _ _ ⟨_, .alloc _, _, _, _, none⟩ _ _ _; first | (refine n_alloc rfl (by first | exact zv3 | exact zv4 | exact zv9 | exact zv50 | exact zv52 | exact zv67 | fail) (hK := ?_)))) | (guard_target =~ dg _ _ _ _ _ _ _; first | (guard_target =~ dg _ _ _ (⟨_, .load _ _, _, _, _, none⟩ :: _) _ _ _; first | (refine dg_v rfl (hk := ?_))) | (guard_target =~ dg _ _ _ (⟨_, .fieldAddr _ _ _, _, _, _, none⟩ :: _) _ _ _; first | (refine dg_v rfl (hk := ?_))) | (guard_target =~ dg _ _ _ (⟨_, .call ⟨.value (.func 33), _, _⟩, _, _, _, none⟩ :: _) _ _ _; first | (refine dg_c (x := _) (h := ro_s (h := n_call (f := 33) rfl Tryd.call33 (h := AEq.pure' agT (r_weight_c _ _ _ (by assumption) (by assumption)) (hq := ro_end ⟨rfl, rfl⟩)))) (hk := ?_))) | (guard_target =~ dg _ _ _ (⟨_, .binOp _ _ _ _ _, _, _, _, none⟩ :: _) _ _ _; first | (refine dg_v rfl (hk := ?_))) | (guard_target =~ dg _ _ _ [] _ _ _; first | (refine dg_nil ?_))) | (guard_target =~ dw _ _ _ _ _ _ _ _ _ _; first | ((first | guard_target =~ dw _ _ _ _ _ (0 :: _) _ _ _ _ | guard_target =~ dw _ _ _ _ _ (3 :: _) _ _ _ _ | guard_target =~ dw _ _ _ _ _ (5 :: _) _ _ _ _ | guard_target =~ dw _ _ _ _ _ (6 :: _) _ _ _ _ | guard_target =~ dw _ _ _ _ _ (12 :: _) _ _ _ _); first | (refine dw_p rfl rfl (h := (fun τ => ro_v rfl (h := ro_end ⟨rfl, rfl⟩))) (hk := ?_)) | (refine dw_c rfl rfl (h := ro_v rfl (h := ro_end ⟨rfl, rfl⟩)) (hk := ?_)) | (refine dw_m rfl rfl (h := ro_v rfl (h := ro_end ⟨rfl, rfl⟩)) (h2 := allS_one (ro_v rfl (by first | (simp (disch := omega) only [go_sem, seval, ↓reduceIte, hU]; done) | rfl) (ro_end ⟨rfl, rfl⟩))) (hk := ?_)) | (refine dw_m rfl rfl (h := ro_v rfl (h := ro_end ⟨rfl, rfl⟩)) (h2 := allS_two (ro_v rfl (by first | (simp (disch := omega) only [go_sem, seval, ↓reduceIte, hU]; done) | rfl) (ro_end ⟨rfl, rfl⟩)) (ro_v rfl (by first | (simp (disch := omega) only [go_sem, seval, ↓reduceIte, hU]; done) | rfl) (ro_end ⟨rfl, rfl⟩))) (hk := ?_))) | (guard_target =~ dw _ _ _ _ _ (1 :: _) _ _ _ _; first | (refine dw_w rfl rfl (h := ro_s (h := n_lit rfl (he := by first | exact eo3 | exact eo4 | exact eo9 | exact eo50 | exact eo52 | exact eo67 | fail) (hK := ro_end ⟨rfl, rfl⟩))) (hk := ?_))) | ((first | guard_target =~ dw _ _ _ _ _ (2 :: _) _ _ _ _ | guard_target =~ dw _ _ _ _ _ (4 :: _) _ _ _ _ | guard_target =~ dw _ _ _ _ _ (11 :: _) _ _ _ _); first | (refine dw_p rfl rfl (h := (fun τ => ro_v rfl (h := ro_end ⟨rfl, rfl⟩))) (hk := ?_)) | (refine dw_c rfl rfl (h := ro_v rfl (h := ro_end ⟨rfl, rfl⟩)) (hk := ?_)) | (refine dw_m rfl rfl (h := ro_v rfl (h := ro_end ⟨rfl, rfl⟩)) (h2 := allS_one (ro_v rfl (by first | (simp (disch := omega) only [go_sem, seval, ↓reduceIte, hU]; done) | rfl) (ro_end ⟨rfl, rfl⟩))) (hk := ?_)) | (refine dw_m rfl rfl (h := ro_v rfl (h := ro_end ⟨rfl, rfl⟩)) (h2 := allS_two (ro_v rfl (by first | (simp (disch := omega) only [go_sem, seval, ↓reduceIte, hU]; done) | rfl) (ro_end ⟨rfl, rfl⟩)) (ro_v rfl (by first | (simp (disch := omega) only [go_sem, seval, ↓reduceIte, hU]; done) | rfl) (ro_end ⟨rfl, rfl⟩))) (hk := ?_))) | (guard_target =~ dw _ _ _ _ _ (7 :: _) _ _ _ _; first | (refine dw_p rfl rfl (h := (fun τ => ro_s (h := n_call (f := 33) rfl Tryd.call33 (h := AEq.pure' agT (r_weight_c _ _ _ (by assumption) (by assumption)) (hq := ro_end ⟨rfl, rfl⟩))))) (hk := ?_))) | (guard_target =~ dw _ _ _ _ _ (8 :: _) _ _ _ _; first | (refine dw_p rfl rfl (h := (fun τ => ro_v rfl (h := ro_end ⟨rfl, rfl⟩))) (hk := ?_)) | (refine dw_c rfl rfl (h := ro_v rfl (h := ro_end ⟨rfl, rfl⟩)) (hk := ?_)) | (refine dw_m rfl rfl (h := ro_v rfl (h := ro_end ⟨rfl, rfl⟩)) (h2 := allS_one (ro_v rfl (by first | (simp (disch := omega) only [go_sem, seval, ↓reduceIte, hU]; done) | rfl) (ro_end ⟨rfl, rfl⟩))) (hk := ?_)) | (refine dw_m rfl rfl (h := ro_v rfl (h := ro_end ⟨rfl, rfl⟩)) (h2 := allS_two (ro_v rfl (by first | (simp (disch := omega) only [go_sem, seval, ↓reduceIte, hU]; done) | rfl) (ro_end ⟨rfl, rfl⟩)) (ro_v rfl (by first | (simp (disch := omega) only [go_sem, seval, ↓reduceIte, hU]; done) | rfl) (ro_end ⟨rfl, rfl⟩))) (hk := ?_))) | (guard_target =~ dw _ _ _ _ _ (9 :: _) _ _ _ _; first | (refine dw_p rfl rfl (h := (fun τ => ro_s (h := n_call (f := 84) rfl Tryd.call84 (h := AEq.pure' agT (r_fit _ _ _ (by assumption) (by assumption) (by assumption)) (hq := ro_end ⟨rfl, rfl⟩))))) (hk := ?_))) | (guard_target =~ dw _ _ _ _ _ (10 :: _) _ _ _ _; first | (refine dw_w rfl rfl (h := ro_s (h := n_append_none rfl sT (by first | exact eo3 | exact eo4 | exact eo9 | exact eo50 | exact eo52 | exact eo67 | fail) sT sT sT (by first | rfl | assumption | fail) sT (ro_end ⟨rfl, rfl⟩))) (hk := ?_))) | (guard_target =~ dw _ _ _ _ _ (13 :: _) _ _ _ _; first | (refine dw_p rfl rfl (h := (fun τ => ro_s (h := n_build rfl (by first | exact bd52 | exact bd67 | fail) (hK := ro_end ⟨rfl, rfl⟩)))) (hk := ?_))) | (guard_target =~ dw _ _ _ _ _ (14 :: _) _ _ _ _; first | (refine dw_wn rfl rfl (h := ro_n (h := n_store rfl (hK := ro_end ⟨rfl, rfl⟩))) (hk := ?_))) | (guard_target =~ dw _ _ _ _ _ [] _ _ _ _; first | (refine dw_nil ?_))) | (guard_target =~ (_ ∨ _) ∧ _; first | ((refine end_q [] (by first | exact .inr rfl | exact .inl rfl | fail) (by rfl) (by rw [Tryd.results61, Lf.resM1]; (try simp (disch := omega) only [Lf.resOne, go_sem, seval, ↓reduceIte, hU]); rfl) sT sT (ale_1 ?_) ?_) <;> (try (first | exact aleT | exact stq (by with_reducible rfl) | exact stq (by rfl) | exact stq (by simp (disch := omega) only [go_sem, seval, ↓reduceIte, hU]))))) | (refine hK _ _ ?_; clear hK K))
theorem r_add1_r (f1 : Bool) (R : List Fl) (m : Int) (f : Fl) (h : R.length ≤ 100000) (hS : sumW R ≤ 4000000000) (hb : ∀ f ∈ R, f.n.size ≤ 1000000000 ∧ f.v.size ≤ 1000000000) (h1 : f.n.size ≤ 1000000000) (h2 : f.v.size ≤ 1000000000) (h3 : wt f ≤ m) (h4 : m ≤ 4000000000) (hne : ¬ R.take (fitN R 0 (m - wt f)) = []) : AEq Tryd.prog 61 [.ag [.sl f1 false (R.map flA), i64 m], .ag (flA f)] [] (.ag [.sl false false ((addL f (R.take (fitN R 0 (m - wt f)))).map flA), i64 m]) [] := by
  have hp := wt_pos f
  have hfl := fitN_len (m - wt f) R 0
  have hfl1 := fl1_len f
  have hne2 : List.map flA (R.take (fitN R 0 (m - wt f))) ≠ [] := by intro e; exact hne (List.map_eq_nil_iff.1 e)
  refine acall_body Tryd.func61 rfl Tryd.ntmps61 (by simp) (fun hsc => ?_); simp only [Lf.enter, Nat.reduceAdd]; clear hsc
  have hU := And.intro @wt_no ( And.intro @fl1_is (@fl1_app))
  repeat' (first | (guard_target =~ PWp _ _ _ _ _ _ _; first | (refine pwp_draw_ord (id := 4) [0, 1, 2, 3, 4, 5, 6, 7, 8, 9, 10, 11, 12, 13, 14] [1, 10, 14] mixed (by kernel_rfl) (by kernel_rfl) ?_) | (refine pwp_seq_k (fun K hK => ?_)) | (refine pwp_rg_then ?_) | (refine pwp_draw mixed (by kernel_rfl) ?_) | (refine pwp_ret ?_) | (refine pwp_skip ?_) | ((refine pwp_cond_d (fun hcd => ?_) (fun hcd => ?_)) <;> (try simp only [hcP] at hcd) <;> (try exact cdT))) | (guard_target =~ rg _ _ _ _ _ _ _; first | (guard_target =~ rg _ _ _ [] _ _ _; first | (refine rg_end ?_)) | (refine rg_v rfl (h := ?_)) | (refine rg_s rfl ?_) | (refine rg_n rfl ?_)) | (guard_target =~ SOp _ _ _ _ _ _; first | (guard_target =~ SOp _ _ ⟨_, .store _ _ _, _, _, _, none⟩ _ _ _; first | (refine n_store rfl (hK := ?_))) | (guard_target =~ SOp _ _ ⟨_, .box _ _, _, _, _, none⟩ _ _ _; first | (refine n_box rfl (hK := ?_))) | (guard_target =~ SOp _ _ ⟨_, .alloc _, _, _, _, none⟩ _ _ _; first | (refine n_alloc rfl (by first | exact zv3 | exact zv4 | exact zv9 | exact zv50 | exact zv52 | exact zv67 | fail) (hK := ?_)))) | (guard_target =~ dg _ _ _ _ _ _ _; first | (guard_target =~ dg _ _ _ (⟨_, .load _ _, _, _, _, none⟩ :: _) _ _ _; first | (refine dg_v rfl (hk := ?_))) | (guard_target =~ dg _ _ _ (⟨_, .fieldAddr _ _ _, _, _, _, none⟩ :: _) _ _ _; first | (refine dg_v rfl (hk := ?_))) | (guard_target =~ dg _ _ _ (⟨_, .call ⟨.value (.func 33), _, _⟩, _, _, _, none⟩ :: _) _ _ _; first | (refine dg_c (x := _) (h := ro_s (h := n_call (f := 33) rfl Tryd.call33 (h := AEq.pure' agT (r_weight_c _ _ _ (by assumption) (by assumption)) (hq := ro_end ⟨rfl, rfl⟩)))) (hk := ?_))) | (guard_target =~ dg _ _ _ (⟨_, .binOp _ _ _ _ _, _, _, _, none⟩ :: _) _ _ _; first | (refine dg_v rfl (hk := ?_))) | (guard_target =~ dg _ _ _ [] _ _ _; first | (refine dg_nil ?_))) | (guard_target =~ dw _ _ _ _ _ _ _ _ _ _; first | ((first | guard_target =~ dw _ _ _ _ _ (0 :: _) _ _ _ _ | guard_target =~ dw _ _ _ _ _ (3 :: _) _ _ _ _ | guard_target =~ dw _ _ _ _ _ (5 :: _) _ _ _ _ | guard_target =~ dw _ _ _ _ _ (6 :: _) _ _ _ _ | guard_target =~ dw _ _ _ _ _ (12 :: _) _ _ _ _); first | (refine dw_p rfl rfl (h := (fun τ => ro_v rfl (h := ro_end ⟨rfl, rfl⟩))) (hk := ?_)) | (refine dw_c rfl rfl (h := ro_v rfl (h := ro_end ⟨rfl, rfl⟩)) (hk := ?_)) | (refine dw_m rfl rfl (h := ro_v rfl (h := ro_end ⟨rfl, rfl⟩)) (h2 := allS_one (ro_v rfl (by first | (simp (disch := omega) only [go_sem, seval, ↓reduceIte, hU]; done) | rfl) (ro_end ⟨rfl, rfl⟩))) (hk := ?_)) | (refine dw_m rfl rfl (h := ro_v rfl (h := ro_end ⟨rfl, rfl⟩)) (h2 := allS_two (ro_v rfl (by first | (simp (disch := omega) only [go_sem, seval, ↓reduceIte, hU]; done) | rfl) (ro_end ⟨rfl, rfl⟩)) (ro_v rfl (by first | (simp (disch := omega) only [go_sem, seval, ↓reduceIte, hU]; done) | rfl) (ro_end ⟨rfl, rfl⟩))) (hk := ?_))) | (guard_target =~ dw _ _ _ _ _ (1 :: _) _ _ _ _; first | (refine dw_w rfl rfl (h := ro_s (h := n_lit rfl (he := by first | exact eo3 | exact eo4 | exact eo9 | exact eo50 | exact eo52 | exact eo67 | fail) (hK := ro_end ⟨rfl, rfl⟩))) (hk := ?_))) | ((first | guard_target =~ dw _ _ _ _ _ (2 :: _) _ _ _ _ | guard_target =~ dw _ _ _ _ _ (4 :: _) _ _ _ _ | guard_target =~ dw _ _ _ _ _ (11 :: _) _ _ _ _); first | (refine dw_p rfl rfl (h := (fun τ => ro_v rfl (h := ro_end ⟨rfl, rfl⟩))) (hk := ?_)) | (refine dw_c rfl rfl (h := ro_v rfl (h := ro_end ⟨rfl, rfl⟩)) (hk := ?_)) | (refine dw_m rfl rfl (h := ro_v rfl (h := ro_end ⟨rfl, rfl⟩)) (h2 := allS_one (ro_v rfl (by first | (simp (disch := omega) only [go_sem, seval, ↓reduceIte, hU]; done) | rfl) (ro_end ⟨rfl, rfl⟩))) (hk := ?_)) | (refine dw_m rfl rfl (h := ro_v rfl (h := ro_end ⟨rfl, rfl⟩)) (h2 := allS_two (ro_v rfl (by first | (simp (disch := omega) only [go_sem, seval, ↓reduceIte, hU]; done) | rfl) (ro_end ⟨rfl, rfl⟩)) (ro_v rfl (by first | (simp (disch := omega) only [go_sem, seval, ↓reduceIte, hU]; done) | rfl) (ro_end ⟨rfl, rfl⟩))) (hk := ?_))) | (guard_target =~ dw _ _ _ _ _ (7 :: _) _ _ _ _; first | (refine dw_p rfl rfl (h := (fun τ => ro_s (h := n_call (f := 33) rfl Tryd.call33 (h := AEq.pure' agT (r_weight_c _ _ _ (by assumption) (by assumption)) (hq := ro_end ⟨rfl, rfl⟩))))) (hk := ?_))) | (guard_target =~ dw _ _ _ _ _ (8 :: _) _ _ _ _; first | (refine dw_p rfl rfl (h := (fun τ => ro_v rfl (h := ro_end ⟨rfl, rfl⟩))) (hk := ?_)) | (refine dw_c rfl rfl (h := ro_v rfl (h := ro_end ⟨rfl, rfl⟩)) (hk := ?_)) | (refine dw_m rfl rfl (h := ro_v rfl (h := ro_end ⟨rfl, rfl⟩)) (h2 := allS_one (ro_v rfl (by first | (simp (disch := omega) only [go_sem, seval, ↓reduceIte, hU]; done) | rfl) (ro_end ⟨rfl, rfl⟩))) (hk := ?_)) | (refine dw_m rfl rfl (h := ro_v rfl (h := ro_end ⟨rfl, rfl⟩)) (h2 := allS_two (ro_v rfl (by first | (simp (disch := omega) only [go_sem, seval, ↓reduceIte, hU]; done) | rfl) (ro_end ⟨rfl, rfl⟩)) (ro_v rfl (by first | (simp (disch := omega) only [go_sem, seval, ↓reduceIte, hU]; done) | rfl) (ro_end ⟨rfl, rfl⟩))) (hk := ?_))) | (guard_target =~ dw _ _ _ _ _ (9 :: _) _ _ _ _; first | (refine dw_p rfl rfl (h := (fun τ => ro_s (h := n_call (f := 84) rfl Tryd.call84 (h := AEq.pure' agT (r_fit _ _ _ (by assumption) (by assumption) (by assumption)) (hq := ro_end ⟨rfl, rfl⟩))))) (hk := ?_))) | (guard_target =~ dw _ _ _ _ _ (10 :: _) _ _ _ _; first | (refine dw_w rfl rfl (h := ro_s (h := n_append_new rfl (he := by first | exact eo3 | exact eo4 | exact eo9 | exact eo50 | exact eo52 | exact eo67 | fail) (hne := by first | exact .inl rfl | exact .inr (by assumption) | exact .inr (by simp; done) | fail) (hK := ro_end ⟨rfl, rfl⟩))) (hk := ?_))) | (guard_target =~ dw _ _ _ _ _ (13 :: _) _ _ _ _; first | (refine dw_c rfl rfl (h := ro_s (h := n_build rfl (by first | exact bd52 | exact bd67 | fail) (hK := ro_end ⟨rfl, rfl⟩))) (hk := ?_))) | (guard_target =~ dw _ _ _ _ _ (14 :: _) _ _ _ _; first | (refine dw_wn rfl rfl (h := ro_n (h := n_store rfl (hK := ro_end ⟨rfl, rfl⟩))) (hk := ?_))) | (guard_target =~ dw _ _ _ _ _ [] _ _ _ _; first | (refine dw_nil ?_))) | (guard_target =~ (_ ∨ _) ∧ _; first | ((refine end_q [] (by first | exact .inr rfl | exact .inl rfl | fail) (by rfl) (by rw [Tryd.results61, Lf.resM1]; (try simp (disch := omega) only [Lf.resOne, go_sem, seval, ↓reduceIte, hU]); rfl) sT sT (ale_1 ?_) ?_) <;> (try (first | exact aleT | exact stq (by with_reducible rfl) | exact stq (by rfl) | exact stq (by simp (disch := omega) only [go_sem, seval, ↓reduceIte, hU]))))) | (refine hK _ _ ?_; clear hK K))
theorem ag_weak {σ : Sto} {ρ : Rz} {w : World} {f q : Bool} {xs : List (List AV)} {r : List AV} {v : Value} (h : VR σ ρ w (.ag (.sl f q xs :: r)) v) : VR σ ρ w (.ag (.sl false q xs :: r)) v := by
  simp only [VR] at h ⊢
  obtain ⟨vs, rfl, h⟩ := h
  refine ⟨vs, rfl, ?_⟩
  cases vs with
  | nil => simp [VRl] at h
  | cons u us =>
    simp only [VRl, VR] at h ⊢
    obtain ⟨⟨a, cap, sz, h1, h2, h3, _, h5⟩, h6⟩ := h
    exact ⟨⟨a, cap, sz, h1, h2, h3, by simp, h5⟩, h6⟩
theorem r_add (f1 : Bool) (R : List Fl) (m : Int) (f : Fl) (h : R.length ≤ 100000) (hS : sumW R ≤ 4000000000) (hb : ∀ f ∈ R, f.n.size ≤ 1000000000 ∧ f.v.size ≤ 1000000000) (h1 : f.n.size ≤ 1000000000) (h2 : f.v.size ≤ 1000000000) (h3 : wt f ≤ m) (h4 : m ≤ 4000000000) : AEq Tryd.prog 61 [.ag [.sl f1 false (R.map flA), i64 m], .ag (flA f)] [] (.ag [.sl false false ((addL f (R.take (fitN R 0 (m - wt f)))).map flA), i64 m]) [] := by
  by_cases hne : R.take (fitN R 0 (m - wt f)) = []
  · refine daeq_post (r_add0_r f1 R m f h hS hb h1 h2 h3 h4 hne) (fun ρ w v hr _ hv => ⟨ρ, hr, ?_, .refl _ _ _ _ (Nat.le_refl _)⟩)
    rw [hne]
    exact ag_weak hv
  · exact r_add1_r f1 R m f h hS hb h1 h2 h3 h4 hne
theorem r_res (f1 : Bool) (R : List Fl) (m n : Int) (h : R.length ≤ 100000) (hS : sumW R ≤ 4000000000) (hb : ∀ f ∈ R, f.n.size ≤ 1000000000 ∧ f.v.size ≤ 1000000000) : AEq Tryd.prog 59 [.ag [.sl f1 false (R.map flA), i64 m], i64 n] [] (.ag [.sl false false ((R.take (fitN R 0 n)).map flA), i64 n]) [] := by
  refine acall_body Tryd.func59 rfl Tryd.ntmps59 (by simp) (fun hsc => ?_); simp only [Lf.enter, Nat.reduceAdd]; clear hsc
  have hU := True.intro
  repeat' (first | (guard_target =~ PWp _ _ _ _ _ _ _; first | (refine pwp_seq_k (fun K hK => ?_)) | (refine pwp_rg_then ?_) | (refine pwp_ret ?_)) | (guard_target =~ rg _ _ _ _ _ _ _; first | (guard_target =~ rg _ _ _ [] _ _ _; first | (refine rg_end ?_)) | (refine rg_v rfl (h := ?_)) | (refine rg_s rfl ?_) | (refine rg_n rfl ?_)) | (guard_target =~ SOp _ _ _ _ _ _; first | (guard_target =~ SOp _ _ ⟨_, .box _ _, _, _, _, none⟩ _ _ _; first | (refine n_box rfl (hK := ?_))) | (guard_target =~ SOp _ _ ⟨_, .call ⟨.value (.func 84), _, _⟩, _, _, _, none⟩ _ _ _; first | (refine n_call (f := 84) rfl Tryd.call84 (h := AEq.pure' agT (r_fit _ _ _ (by assumption) (by assumption) (by assumption)) (hq := ?_)))) | (guard_target =~ SOp _ _ ⟨_, .store _ _ _, _, _, _, none⟩ _ _ _; first | (refine n_store rfl (hK := ?_))) | (guard_target =~ SOp _ _ ⟨_, .build _ _, _, _, _, none⟩ _ _ _; first | (refine n_build rfl (by first | exact bd52 | exact bd67 | fail) (hK := ?_))) | (guard_target =~ SOp _ _ ⟨_, .alloc _, _, _, _, none⟩ _ _ _; first | (refine n_alloc rfl (by first | exact zv3 | exact zv4 | exact zv9 | exact zv50 | exact zv52 | exact zv67 | fail) (hK := ?_)))) | (guard_target =~ (_ ∨ _) ∧ _; first | ((refine end_q [] (by first | exact .inr rfl | exact .inl rfl | fail) (by rfl) (by rw [Tryd.results59, Lf.resM1]; (try simp (disch := omega) only [Lf.resOne, go_sem, seval, ↓reduceIte, hU]); rfl) sT sT (ale_1 ?_) ?_) <;> (try (first | exact aleT | exact stq (by with_reducible rfl) | exact stq (by rfl) | exact stq (by simp (disch := omega) only [go_sem, seval, ↓reduceIte, hU]))))) | (refine hK _ _ ?_; clear hK K))
theorem r_at_no (f1 : Bool) (R : List Fl) (m i : Int) (h : i < 1 ∨ R.length < i) : AEq Tryd.prog 86 [.ag [.sl f1 false (R.map flA), i64 m], i64 i] [] (.tu [.ag (flA fl0), bl false]) [] := by
  refine acall_body Tryd.func86 rfl Tryd.ntmps86 (by simp) (fun hsc => ?_); simp only [Lf.enter, Nat.reduceAdd]; clear hsc
  have hU := True.intro
  repeat' (first | (guard_target =~ PWp _ _ _ _ _ _ _; first | (refine pwp_seq_k (fun K hK => ?_)) | (refine pwp_rg_then ?_) | (refine pwp_ret ?_) | ((refine pwp_cond_d (fun hcd => ?_) (fun hcd => ?_)) <;> (try simp only [hcP] at hcd) <;> (try exact cdT))) | (guard_target =~ rg _ _ _ _ _ _ _; first | (guard_target =~ rg _ _ _ (⟨_, .call ⟨.builtin .len, _, _⟩, _, _, _, some _⟩ :: _) _ _ _; first | (refine rg_gq rfl (h := ?_))) | (guard_target =~ rg _ _ _ (⟨_, .move _, _, _, _, some _⟩ :: _) _ _ _; first | (refine rg_gq rfl (h := ?_))) | (guard_target =~ rg _ _ _ (⟨_, .binOp _ _ _ _ _, _, _, _, some _⟩ :: _) _ _ _; first | (refine rg_gq rfl (h := ?_))) | (guard_target =~ rg _ _ _ (⟨_, .fieldAddr _ _ _, _, _, _, some _⟩ :: _) _ _ _; first | (refine rg_gq rfl (h := ?_))) | (guard_target =~ rg _ _ _ (⟨_, .load _ _, _, _, _, some _⟩ :: _) _ _ _; first | (refine rg_gq rfl (h := ?_))) | (guard_target =~ rg _ _ _ [] _ _ _; first | (refine rg_end ?_)) | (refine rg_a rfl (h := ?_)) | (refine rg_v rfl (h := ?_)) | (refine rg_s rfl ?_) | (refine rg_n rfl ?_)) | (guard_target =~ SOp _ _ _ _ _ _; first | (guard_target =~ SOp _ _ ⟨_, .store _ _ _, _, _, _, none⟩ _ _ _; first | (refine n_store rfl (hK := ?_))) | (guard_target =~ SOp _ _ ⟨_, .box _ _, _, _, _, none⟩ _ _ _; first | (refine n_box rfl (hK := ?_))) | (guard_target =~ SOp _ _ ⟨_, .alloc _, _, _, _, none⟩ _ _ _; first | (refine n_alloc rfl (by first | exact zv3 | exact zv4 | exact zv9 | exact zv50 | exact zv52 | exact zv67 | fail) (hK := ?_))) | (guard_target =~ SOp _ _ ⟨_, .build _ _, _, _, _, none⟩ _ _ _; first | (refine n_build rfl (by first | exact bd52 | exact bd67 | fail) (hK := ?_)))) | (guard_target =~ (_ ∨ _) ∧ _; first | ((refine end_q [] (by first | exact .inr rfl | exact .inl rfl | fail) (by rfl) (by rw [Tryd.results86]; exact Lf.resM2 (by (try simp (disch := omega) only [Lf.resOne, go_sem, seval, ↓reduceIte, hU]); rfl) (by (try simp (disch := omega) only [Lf.resOne, go_sem, seval, ↓reduceIte, hU]); rfl)) sT sT (ale_2 ?_ ?_) ?_) <;> (try (first | exact aleT | exact stq (by with_reducible rfl) | exact stq (by rfl) | exact stq (by simp (disch := omega) only [go_sem, seval, ↓reduceIte, hU]))))) | (refine hK _ _ ?_; clear hK K))
theorem r_at (f1 : Bool) (R : List Fl) (m i : Int) (f : Fl) (h1 : 1 ≤ i) (h2 : i ≤ R.length) (h3 : R.length ≤ 100000) (hf : R[i.toNat - 1]? = some f) : AEq Tryd.prog 86 [.ag [.sl f1 false (R.map flA), i64 m], i64 i] [] (.tu [.ag (flA f), bl true]) [] := by
  have hj : (i - 1).toNat = i.toNat - 1 := by omega
  refine acall_body Tryd.func86 rfl Tryd.ntmps86 (by simp) (fun hsc => ?_); simp only [Lf.enter, Nat.reduceAdd]; clear hsc
  have hU := @hj
  repeat' (first | (guard_target =~ PWp _ _ _ _ _ _ _; first | (refine pwp_seq_k (fun K hK => ?_)) | (refine pwp_rg_then ?_) | (refine pwp_ret ?_) | (refine pwp_skip ?_) | ((refine pwp_cond_d (fun hcd => ?_) (fun hcd => ?_)) <;> (try simp only [hcP] at hcd) <;> (try exact cdT))) | (guard_target =~ rg _ _ _ _ _ _ _; first | (guard_target =~ rg _ _ _ (⟨_, .call ⟨.builtin .len, _, _⟩, _, _, _, some _⟩ :: _) _ _ _; first | (refine rg_gq rfl (h := ?_))) | (guard_target =~ rg _ _ _ (⟨_, .move _, _, _, _, some _⟩ :: _) _ _ _; first | (refine rg_gq rfl (h := ?_))) | (guard_target =~ rg _ _ _ (⟨_, .binOp _ _ _ _ _, _, _, _, some _⟩ :: _) _ _ _; first | (refine rg_gq rfl (h := ?_))) | (guard_target =~ rg _ _ _ (⟨_, .fieldAddr _ _ _, _, _, _, some _⟩ :: _) _ _ _; first | (refine rg_gq rfl (h := ?_))) | (guard_target =~ rg _ _ _ (⟨_, .load _ _, _, _, _, some _⟩ :: _) _ _ _; first | (refine rg_gq rfl (h := ?_))) | (guard_target =~ rg _ _ _ [] _ _ _; first | (refine rg_end ?_)) | (refine rg_a rfl (h := ?_)) | (refine rg_v rfl (h := ?_)) | (refine rg_s rfl ?_) | (refine rg_n rfl ?_)) | (guard_target =~ SOp _ _ _ _ _ _; first | (guard_target =~ SOp _ _ ⟨_, .store _ _ _, _, _, _, none⟩ _ _ _; first | (refine n_store rfl (hK := ?_))) | (guard_target =~ SOp _ _ ⟨_, .box _ _, _, _, _, none⟩ _ _ _; first | (refine n_box rfl (hK := ?_))) | (guard_target =~ SOp _ _ ⟨_, .alloc _, _, _, _, none⟩ _ _ _; first | (refine n_alloc rfl (by first | exact zv3 | exact zv4 | exact zv9 | exact zv50 | exact zv52 | exact zv67 | fail) (hK := ?_))) | (guard_target =~ SOp _ _ ⟨_, .indexAddr _ _ _, _, _, _, none⟩ _ _ _; first | (refine n_index rfl (hK := ?_)))) | (guard_target =~ (_ ∨ _) ∧ _; first | ((refine end_q [] (by first | exact .inr rfl | exact .inl rfl | fail) (by rfl) (by rw [Tryd.results86]; exact Lf.resM2 (by (try simp (disch := omega) only [Lf.resOne, go_sem, seval, ↓reduceIte, hU]); rfl) (by (try simp (disch := omega) only [Lf.resOne, go_sem, seval, ↓reduceIte, hU]); rfl)) sT sT (ale_2 ?_ ?_) ?_) <;> (try (first | exact aleT | exact stq (by with_reducible rfl) | exact stq (by rfl) | exact stq (by simp (disch := omega) only [go_sem, seval, ↓reduceIte, hU]))))) | (refine hK _ _ ?_; clear hK K))
theorem r_same (f g q r : Bool) (l : List Fl) (h : l.length ≤ 100000) : AEq Tryd.prog 27 [.sl f q (l.map flA), .sl g r (l.map flA)] [] (bl true) [] := by
  refine acall_body Tryd.func27 rfl Tryd.ntmps27 (by simp) (fun hsc => ?_); simp only [Lf.enter, Nat.reduceAdd]; clear hsc
  have hU := True.intro
  repeat' (first | (guard_target =~ PWp _ _ _ _ _ _ _; first | (refine pwp_seq_k (fun K hK => ?_)) | (refine pwp_block ?_) | (refine pwp_rg_then ?_) | (refine pwp_skip ?_) | ((refine pwp_cond_d (fun hcd => ?_) (fun hcd => ?_)) <;> (try simp only [hcP] at hcd) <;> (try exact cdT))) | (guard_target =~ rg _ _ _ _ _ _ _; first | (guard_target =~ rg _ _ _ [] _ _ _; first | (refine rg_end ?_)) | (refine rg_a rfl (h := ?_)) | (refine rg_v rfl (h := ?_))) | (refine hK _ _ ?_; clear hK K))
  refine pwp_loop_e [4, 5, 11, 12, 13, 14, 15, 16, 17, 18, 19, 20, 21, 22, 23, 24, 25] (fun i : Nat => [(5, i64 i)]) (fun _ => []) (fun i => i ≤ l.length) (fun i => l.length - i) 0 (Nat.zero_le _) ?_ rfl ?_
  · (refine ⟨⟨_, sT, ?_⟩, trivial⟩ <;> (try (first | exact aleT)))
  · rintro i hi
    simp only [mask, List.map_cons, List.map_nil, List.cons_append, List.nil_append]
    by_cases hlt : i < l.length
    · obtain ⟨x, hx⟩ := ex_at hlt
      repeat' (first | (guard_target =~ PWp _ _ _ _ _ _ _; first | (refine pwp_seq_k (fun K hK => ?_)) | (refine pwp_block ?_) | (refine pwp_rg_then ?_) | (refine pwp_draw mixed (by kernel_rfl) ?_) | (refine pwp_skip ?_) | ((refine pwp_cond_d (fun hcd => ?_) (fun hcd => ?_)) <;> (try simp only [hcP] at hcd) <;> (try exact cdT))) | (guard_target =~ rg _ _ _ _ _ _ _; first | (guard_target =~ rg _ _ _ [] _ _ _; first | (refine rg_end ?_)) | (refine rg_a rfl (h := ?_)) | (refine rg_v rfl (h := ?_))) | (guard_target =~ dg _ _ _ _ _ _ _; first | (guard_target =~ dg _ _ _ (⟨_, .move _, _, _, _, none⟩ :: _) _ _ _; first | (refine dg_v rfl (hk := ?_))) | (guard_target =~ dg _ _ _ (⟨_, .binOp _ _ _ _ _, _, _, _, none⟩ :: _) _ _ _; first | (refine dg_v rfl (hk := ?_)) | (refine dg_c (x := _) (h := ro_s (h := n_eqag (ne := true) rfl (by first | exact eg67 | fail) (hc := rfl) (hK := ro_end ⟨rfl, rfl⟩))) (hk := ?_))) | (guard_target =~ dg _ _ _ (⟨_, .call ⟨.builtin .len, _, _⟩, _, _, _, none⟩ :: _) _ _ _; first | (refine dg_v rfl (hk := ?_))) | (guard_target =~ dg _ _ _ (⟨_, .load _ _, _, _, _, none⟩ :: _) _ _ _; first | (refine dg_v rfl (hk := ?_))) | (guard_target =~ dg _ _ _ (⟨_, .indexAddr _ _ _, _, _, _, none⟩ :: _) _ _ _; first | (refine dg_c (x := _) (h := ro_s (h := n_index rfl (hK := ro_end ⟨rfl, rfl⟩))) (hk := ?_))) | (guard_target =~ dg _ _ _ [] _ _ _; first | (refine dg_nil ?_))) | (refine hK _ _ ?_; clear hK K) | (rw [if_pos rfl]))
      refine ⟨i + 1, by omega, by omega, ?_, (by repeat' (first | exact agr_refl | refine agr_cons (by rfl) ?_)), (by first | rfl | (simp (disch := omega) only [go_sem, seval, ↓reduceIte, hU]; done) | (simp (disch := omega) only [go_sem, seval, ↓reduceIte, hU]; rfl))⟩
      (refine ⟨⟨_, sT, ?_⟩, trivial⟩ <;> (try (first | exact aleT)))
    · repeat' (first | (guard_target =~ PWp _ _ _ _ _ _ _; first | (refine pwp_seq_k (fun K hK => ?_)) | (refine pwp_rg_then ?_) | (refine pwp_ret ?_) | (refine pwp_exit ?_) | ((refine pwp_cond_d (fun hcd => ?_) (fun hcd => ?_)) <;> (try simp only [hcP] at hcd) <;> (try exact cdT))) | (guard_target =~ rg _ _ _ _ _ _ _; first | (guard_target =~ rg _ _ _ [] _ _ _; first | (refine rg_end ?_)) | (refine rg_a rfl (h := ?_)) | (refine rg_v rfl (h := ?_))) | (guard_target =~ (_ ∨ _) ∧ _; first | ((refine end_d [] (by rw [Tryd.results27, Lf.res1]) (ale_1 ?_) ?_) <;> (try (first | exact aleT | exact stq (by with_reducible rfl) | exact stq (by rfl) | exact stq (by simp (disch := omega) only [go_sem, seval, ↓reduceIte, hU]))))) | (refine hK _ _ ?_; clear hK K) | (apply_assumption (exfalso := false) (symm := false)))
end Go.Proofs.YtohbfcmmpaikhaaDoor

set_option linter.unusedVariables false
set_option linter.unusedSimpArgs false
namespace Go.Proofs.YtohbfcmmpaikhaaDoor
open Go Go.Lf Go.Proofs
attribute [local irreducible] Lf.rg Lf.ro Lf.PWp Lf.SOp Lf.ACall Lf.Scoped Lf.dg Lf.dw
set_option maxRecDepth 20000
set_option maxHeartbeats 4000000
structure Dd where
  (f : Fl) (z : Int)
@[go_sem] def ddA (d : Dd) : List AV := [.lit (.string d.f.n), .lit (.string d.f.v), bl d.f.k, i64 d.z]
@[go_sem] theorem fz_mapdd {κ : List Nat} {σ : Sto} (l : List Dd) : List.map (fzl κ σ) (l.map ddA) = l.map ddA := fz_mapg (fun _ => rfl) l
end Go.Proofs.YtohbfcmmpaikhaaDoor

set_option linter.unusedVariables false
set_option linter.unusedSimpArgs false
namespace Go.Proofs.YtohbfcmmpaikhaaDoor
open Go Go.Lf Go.Proofs
attribute [local irreducible] Lf.rg Lf.ro Lf.PWp Lf.SOp Lf.ACall Lf.Scoped Lf.dg Lf.dw
set_option maxRecDepth 20000
set_option maxHeartbeats 4000000
def addX (xs : List Fl) (m : Int) (f : Fl) : List Fl := keptL xs (m - wt f) ++ [flN f]
theorem addX_is (xs : List Fl) (m : Int) (f : Fl) : keptL xs (m - wt f) ++ [flN f] = addX xs m f := rfl
theorem addX_len (xs : List Fl) (m : Int) (f : Fl) : (addX xs m f).length ≤ xs.length + 1 := by
  have := keptL_len (m - wt f) xs
  unfold addX
  rw [List.length_append, List.length_singleton]; omega
theorem addX_sum {xs : List Fl} {m : Int} {f : Fl} (h : wt f ≤ m) : sumW (addX xs m f) ≤ m := by
  have := keptL_sum (m - wt f) (by omega) xs
  unfold addX
  rw [sumW_app]
  simp only [sumW, wt_N]; omega
def snI (S : List Int) (n : Int) : List Int := S ++ [n]
theorem snI_map (S : List Int) (n : Int) : List.map intA (snI S n) = List.map intA S ++ [[i64 n]] := by unfold snI; rw [List.map_append]; rfl
theorem snI_len (S : List Int) (n : Int) : (snI S n).length = S.length + 1 := by unfold snI; rw [List.length_append]; rfl
def snF (F : List Fl) (f : Fl) : List Fl := F ++ [f]
theorem snF_map (F : List Fl) (f : Fl) : List.map flA (snF F f) = List.map flA F ++ [[.lit (.string f.n), .lit (.string f.v), bl f.k]] := by unfold snF; rw [List.map_append]; rfl
theorem snF_len (F : List Fl) (f : Fl) : (snF F f).length = F.length + 1 := by unfold snF; rw [List.length_append]; rfl
def oneFl (f : Fl) : List Fl := [f]
def stF (i : Int) : Fl := ⟨(stAt i).1, (stAt i).2, false⟩
def dAt (xs : List Fl) (i : Int) : Option Fl := if i ≤ 61 then (if 1 ≤ i then some (stF i) else none) else xs.reverse[(i - 61).toNat - 1]?
theorem dAt_st {xs : List Fl} {i : Int} (h1 : 1 ≤ i) (h2 : i ≤ 61) : dAt xs i = some (stF i) := by rw [dAt, if_pos h2, if_pos h1]
theorem dAt_dy {xs : List Fl} {i : Int} (h : ¬ i ≤ 61) : dAt xs i = xs.reverse[(i - 61).toNat - 1]? := by rw [dAt, if_neg h]
attribute [local irreducible] wt sumW keptL flN addX stAt oneFl snI snF
theorem t_add_bigc (xs : List Fl) (s : Nat) (m : Int) (n v : ByteArray) (k : Bool) (h : xs.length ≤ 100000) (hS : sumW xs ≤ 4000000000) (hb : ∀ f ∈ xs, f.n.size ≤ 1000000000 ∧ f.v.size ≤ 1000000000) (h1 : n.size ≤ 1000000000) (h2 : v.size ≤ 1000000000) (h3 : 0 ≤ m) (h4 : m < wt ⟨n, v, k⟩) : AEq Tryd.prog 83 [.ptr 0 0, .ag [.lit (.string n), .lit (.string v), .lit (.bool k)]] [.box [.row 1 s, i64 (sumW xs), i64 m], .row s 67 3 (xs.map flA)] (.tu []) [.box [.row 1 (s + 1), i64 (sumW xsE), i64 m], .row (s + 1) 67 3 (xsE.map flA)] := t_add_big xs s m ⟨n, v, k⟩ h hS hb h1 h2 h3 h4
set_option maxRecDepth 20000 in
theorem xat_ok (F : List Fl) (S : List Int) (a c : Nat) (xs : List Fl) (s : Nat) (m i : Int) (g : Fl) (h : xs.length ≤ 90000) (h1 : 1 ≤ i) (h2 : i ≤ 2147483647) (hg : dAt xs i = some g) : AEq Tryd.prog 82 [.ptr 0 0, i64 i] [.box [.row 1 a, .row 2 c, .ptr 3 0], .row a 67 3 (F.map flA), .row c 3 1 (S.map intA), .box [.row 4 s, i64 (sumW xs), i64 m], .row s 67 3 (xs.map flA)] (.tu [.ag (flA g), i64 0]) [.box [.row 1 a, .row 2 c, .ptr 3 0], .row a 67 3 (F.map flA), .row c 3 1 (S.map intA), .box [.row 4 s, i64 (sumW xs), i64 m], .row s 67 3 (xs.map flA)] := by
  by_cases hi : i ≤ 61
  · rw [dAt_st h1 hi] at hg
    obtain rfl := Option.some.inj hg
    refine acall_body Tryd.func82 rfl Tryd.ntmps82 (by simp) (fun hsc => ?_); simp only [Lf.enter, Nat.reduceAdd]; clear hsc
    have hU := True.intro
    repeat' (first | (guard_target =~ PWp _ _ _ _ _ _ _; first | (refine pwp_seq_k (fun K hK => ?_)) | (refine pwp_rg_then ?_) | (refine pwp_ret ?_) | (refine pwp_skip ?_) | ((refine pwp_cond_d (fun hcd => ?_) (fun hcd => ?_)) <;> (try simp only [hcP] at hcd) <;> (try exact cdT))) | (guard_target =~ rg _ _ _ _ _ _ _; first | (guard_target =~ rg _ _ _ [] _ _ _; first | (refine rg_end ?_)) | (refine rg_a rfl (h := ?_)) | (refine rg_x rfl (hy := rfl) (h := ?_)) | (refine rg_v rfl (h := ?_)) | (refine rg_s rfl ?_) | (refine rg_n rfl ?_)) | (guard_target =~ SOp _ _ _ _ _ _; first | (guard_target =~ SOp _ _ ⟨_, .store _ _ _, _, _, _, none⟩ _ _ _; first | (refine n_store rfl (hK := ?_))) | (guard_target =~ SOp _ _ ⟨_, .alloc _, _, _, _, none⟩ _ _ _; first | (refine n_alloc rfl (by first | exact zv3 | exact zv4 | exact zv9 | exact zv28 | exact zv50 | exact zv53 | exact zv55 | exact zv67 | exact zv69 | exact zv107 | exact zv110 | exact zv112 | fail) (hK := ?_))) | (guard_target =~ SOp _ _ ⟨_, .call ⟨.value (.func 109), _, _⟩, _, _, _, none⟩ _ _ _; first | (refine n_call (f := 109) rfl Tryd.call109 (h := AEq.pure' agT (st_at_some _ (by omega)) (hq := ?_))))) | (guard_target =~ (_ ∨ _) ∧ _; first | ((refine end_q [0, 1, 2, 3, 4] (by first | exact .inr rfl | exact .inl rfl | fail) (by rfl) (by rw [Tryd.results82]; exact Lf.resM2 (by (try simp (disch := omega) only [Lf.resOne, go_sem, seval, ↓reduceIte, hU]); rfl) (by (try simp (disch := omega) only [Lf.resOne, go_sem, seval, ↓reduceIte, hU]); rfl)) sT sT (ale_2 ?_ ?_) ?_) <;> (try (first | exact aleT | exact stq (by with_reducible rfl) | exact stq (by rfl) | exact stq (by simp (disch := omega) only [go_sem, seval, ↓reduceIte, hU]))))) | (refine hK _ _ ?_; clear hK K))
  · rw [dAt_dy hi] at hg
    have hgl := (List.getElem?_eq_some_iff.1 hg).1
    rw [List.length_reverse] at hgl
    refine acall_body Tryd.func82 rfl Tryd.ntmps82 (by simp) (fun hsc => ?_); simp only [Lf.enter, Nat.reduceAdd]; clear hsc
    have hU := True.intro
    repeat' (first | (guard_target =~ PWp _ _ _ _ _ _ _; first | (refine pwp_seq_k (fun K hK => ?_)) | (refine pwp_rg_then ?_) | (refine pwp_ret ?_) | (refine pwp_skip ?_) | ((refine pwp_cond_d (fun hcd => ?_) (fun hcd => ?_)) <;> (try simp only [hcP] at hcd) <;> (try exact cdT))) | (guard_target =~ rg _ _ _ _ _ _ _; first | (guard_target =~ rg _ _ _ [] _ _ _; first | (refine rg_end ?_)) | (refine rg_a rfl (h := ?_)) | (refine rg_x rfl (hy := rfl) (h := ?_)) | (refine rg_v rfl (h := ?_)) | (refine rg_s rfl ?_) | (refine rg_n rfl ?_)) | (guard_target =~ SOp _ _ _ _ _ _; first | (guard_target =~ SOp _ _ ⟨_, .store _ _ _, _, _, _, none⟩ _ _ _; first | (refine n_store rfl (hK := ?_))) | (guard_target =~ SOp _ _ ⟨_, .alloc _, _, _, _, none⟩ _ _ _; first | (refine n_alloc rfl (by first | exact zv3 | exact zv4 | exact zv9 | exact zv28 | exact zv50 | exact zv53 | exact zv55 | exact zv67 | exact zv69 | exact zv107 | exact zv110 | exact zv112 | fail) (hK := ?_))) | (guard_target =~ SOp _ _ ⟨_, .call ⟨.value (.func 109), _, _⟩, _, _, _, none⟩ _ _ _; first | (refine n_call (f := 109) rfl Tryd.call109 (h := AEq.pure' agT (st_at_none _ aoT) (hq := ?_)))) | (guard_target =~ SOp _ _ ⟨_, .call ⟨.value (.func 110), _, _⟩, _, _, _, none⟩ _ _ _; first | (refine n_call (f := 110) rfl Tryd.call110 (h := AEq.sub' [_, _] (hc := t_at _ _ _ _ _ _ aoT aoT aoT aoT) (hq := ?_))))) | (guard_target =~ (_ ∨ _) ∧ _; first | ((refine end_q [0, 1, 2, 3, 4] (by first | exact .inr rfl | exact .inl rfl | fail) (by rfl) (by rw [Tryd.results82]; exact Lf.resM2 (by (try simp (disch := omega) only [Lf.resOne, go_sem, seval, ↓reduceIte, hU]); rfl) (by (try simp (disch := omega) only [Lf.resOne, go_sem, seval, ↓reduceIte, hU]); rfl)) sT sT (ale_2 ?_ ?_) ?_) <;> (try (first | exact aleT | exact stq (by with_reducible rfl) | exact stq (by rfl) | exact stq (by simp (disch := omega) only [go_sem, seval, ↓reduceIte, hU]))))) | (refine hK _ _ ?_; clear hK K))
set_option maxRecDepth 20000 in
theorem xat_no (F : List Fl) (S : List Int) (a c : Nat) (xs : List Fl) (s : Nat) (m i : Int) (h : xs.length ≤ 90000) (h1 : 1 ≤ i) (h2 : i ≤ 2147483647) (hg : dAt xs i = none) : AEq Tryd.prog 82 [.ptr 0 0, i64 i] [.box [.row 1 a, .row 2 c, .ptr 3 0], .row a 67 3 (F.map flA), .row c 3 1 (S.map intA), .box [.row 4 s, i64 (sumW xs), i64 m], .row s 67 3 (xs.map flA)] (.tu [.ag (flA fl0), i64 12]) [.box [.row 1 a, .row 2 c, .ptr 3 0], .row a 67 3 (F.map flA), .row c 3 1 (S.map intA), .box [.row 4 s, i64 (sumW xs), i64 m], .row s 67 3 (xs.map flA)] := by
  by_cases hi : i ≤ 61
  · rw [dAt_st h1 hi] at hg
    exact absurd hg (by simp)
  · rw [dAt_dy hi] at hg
    have hgl := List.getElem?_eq_none_iff.1 hg
    rw [List.length_reverse] at hgl
    refine acall_body Tryd.func82 rfl Tryd.ntmps82 (by simp) (fun hsc => ?_); simp only [Lf.enter, Nat.reduceAdd]; clear hsc
    have hU := True.intro
    repeat' (first | (guard_target =~ PWp _ _ _ _ _ _ _; first | (refine pwp_seq_k (fun K hK => ?_)) | (refine pwp_rg_then ?_) | (refine pwp_ret ?_) | ((refine pwp_cond_d (fun hcd => ?_) (fun hcd => ?_)) <;> (try simp only [hcP] at hcd) <;> (try exact cdT))) | (guard_target =~ rg _ _ _ _ _ _ _; first | (guard_target =~ rg _ _ _ [] _ _ _; first | (refine rg_end ?_)) | (refine rg_a rfl (h := ?_)) | (refine rg_x rfl (hy := rfl) (h := ?_)) | (refine rg_v rfl (h := ?_)) | (refine rg_s rfl ?_) | (refine rg_n rfl ?_)) | (guard_target =~ SOp _ _ _ _ _ _; first | (guard_target =~ SOp _ _ ⟨_, .store _ _ _, _, _, _, none⟩ _ _ _; first | (refine n_store rfl (hK := ?_))) | (guard_target =~ SOp _ _ ⟨_, .alloc _, _, _, _, none⟩ _ _ _; first | (refine n_alloc rfl (by first | exact zv3 | exact zv4 | exact zv9 | exact zv28 | exact zv50 | exact zv53 | exact zv55 | exact zv67 | exact zv69 | exact zv107 | exact zv110 | exact zv112 | fail) (hK := ?_))) | (guard_target =~ SOp _ _ ⟨_, .call ⟨.value (.func 109), _, _⟩, _, _, _, none⟩ _ _ _; first | (refine n_call (f := 109) rfl Tryd.call109 (h := AEq.pure' agT (st_at_none _ (by omega)) (hq := ?_)))) | (guard_target =~ SOp _ _ ⟨_, .call ⟨.value (.func 110), _, _⟩, _, _, _, none⟩ _ _ _; first | (refine n_call (f := 110) rfl Tryd.call110 (h := AEq.sub' [_, _] (hc := t_at_no _ _ _ _ _ (by omega)) (hq := ?_)))) | (guard_target =~ SOp _ _ ⟨_, .build _ _, _, _, _, none⟩ _ _ _; first | (refine n_build rfl (by first | exact bd55 | exact bd67 | exact bd110 | exact bd112 | fail) (hK := ?_)))) | (guard_target =~ (_ ∨ _) ∧ _; first | ((refine end_q [0, 1, 2, 3, 4] (by first | exact .inr rfl | exact .inl rfl | fail) (by rfl) (by rw [Tryd.results82]; exact Lf.resM2 (by (try simp (disch := omega) only [Lf.resOne, go_sem, seval, ↓reduceIte, hU]); rfl) (by (try simp (disch := omega) only [Lf.resOne, go_sem, seval, ↓reduceIte, hU]); rfl)) sT sT (ale_2 ?_ ?_) ?_) <;> (try (first | exact aleT | exact stq (by with_reducible rfl) | exact stq (by rfl) | exact stq (by simp (disch := omega) only [go_sem, seval, ↓reduceIte, hU]))))) | (refine hK _ _ ?_; clear hK K))
set_option maxRecDepth 20000 in
theorem xres_no (F : List Fl) (S : List Int) (a c : Nat) (xs : List Fl) (s : Nat) (m n : Int) (hF0 : 0 < F.length) (hF : F.length ≤ 100000) : AEq Tryd.prog 57 [.ptr 0 0, i64 n] [.box [.row 1 a, .row 2 c, .ptr 3 0], .row a 67 3 (F.map flA), .row c 3 1 (S.map intA), .box [.row 4 s, i64 (sumW xs), i64 m], .row s 67 3 (xs.map flA)] (i64 13) [.box [.row 1 a, .row 2 c, .ptr 3 0], .row a 67 3 (F.map flA), .row c 3 1 (S.map intA), .box [.row 4 s, i64 (sumW xs), i64 m], .row s 67 3 (xs.map flA)] := by
  refine acall_body Tryd.func57 rfl Tryd.ntmps57 (by simp) (fun hsc => ?_); simp only [Lf.enter, Nat.reduceAdd]; clear hsc
  have hU := True.intro
  repeat' (first | (guard_target =~ PWp _ _ _ _ _ _ _; first | (refine pwp_seq_k (fun K hK => ?_)) | (refine pwp_rg_then ?_) | (refine pwp_ret ?_) | ((refine pwp_cond_d (fun hcd => ?_) (fun hcd => ?_)) <;> (try simp only [hcP] at hcd) <;> (try exact cdT))) | (guard_target =~ rg _ _ _ _ _ _ _; first | (guard_target =~ rg _ _ _ [] _ _ _; first | (refine rg_end ?_)) | (refine rg_a rfl (h := ?_)) | (refine rg_v rfl (h := ?_))) | (guard_target =~ (_ ∨ _) ∧ _; first | ((refine end_d [0, 1, 2, 3, 4] (by rw [Tryd.results57, Lf.res1]) (ale_1 ?_) ?_) <;> (try (first | exact aleT | exact stq (by with_reducible rfl) | exact stq (by rfl) | exact stq (by simp (disch := omega) only [go_sem, seval, ↓reduceIte, hU]))))) | (refine hK _ _ ?_; clear hK K))
set_option maxRecDepth 20000 in
theorem xres_ok (F : List Fl) (S : List Int) (a c : Nat) (xs : List Fl) (s : Nat) (m n : Int) (h : xs.length ≤ 90000) (hS : sumW xs ≤ 2147483647) (hb : ∀ f ∈ xs, f.n.size ≤ 1000000 ∧ f.v.size ≤ 1000000) (hm0 : 0 ≤ m) (hm1 : m ≤ 2147483647) (hF : F.length ≤ 100000) (hSl : S.length ≤ 100000) (hF0 : F.length = 0) (hn0 : 0 ≤ n) (hn1 : n ≤ 2147483647) : AEq Tryd.prog 57 [.ptr 0 0, i64 n] [.box [.row 1 a, .row 2 c, .ptr 3 0], .row a 67 3 (F.map flA), .row c 3 1 (S.map intA), .box [.row 4 s, i64 (sumW xs), i64 m], .row s 67 3 (xs.map flA)] (i64 0) [.box [.row 1 a, .row 2 (c + 1), .ptr 3 0], .row a 67 3 (F.map flA), .row (c + 1) 3 1 ((snI S n).map intA), .box [.row 4 (s + 1), i64 (sumW (keptL xs n)), i64 n], .row (s + 1) 67 3 ((keptL xs n).map flA)] := by
  have hbig : ∀ f ∈ xs, f.n.size ≤ 1000000000 ∧ f.v.size ≤ 1000000000 := fun f hf => by have := hb f hf; omega
  have hap : List.map intA S ++ [[i64 n]] = List.map intA (snI S n) := (snI_map S n).symm
  refine acall_body Tryd.func57 rfl Tryd.ntmps57 (by simp) (fun hsc => ?_); simp only [Lf.enter, Nat.reduceAdd]; clear hsc
  have hU := @hap
  repeat' (first | (guard_target =~ PWp _ _ _ _ _ _ _; first | (refine pwp_seq_k (fun K hK => ?_)) | (refine pwp_rg_then ?_) | (refine pwp_ret ?_) | (refine pwp_skip ?_) | ((refine pwp_cond_d (fun hcd => ?_) (fun hcd => ?_)) <;> (try simp only [hcP] at hcd) <;> (try exact cdT))) | (guard_target =~ rg _ _ _ _ _ _ _; first | (guard_target =~ rg _ _ _ [] _ _ _; first | (refine rg_end ?_)) | (refine rg_a rfl (h := ?_)) | (refine rg_v rfl (h := ?_)) | (refine rg_s rfl ?_) | (refine rg_n rfl ?_)) | (guard_target =~ SOp _ _ _ _ _ _; first | (guard_target =~ SOp _ _ ⟨_, .buildSlice _ _ _, _, _, _, none⟩ _ _ _; first | (refine n_lit rfl (he := by first | exact eo3 | exact eo4 | exact eo9 | exact eo28 | exact eo50 | exact eo53 | exact eo55 | exact eo67 | exact eo69 | exact eo107 | exact eo110 | exact eo112 | fail) (hK := ?_))) | (guard_target =~ SOp _ _ ⟨_, .call ⟨.value (.func 69), _, _⟩, _, _, _, none⟩ _ _ _; first | (refine n_call (f := 69) rfl Tryd.call69 (h := AEq.sub' [_, _] (hc := t_res _ _ _ _ aoT aoT aoT aoT aoT) (hq := ?_)))) | (guard_target =~ SOp _ _ ⟨_, .call ⟨.builtin .append, _, _⟩, _, _, _, none⟩ _ _ _; first | (refine n_append_row rfl (he := by first | exact eo3 | exact eo4 | exact eo9 | exact eo28 | exact eo50 | exact eo53 | exact eo55 | exact eo67 | exact eo69 | exact eo107 | exact eo110 | exact eo112 | fail) (hK := ?_))) | (guard_target =~ SOp _ _ ⟨_, .store _ _ _, _, _, _, none⟩ _ _ _; first | (refine n_store rfl (hK := ?_)))) | (guard_target =~ (_ ∨ _) ∧ _; first | ((refine end_d [0, 1, 2, 3, 4] (by rw [Tryd.results57, Lf.res1]) (ale_1 ?_) ?_) <;> (try (first | exact aleT | exact stq (by with_reducible rfl) | exact stq (by rfl) | exact stq (by simp (disch := omega) only [go_sem, seval, ↓reduceIte, hU]))))) | (refine hK _ _ ?_; clear hK K))
end Go.Proofs.YtohbfcmmpaikhaaDoor

set_option linter.unusedVariables false
set_option linter.unusedSimpArgs false
namespace Go.Proofs.YtohbfcmmpaikhaaDoor
open Go Go.Lf Go.Proofs
attribute [local irreducible] Lf.rg Lf.ro Lf.PWp Lf.SOp Lf.ACall Lf.Scoped Lf.dg Lf.dw
set_option maxRecDepth 20000
set_option maxHeartbeats 4000000
attribute [local irreducible] wt sumW keptL flN addX stAt oneFl snI snF dAt xsE
set_option maxRecDepth 20000 in
theorem xf_no (F : List Fl) (S : List Int) (a c : Nat) (xs : List Fl) (s : Nat) (m : Int) (k i : Int) (nm : ByteArray) (ns : Bool) (vl : ByteArray) (vs : Bool) (sz : Int) (h : xs.length ≤ 90000) (hi0 : 1 ≤ i) (hi1 : i ≤ 2147483647) (hg : dAt xs i = none) : AEq Tryd.prog 58 [.ptr 0 0, .ag [i64 k, i64 i, .lit (.string nm), bl ns, .lit (.string vl), bl vs, i64 sz]] [.box [.row 1 a, .row 2 c, .ptr 3 0], .row a 67 3 (F.map flA), .row c 3 1 (S.map intA), .box [.row 4 s, i64 (sumW xs), i64 m], .row s 67 3 (xs.map flA)] (i64 12) [.box [.row 1 a, .row 2 c, .ptr 3 0], .row a 67 3 (F.map flA), .row c 3 1 (S.map intA), .box [.row 4 s, i64 (sumW xs), i64 m], .row s 67 3 (xs.map flA)] := by
  refine acall_body Tryd.func58 rfl Tryd.ntmps58 (by simp) (fun hsc => ?_); simp only [Lf.enter, Nat.reduceAdd]; clear hsc
  have hU := True.intro
  repeat' (first | (guard_target =~ PWp _ _ _ _ _ _ _; first | (refine pwp_seq_k (fun K hK => ?_)) | (refine pwp_rg_then ?_) | (refine pwp_ret ?_) | ((refine pwp_cond_d (fun hcd => ?_) (fun hcd => ?_)) <;> (try simp only [hcP] at hcd) <;> (try exact cdT))) | (guard_target =~ rg _ _ _ _ _ _ _; first | (guard_target =~ rg _ _ _ [] _ _ _; first | (refine rg_end ?_)) | (refine rg_a rfl (h := ?_)) | (refine rg_x rfl (hy := rfl) (h := ?_)) | (refine rg_v rfl (h := ?_)) | (refine rg_s rfl ?_) | (refine rg_n rfl ?_)) | (guard_target =~ SOp _ _ _ _ _ _; first | (guard_target =~ SOp _ _ ⟨_, .store _ _ _, _, _, _, none⟩ _ _ _; first | (refine n_store rfl (hK := ?_))) | (guard_target =~ SOp _ _ ⟨_, .alloc _, _, _, _, none⟩ _ _ _; first | (refine n_alloc rfl (by first | exact zv3 | exact zv4 | exact zv9 | exact zv25 | exact zv27 | exact zv28 | exact zv50 | exact zv53 | exact zv55 | exact zv67 | exact zv69 | exact zv107 | exact zv110 | exact zv112 | fail) (hK := ?_))) | (guard_target =~ SOp _ _ ⟨_, .build _ _, _, _, _, none⟩ _ _ _; first | (refine n_build rfl (by first | exact bd25 | exact bd27 | exact bd55 | exact bd67 | exact bd110 | exact bd112 | fail) (hK := ?_))) | (guard_target =~ SOp _ _ ⟨_, .call ⟨.value (.func 82), _, _⟩, _, _, _, none⟩ _ _ _; first | (refine n_call (f := 82) rfl Tryd.call82 (h := AEq.sub' [_, _, _, _, _] (hc := xat_no _ _ _ _ _ _ _ _ (by assumption) (by assumption) (by assumption) (by assumption)) (hq := ?_)))) | (guard_target =~ SOp _ _ ⟨_, .box _ _, _, _, _, none⟩ _ _ _; first | (refine n_box rfl (hK := ?_)))) | (guard_target =~ (_ ∨ _) ∧ _; first | ((refine end_d [0, 1, 2, 3, 4] (by rw [Tryd.results58, Lf.res1]) (ale_1 ?_) ?_) <;> (try (first | exact aleT | exact stq (by with_reducible rfl) | exact stq (by rfl) | exact stq (by simp (disch := omega) only [go_sem, seval, ↓reduceIte, hU]))))) | (refine hK _ _ ?_; clear hK K))
set_option maxRecDepth 20000 in
theorem xf_1 (F : List Fl) (S : List Int) (a c : Nat) (xs : List Fl) (s : Nat) (m : Int) (i : Int) (nm : ByteArray) (ns : Bool) (vl : ByteArray) (vs : Bool) (sz : Int) (h : xs.length ≤ 90000) (hS : sumW xs ≤ 2147483647) (hb : ∀ f ∈ xs, f.n.size ≤ 1000000 ∧ f.v.size ≤ 1000000) (hm0 : 0 ≤ m) (hm1 : m ≤ 2147483647) (hF : F.length ≤ 100000) (hSl : S.length ≤ 100000) (g : Fl) (hg1 : g.n.size ≤ 1000000) (hg2 : g.v.size ≤ 1000000) (hv1 : vl.size ≤ 1000000) (hi0 : 0 ≤ i) (hi1 : i ≤ 2147483647) (hbase : (0 < i ∧ dAt xs i = some g) ∨ (i = 0 ∧ g = ⟨nm, ⟨#[]⟩, false⟩)) : AEq Tryd.prog 58 [.ptr 0 0, .ag [i64 1, i64 i, .lit (.string nm), bl ns, .lit (.string vl), bl vs, i64 sz]] [.box [.row 1 a, .row 2 c, .ptr 3 0], .row a 67 3 (F.map flA), .row c 3 1 (S.map intA), .box [.row 4 s, i64 (sumW xs), i64 m], .row s 67 3 (xs.map flA)] (i64 0) [.box [.row 1 (a + 1), .row 2 c, .ptr 3 0], .row (a + 1) 67 3 ((snF F g).map flA), .row c 3 1 (S.map intA), .box [.row 4 s, i64 (sumW xs), i64 m], .row s 67 3 (xs.map flA)] := by
  have hbig : ∀ f ∈ xs, f.n.size ≤ 1000000000 ∧ f.v.size ≤ 1000000000 := fun f hf => by have := hb f hf; omega
  have hap := (snF_map F g).symm
  rcases hbase with ⟨hi, hg⟩ | ⟨rfl, rfl⟩
  all_goals (try dsimp only at *)
  all_goals (refine acall_body Tryd.func58 rfl Tryd.ntmps58 (by simp) (fun hsc => ?_); simp only [Lf.enter, Nat.reduceAdd]; clear hsc)
  all_goals (have hU := @hap)
  all_goals (repeat' (first | (guard_target =~ PWp _ _ _ _ _ _ _; first | (refine pwp_draw_ord (id := 12) [1, 2, 3, 4, 5, 6, 7, 8, 0, 9, 10, 11, 12] [8, 12] mixed (by kernel_rfl) (by kernel_rfl) ?_) | (refine pwp_seq_k (fun K hK => ?_)) | (refine pwp_rg_then ?_) | (refine pwp_ret ?_) | (refine pwp_skip ?_) | ((refine pwp_cond_d (fun hcd => ?_) (fun hcd => ?_)) <;> (try simp only [hcP] at hcd) <;> (try exact cdT))) | (guard_target =~ rg _ _ _ _ _ _ _; first | (guard_target =~ rg _ _ _ [] _ _ _; first | (refine rg_end ?_)) | (refine rg_a rfl (h := ?_)) | (refine rg_x rfl (hy := rfl) (h := ?_)) | (refine rg_v rfl (h := ?_)) | (refine rg_s rfl ?_) | (refine rg_n rfl ?_)) | (guard_target =~ SOp _ _ _ _ _ _; first | (guard_target =~ SOp _ _ ⟨_, .store _ _ _, _, _, _, none⟩ _ _ _; first | (refine n_store rfl (hK := ?_))) | (guard_target =~ SOp _ _ ⟨_, .alloc _, _, _, _, none⟩ _ _ _; first | (refine n_alloc rfl (by first | exact zv3 | exact zv4 | exact zv9 | exact zv25 | exact zv27 | exact zv28 | exact zv50 | exact zv53 | exact zv55 | exact zv67 | exact zv69 | exact zv107 | exact zv110 | exact zv112 | fail) (hK := ?_))) | (guard_target =~ SOp _ _ ⟨_, .build _ _, _, _, _, none⟩ _ _ _; first | (refine n_build rfl (by first | exact bd25 | exact bd27 | exact bd55 | exact bd67 | exact bd110 | exact bd112 | fail) (hK := ?_))) | (guard_target =~ SOp _ _ ⟨_, .call ⟨.value (.func 82), _, _⟩, _, _, _, none⟩ _ _ _; first | (refine n_call (f := 82) rfl Tryd.call82 (h := AEq.sub' [_, _, _, _, _] (hc := xat_ok _ _ _ _ _ _ _ _ _ (by assumption) (by assumption) (by assumption) (by assumption)) (hq := ?_)))) | (guard_target =~ SOp _ _ ⟨_, .box _ _, _, _, _, none⟩ _ _ _; first | (refine n_box rfl (hK := ?_)))) | (guard_target =~ dw _ _ _ _ _ _ _ _ _ _; first | ((first | guard_target =~ dw _ _ _ _ _ (0 :: _) _ _ _ _ | guard_target =~ dw _ _ _ _ _ (1 :: _) _ _ _ _); first | (refine dw_p rfl rfl (h := (fun τ => ro_v rfl (h := ro_end ⟨rfl, rfl⟩))) (hk := ?_)) | (refine dw_c rfl rfl (h := ro_v rfl (h := ro_end ⟨rfl, rfl⟩)) (hk := ?_))) | ((first | guard_target =~ dw _ _ _ _ _ (1 :: _) _ _ _ _ | guard_target =~ dw _ _ _ _ _ (2 :: _) _ _ _ _ | guard_target =~ dw _ _ _ _ _ (9 :: _) _ _ _ _); first | (refine dw_p rfl rfl (h := (fun τ => ro_v rfl (h := ro_end ⟨rfl, rfl⟩))) (hk := ?_)) | (refine dw_c rfl rfl (h := ro_v rfl (h := ro_end ⟨rfl, rfl⟩)) (hk := ?_))) | ((first | guard_target =~ dw _ _ _ _ _ (2 :: _) _ _ _ _ | guard_target =~ dw _ _ _ _ _ (3 :: _) _ _ _ _ | guard_target =~ dw _ _ _ _ _ (4 :: _) _ _ _ _ | guard_target =~ dw _ _ _ _ _ (10 :: _) _ _ _ _ | guard_target =~ dw _ _ _ _ _ (11 :: _) _ _ _ _); first | (refine dw_p rfl rfl (h := (fun τ => ro_v rfl (h := ro_end ⟨rfl, rfl⟩))) (hk := ?_)) | (refine dw_c rfl rfl (h := ro_v rfl (h := ro_end ⟨rfl, rfl⟩)) (hk := ?_))) | ((first | guard_target =~ dw _ _ _ _ _ (3 :: _) _ _ _ _ | guard_target =~ dw _ _ _ _ _ (4 :: _) _ _ _ _ | guard_target =~ dw _ _ _ _ _ (5 :: _) _ _ _ _ | guard_target =~ dw _ _ _ _ _ (6 :: _) _ _ _ _); first | (refine dw_p rfl rfl (h := (fun τ => ro_v rfl (h := ro_end ⟨rfl, rfl⟩))) (hk := ?_)) | (refine dw_c rfl rfl (h := ro_v rfl (h := ro_end ⟨rfl, rfl⟩)) (hk := ?_))) | (guard_target =~ dw _ _ _ _ _ (7 :: _) _ _ _ _; first | (refine dw_p rfl rfl (h := (fun τ => ro_s (h := n_lit rfl (he := by first | exact eo3 | exact eo4 | exact eo9 | exact eo25 | exact eo27 | exact eo28 | exact eo50 | exact eo53 | exact eo55 | exact eo67 | exact eo69 | exact eo107 | exact eo110 | exact eo112 | fail) (hK := ro_end ⟨rfl, rfl⟩)))) (hk := ?_))) | (guard_target =~ dw _ _ _ _ _ (8 :: _) _ _ _ _; first | (refine dw_w rfl rfl (h := ro_s (h := n_append_row rfl (he := by first | exact eo3 | exact eo4 | exact eo9 | exact eo25 | exact eo27 | exact eo28 | exact eo50 | exact eo53 | exact eo55 | exact eo67 | exact eo69 | exact eo107 | exact eo110 | exact eo112 | fail) (hK := ro_end ⟨rfl, rfl⟩))) (hk := ?_))) | (guard_target =~ dw _ _ _ _ _ (12 :: _) _ _ _ _; first | (refine dw_wn rfl rfl (h := ro_n (h := n_store rfl (hK := ro_end ⟨rfl, rfl⟩))) (hk := ?_))) | (guard_target =~ dw _ _ _ _ _ [] _ _ _ _; first | (refine dw_nil ?_))) | (guard_target =~ (_ ∨ _) ∧ _; first | ((refine end_d [0, 1, 2, 3, 4] (by rw [Tryd.results58, Lf.res1]) (ale_1 ?_) ?_) <;> (try (first | exact aleT | exact stq (by with_reducible rfl) | exact stq (by rfl) | exact stq (by simp (disch := omega) only [go_sem, seval, ↓reduceIte, hU]))))) | (refine hK _ _ ?_; clear hK K)))
set_option maxRecDepth 20000 in
theorem xf_3 (F : List Fl) (S : List Int) (a c : Nat) (xs : List Fl) (s : Nat) (m : Int) (i : Int) (nm : ByteArray) (ns : Bool) (vl : ByteArray) (vs : Bool) (sz : Int) (h : xs.length ≤ 90000) (hS : sumW xs ≤ 2147483647) (hb : ∀ f ∈ xs, f.n.size ≤ 1000000 ∧ f.v.size ≤ 1000000) (hm0 : 0 ≤ m) (hm1 : m ≤ 2147483647) (hF : F.length ≤ 100000) (hSl : S.length ≤ 100000) (g : Fl) (hg1 : g.n.size ≤ 1000000) (hg2 : g.v.size ≤ 1000000) (hv1 : vl.size ≤ 1000000) (hi0 : 0 ≤ i) (hi1 : i ≤ 2147483647) (hbase : (0 < i ∧ dAt xs i = some g) ∨ (i = 0 ∧ g = ⟨nm, ⟨#[]⟩, false⟩)) : AEq Tryd.prog 58 [.ptr 0 0, .ag [i64 3, i64 i, .lit (.string nm), bl ns, .lit (.string vl), bl vs, i64 sz]] [.box [.row 1 a, .row 2 c, .ptr 3 0], .row a 67 3 (F.map flA), .row c 3 1 (S.map intA), .box [.row 4 s, i64 (sumW xs), i64 m], .row s 67 3 (xs.map flA)] (i64 0) [.box [.row 1 (a + 1), .row 2 c, .ptr 3 0], .row (a + 1) 67 3 ((snF F ⟨g.n, vl, false⟩).map flA), .row c 3 1 (S.map intA), .box [.row 4 s, i64 (sumW xs), i64 m], .row s 67 3 (xs.map flA)] := by
  have hbig : ∀ f ∈ xs, f.n.size ≤ 1000000000 ∧ f.v.size ≤ 1000000000 := fun f hf => by have := hb f hf; omega
  have hap := (snF_map F ⟨g.n, vl, false⟩).symm
  rcases hbase with ⟨hi, hg⟩ | ⟨rfl, rfl⟩
  all_goals (try dsimp only at *)
  all_goals (refine acall_body Tryd.func58 rfl Tryd.ntmps58 (by simp) (fun hsc => ?_); simp only [Lf.enter, Nat.reduceAdd]; clear hsc)
  all_goals (have hU := @hap)
  all_goals (repeat' (first | (guard_target =~ PWp _ _ _ _ _ _ _; first | (refine pwp_draw_ord (id := 12) [1, 2, 3, 4, 5, 6, 7, 8, 0, 9, 10, 11, 12] [8, 12] mixed (by kernel_rfl) (by kernel_rfl) ?_) | (refine pwp_seq_k (fun K hK => ?_)) | (refine pwp_rg_then ?_) | (refine pwp_ret ?_) | (refine pwp_skip ?_) | ((refine pwp_cond_d (fun hcd => ?_) (fun hcd => ?_)) <;> (try simp only [hcP] at hcd) <;> (try exact cdT))) | (guard_target =~ rg _ _ _ _ _ _ _; first | (guard_target =~ rg _ _ _ [] _ _ _; first | (refine rg_end ?_)) | (refine rg_a rfl (h := ?_)) | (refine rg_x rfl (hy := rfl) (h := ?_)) | (refine rg_v rfl (h := ?_)) | (refine rg_s rfl ?_) | (refine rg_n rfl ?_)) | (guard_target =~ SOp _ _ _ _ _ _; first | (guard_target =~ SOp _ _ ⟨_, .store _ _ _, _, _, _, none⟩ _ _ _; first | (refine n_store rfl (hK := ?_))) | (guard_target =~ SOp _ _ ⟨_, .alloc _, _, _, _, none⟩ _ _ _; first | (refine n_alloc rfl (by first | exact zv3 | exact zv4 | exact zv9 | exact zv25 | exact zv27 | exact zv28 | exact zv50 | exact zv53 | exact zv55 | exact zv67 | exact zv69 | exact zv107 | exact zv110 | exact zv112 | fail) (hK := ?_))) | (guard_target =~ SOp _ _ ⟨_, .build _ _, _, _, _, none⟩ _ _ _; first | (refine n_build rfl (by first | exact bd25 | exact bd27 | exact bd55 | exact bd67 | exact bd110 | exact bd112 | fail) (hK := ?_))) | (guard_target =~ SOp _ _ ⟨_, .call ⟨.value (.func 82), _, _⟩, _, _, _, none⟩ _ _ _; first | (refine n_call (f := 82) rfl Tryd.call82 (h := AEq.sub' [_, _, _, _, _] (hc := xat_ok _ _ _ _ _ _ _ _ _ (by assumption) (by assumption) (by assumption) (by assumption)) (hq := ?_)))) | (guard_target =~ SOp _ _ ⟨_, .box _ _, _, _, _, none⟩ _ _ _; first | (refine n_box rfl (hK := ?_)))) | (guard_target =~ dw _ _ _ _ _ _ _ _ _ _; first | ((first | guard_target =~ dw _ _ _ _ _ (0 :: _) _ _ _ _ | guard_target =~ dw _ _ _ _ _ (1 :: _) _ _ _ _); first | (refine dw_p rfl rfl (h := (fun τ => ro_v rfl (h := ro_end ⟨rfl, rfl⟩))) (hk := ?_)) | (refine dw_c rfl rfl (h := ro_v rfl (h := ro_end ⟨rfl, rfl⟩)) (hk := ?_))) | ((first | guard_target =~ dw _ _ _ _ _ (1 :: _) _ _ _ _ | guard_target =~ dw _ _ _ _ _ (2 :: _) _ _ _ _ | guard_target =~ dw _ _ _ _ _ (9 :: _) _ _ _ _); first | (refine dw_p rfl rfl (h := (fun τ => ro_v rfl (h := ro_end ⟨rfl, rfl⟩))) (hk := ?_)) | (refine dw_c rfl rfl (h := ro_v rfl (h := ro_end ⟨rfl, rfl⟩)) (hk := ?_))) | ((first | guard_target =~ dw _ _ _ _ _ (2 :: _) _ _ _ _ | guard_target =~ dw _ _ _ _ _ (3 :: _) _ _ _ _ | guard_target =~ dw _ _ _ _ _ (4 :: _) _ _ _ _ | guard_target =~ dw _ _ _ _ _ (10 :: _) _ _ _ _ | guard_target =~ dw _ _ _ _ _ (11 :: _) _ _ _ _); first | (refine dw_p rfl rfl (h := (fun τ => ro_v rfl (h := ro_end ⟨rfl, rfl⟩))) (hk := ?_)) | (refine dw_c rfl rfl (h := ro_v rfl (h := ro_end ⟨rfl, rfl⟩)) (hk := ?_))) | ((first | guard_target =~ dw _ _ _ _ _ (3 :: _) _ _ _ _ | guard_target =~ dw _ _ _ _ _ (4 :: _) _ _ _ _ | guard_target =~ dw _ _ _ _ _ (5 :: _) _ _ _ _ | guard_target =~ dw _ _ _ _ _ (6 :: _) _ _ _ _); first | (refine dw_p rfl rfl (h := (fun τ => ro_v rfl (h := ro_end ⟨rfl, rfl⟩))) (hk := ?_)) | (refine dw_c rfl rfl (h := ro_v rfl (h := ro_end ⟨rfl, rfl⟩)) (hk := ?_))) | (guard_target =~ dw _ _ _ _ _ (7 :: _) _ _ _ _; first | (refine dw_p rfl rfl (h := (fun τ => ro_s (h := n_lit rfl (he := by first | exact eo3 | exact eo4 | exact eo9 | exact eo25 | exact eo27 | exact eo28 | exact eo50 | exact eo53 | exact eo55 | exact eo67 | exact eo69 | exact eo107 | exact eo110 | exact eo112 | fail) (hK := ro_end ⟨rfl, rfl⟩)))) (hk := ?_))) | (guard_target =~ dw _ _ _ _ _ (8 :: _) _ _ _ _; first | (refine dw_w rfl rfl (h := ro_s (h := n_append_row rfl (he := by first | exact eo3 | exact eo4 | exact eo9 | exact eo25 | exact eo27 | exact eo28 | exact eo50 | exact eo53 | exact eo55 | exact eo67 | exact eo69 | exact eo107 | exact eo110 | exact eo112 | fail) (hK := ro_end ⟨rfl, rfl⟩))) (hk := ?_))) | (guard_target =~ dw _ _ _ _ _ (12 :: _) _ _ _ _; first | (refine dw_wn rfl rfl (h := ro_n (h := n_store rfl (hK := ro_end ⟨rfl, rfl⟩))) (hk := ?_))) | (guard_target =~ dw _ _ _ _ _ [] _ _ _ _; first | (refine dw_nil ?_))) | (guard_target =~ (_ ∨ _) ∧ _; first | ((refine end_d [0, 1, 2, 3, 4] (by rw [Tryd.results58, Lf.res1]) (ale_1 ?_) ?_) <;> (try (first | exact aleT | exact stq (by with_reducible rfl) | exact stq (by rfl) | exact stq (by simp (disch := omega) only [go_sem, seval, ↓reduceIte, hU]))))) | (refine hK _ _ ?_; clear hK K)))
set_option maxRecDepth 20000 in
theorem xf_4 (F : List Fl) (S : List Int) (a c : Nat) (xs : List Fl) (s : Nat) (m : Int) (i : Int) (nm : ByteArray) (ns : Bool) (vl : ByteArray) (vs : Bool) (sz : Int) (h : xs.length ≤ 90000) (hS : sumW xs ≤ 2147483647) (hb : ∀ f ∈ xs, f.n.size ≤ 1000000 ∧ f.v.size ≤ 1000000) (hm0 : 0 ≤ m) (hm1 : m ≤ 2147483647) (hF : F.length ≤ 100000) (hSl : S.length ≤ 100000) (g : Fl) (hg1 : g.n.size ≤ 1000000) (hg2 : g.v.size ≤ 1000000) (hv1 : vl.size ≤ 1000000) (hi0 : 0 ≤ i) (hi1 : i ≤ 2147483647) (hbase : (0 < i ∧ dAt xs i = some g) ∨ (i = 0 ∧ g = ⟨nm, ⟨#[]⟩, false⟩)) : AEq Tryd.prog 58 [.ptr 0 0, .ag [i64 4, i64 i, .lit (.string nm), bl ns, .lit (.string vl), bl vs, i64 sz]] [.box [.row 1 a, .row 2 c, .ptr 3 0], .row a 67 3 (F.map flA), .row c 3 1 (S.map intA), .box [.row 4 s, i64 (sumW xs), i64 m], .row s 67 3 (xs.map flA)] (i64 0) [.box [.row 1 (a + 1), .row 2 c, .ptr 3 0], .row (a + 1) 67 3 ((snF F ⟨g.n, vl, true⟩).map flA), .row c 3 1 (S.map intA), .box [.row 4 s, i64 (sumW xs), i64 m], .row s 67 3 (xs.map flA)] := by
  have hbig : ∀ f ∈ xs, f.n.size ≤ 1000000000 ∧ f.v.size ≤ 1000000000 := fun f hf => by have := hb f hf; omega
  have hap := (snF_map F ⟨g.n, vl, true⟩).symm
  rcases hbase with ⟨hi, hg⟩ | ⟨rfl, rfl⟩
  all_goals (try dsimp only at *)
  all_goals (refine acall_body Tryd.func58 rfl Tryd.ntmps58 (by simp) (fun hsc => ?_); simp only [Lf.enter, Nat.reduceAdd]; clear hsc)
  all_goals (have hU := @hap)
  all_goals (repeat' (first | (guard_target =~ PWp _ _ _ _ _ _ _; first | (refine pwp_draw_ord (id := 12) [1, 2, 3, 4, 5, 6, 7, 8, 0, 9, 10, 11, 12] [8, 12] mixed (by kernel_rfl) (by kernel_rfl) ?_) | (refine pwp_seq_k (fun K hK => ?_)) | (refine pwp_rg_then ?_) | (refine pwp_ret ?_) | (refine pwp_skip ?_) | ((refine pwp_cond_d (fun hcd => ?_) (fun hcd => ?_)) <;> (try simp only [hcP] at hcd) <;> (try exact cdT))) | (guard_target =~ rg _ _ _ _ _ _ _; first | (guard_target =~ rg _ _ _ [] _ _ _; first | (refine rg_end ?_)) | (refine rg_a rfl (h := ?_)) | (refine rg_x rfl (hy := rfl) (h := ?_)) | (refine rg_v rfl (h := ?_)) | (refine rg_s rfl ?_) | (refine rg_n rfl ?_)) | (guard_target =~ SOp _ _ _ _ _ _; first | (guard_target =~ SOp _ _ ⟨_, .store _ _ _, _, _, _, none⟩ _ _ _; first | (refine n_store rfl (hK := ?_))) | (guard_target =~ SOp _ _ ⟨_, .alloc _, _, _, _, none⟩ _ _ _; first | (refine n_alloc rfl (by first | exact zv3 | exact zv4 | exact zv9 | exact zv25 | exact zv27 | exact zv28 | exact zv50 | exact zv53 | exact zv55 | exact zv67 | exact zv69 | exact zv107 | exact zv110 | exact zv112 | fail) (hK := ?_))) | (guard_target =~ SOp _ _ ⟨_, .build _ _, _, _, _, none⟩ _ _ _; first | (refine n_build rfl (by first | exact bd25 | exact bd27 | exact bd55 | exact bd67 | exact bd110 | exact bd112 | fail) (hK := ?_))) | (guard_target =~ SOp _ _ ⟨_, .call ⟨.value (.func 82), _, _⟩, _, _, _, none⟩ _ _ _; first | (refine n_call (f := 82) rfl Tryd.call82 (h := AEq.sub' [_, _, _, _, _] (hc := xat_ok _ _ _ _ _ _ _ _ _ (by assumption) (by assumption) (by assumption) (by assumption)) (hq := ?_)))) | (guard_target =~ SOp _ _ ⟨_, .box _ _, _, _, _, none⟩ _ _ _; first | (refine n_box rfl (hK := ?_)))) | (guard_target =~ dw _ _ _ _ _ _ _ _ _ _; first | ((first | guard_target =~ dw _ _ _ _ _ (0 :: _) _ _ _ _ | guard_target =~ dw _ _ _ _ _ (1 :: _) _ _ _ _); first | (refine dw_p rfl rfl (h := (fun τ => ro_v rfl (h := ro_end ⟨rfl, rfl⟩))) (hk := ?_)) | (refine dw_c rfl rfl (h := ro_v rfl (h := ro_end ⟨rfl, rfl⟩)) (hk := ?_))) | ((first | guard_target =~ dw _ _ _ _ _ (1 :: _) _ _ _ _ | guard_target =~ dw _ _ _ _ _ (2 :: _) _ _ _ _ | guard_target =~ dw _ _ _ _ _ (9 :: _) _ _ _ _); first | (refine dw_p rfl rfl (h := (fun τ => ro_v rfl (h := ro_end ⟨rfl, rfl⟩))) (hk := ?_)) | (refine dw_c rfl rfl (h := ro_v rfl (h := ro_end ⟨rfl, rfl⟩)) (hk := ?_))) | ((first | guard_target =~ dw _ _ _ _ _ (2 :: _) _ _ _ _ | guard_target =~ dw _ _ _ _ _ (3 :: _) _ _ _ _ | guard_target =~ dw _ _ _ _ _ (4 :: _) _ _ _ _ | guard_target =~ dw _ _ _ _ _ (10 :: _) _ _ _ _ | guard_target =~ dw _ _ _ _ _ (11 :: _) _ _ _ _); first | (refine dw_p rfl rfl (h := (fun τ => ro_v rfl (h := ro_end ⟨rfl, rfl⟩))) (hk := ?_)) | (refine dw_c rfl rfl (h := ro_v rfl (h := ro_end ⟨rfl, rfl⟩)) (hk := ?_))) | ((first | guard_target =~ dw _ _ _ _ _ (3 :: _) _ _ _ _ | guard_target =~ dw _ _ _ _ _ (4 :: _) _ _ _ _ | guard_target =~ dw _ _ _ _ _ (5 :: _) _ _ _ _ | guard_target =~ dw _ _ _ _ _ (6 :: _) _ _ _ _); first | (refine dw_p rfl rfl (h := (fun τ => ro_v rfl (h := ro_end ⟨rfl, rfl⟩))) (hk := ?_)) | (refine dw_c rfl rfl (h := ro_v rfl (h := ro_end ⟨rfl, rfl⟩)) (hk := ?_))) | (guard_target =~ dw _ _ _ _ _ (7 :: _) _ _ _ _; first | (refine dw_p rfl rfl (h := (fun τ => ro_s (h := n_lit rfl (he := by first | exact eo3 | exact eo4 | exact eo9 | exact eo25 | exact eo27 | exact eo28 | exact eo50 | exact eo53 | exact eo55 | exact eo67 | exact eo69 | exact eo107 | exact eo110 | exact eo112 | fail) (hK := ro_end ⟨rfl, rfl⟩)))) (hk := ?_))) | (guard_target =~ dw _ _ _ _ _ (8 :: _) _ _ _ _; first | (refine dw_w rfl rfl (h := ro_s (h := n_append_row rfl (he := by first | exact eo3 | exact eo4 | exact eo9 | exact eo25 | exact eo27 | exact eo28 | exact eo50 | exact eo53 | exact eo55 | exact eo67 | exact eo69 | exact eo107 | exact eo110 | exact eo112 | fail) (hK := ro_end ⟨rfl, rfl⟩))) (hk := ?_))) | (guard_target =~ dw _ _ _ _ _ (12 :: _) _ _ _ _; first | (refine dw_wn rfl rfl (h := ro_n (h := n_store rfl (hK := ro_end ⟨rfl, rfl⟩))) (hk := ?_))) | (guard_target =~ dw _ _ _ _ _ [] _ _ _ _; first | (refine dw_nil ?_))) | (guard_target =~ (_ ∨ _) ∧ _; first | ((refine end_d [0, 1, 2, 3, 4] (by rw [Tryd.results58, Lf.res1]) (ale_1 ?_) ?_) <;> (try (first | exact aleT | exact stq (by with_reducible rfl) | exact stq (by rfl) | exact stq (by simp (disch := omega) only [go_sem, seval, ↓reduceIte, hU]))))) | (refine hK _ _ ?_; clear hK K)))
set_option maxRecDepth 20000 in
theorem xf_2f (F : List Fl) (S : List Int) (a c : Nat) (xs : List Fl) (s : Nat) (m : Int) (i : Int) (nm : ByteArray) (ns : Bool) (vl : ByteArray) (vs : Bool) (sz : Int) (h : xs.length ≤ 90000) (hS : sumW xs ≤ 2147483647) (hb : ∀ f ∈ xs, f.n.size ≤ 1000000 ∧ f.v.size ≤ 1000000) (hm0 : 0 ≤ m) (hm1 : m ≤ 2147483647) (hF : F.length ≤ 100000) (hSl : S.length ≤ 100000) (g : Fl) (hg1 : g.n.size ≤ 1000000) (hg2 : g.v.size ≤ 1000000) (hv1 : vl.size ≤ 1000000) (hi0 : 0 ≤ i) (hi1 : i ≤ 2147483647) (hbase : (0 < i ∧ dAt xs i = some g) ∨ (i = 0 ∧ g = ⟨nm, ⟨#[]⟩, false⟩)) (hw : wt ⟨g.n, vl, false⟩ ≤ m) : AEq Tryd.prog 58 [.ptr 0 0, .ag [i64 2, i64 i, .lit (.string nm), bl ns, .lit (.string vl), bl vs, i64 sz]] [.box [.row 1 a, .row 2 c, .ptr 3 0], .row a 67 3 (F.map flA), .row c 3 1 (S.map intA), .box [.row 4 s, i64 (sumW xs), i64 m], .row s 67 3 (xs.map flA)] (i64 0) [.box [.row 1 (a + 1), .row 2 c, .ptr 3 0], .row (a + 1) 67 3 ((snF F ⟨g.n, vl, false⟩).map flA), .row c 3 1 (S.map intA), .box [.row 4 (s + 2), i64 (sumW (addX xs m ⟨g.n, vl, false⟩)), i64 m], .row (s + 2) 67 3 ((addX xs m ⟨g.n, vl, false⟩).map flA)] := by
  have hbig : ∀ f ∈ xs, f.n.size ≤ 1000000000 ∧ f.v.size ≤ 1000000000 := fun f hf => by have := hb f hf; omega
  have hap := (snF_map F ⟨g.n, vl, false⟩).symm
  have hax := addX_is xs m ⟨g.n, vl, false⟩
  rcases hbase with ⟨hi, hg⟩ | ⟨rfl, rfl⟩
  all_goals (try dsimp only at *)
  all_goals (refine acall_body Tryd.func58 rfl Tryd.ntmps58 (by simp) (fun hsc => ?_); simp only [Lf.enter, Nat.reduceAdd]; clear hsc)
  all_goals (have hU := And.intro @hap (@hax))
  all_goals (repeat' (first | (guard_target =~ PWp _ _ _ _ _ _ _; first | (refine pwp_draw_ord (id := 11) [0, 1, 2, 3, 4, 5] [5] mixed (by kernel_rfl) (by kernel_rfl) ?_) | (refine pwp_draw_ord (id := 12) [1, 2, 3, 4, 5, 6, 7, 8, 0, 9, 10, 11, 12] [8, 12] mixed (by kernel_rfl) (by kernel_rfl) ?_) | (refine pwp_seq_k (fun K hK => ?_)) | (refine pwp_rg_then ?_) | (refine pwp_ret ?_) | (refine pwp_skip ?_) | ((refine pwp_cond_d (fun hcd => ?_) (fun hcd => ?_)) <;> (try simp only [hcP] at hcd) <;> (try exact cdT))) | (guard_target =~ rg _ _ _ _ _ _ _; first | (guard_target =~ rg _ _ _ [] _ _ _; first | (refine rg_end ?_)) | (refine rg_a rfl (h := ?_)) | (refine rg_x rfl (hy := rfl) (h := ?_)) | (refine rg_v rfl (h := ?_)) | (refine rg_s rfl ?_) | (refine rg_n rfl ?_)) | (guard_target =~ SOp _ _ _ _ _ _; first | (guard_target =~ SOp _ _ ⟨_, .store _ _ _, _, _, _, none⟩ _ _ _; first | (refine n_store rfl (hK := ?_))) | (guard_target =~ SOp _ _ ⟨_, .alloc _, _, _, _, none⟩ _ _ _; first | (refine n_alloc rfl (by first | exact zv3 | exact zv4 | exact zv9 | exact zv25 | exact zv27 | exact zv28 | exact zv50 | exact zv53 | exact zv55 | exact zv67 | exact zv69 | exact zv107 | exact zv110 | exact zv112 | fail) (hK := ?_))) | (guard_target =~ SOp _ _ ⟨_, .build _ _, _, _, _, none⟩ _ _ _; first | (refine n_build rfl (by first | exact bd25 | exact bd27 | exact bd55 | exact bd67 | exact bd110 | exact bd112 | fail) (hK := ?_))) | (guard_target =~ SOp _ _ ⟨_, .call ⟨.value (.func 82), _, _⟩, _, _, _, none⟩ _ _ _; first | (refine n_call (f := 82) rfl Tryd.call82 (h := AEq.sub' [_, _, _, _, _] (hc := xat_ok _ _ _ _ _ _ _ _ _ aoT aoT aoT aoT) (hq := ?_)))) | (guard_target =~ SOp _ _ ⟨_, .box _ _, _, _, _, none⟩ _ _ _; first | (refine n_box rfl (hK := ?_)))) | (guard_target =~ dw _ _ _ _ _ _ _ _ _ _; first | ((first | guard_target =~ dw _ _ _ _ _ (0 :: _) _ _ _ _ | guard_target =~ dw _ _ _ _ _ (1 :: _) _ _ _ _); first | (refine dw_p rfl rfl (h := (fun τ => ro_v rfl (h := ro_end ⟨rfl, rfl⟩))) (hk := ?_)) | (refine dw_c rfl rfl (h := ro_v rfl (h := ro_end ⟨rfl, rfl⟩)) (hk := ?_))) | ((first | guard_target =~ dw _ _ _ _ _ (1 :: _) _ _ _ _ | guard_target =~ dw _ _ _ _ _ (2 :: _) _ _ _ _ | guard_target =~ dw _ _ _ _ _ (9 :: _) _ _ _ _); first | (refine dw_p rfl rfl (h := (fun τ => ro_v rfl (h := ro_end ⟨rfl, rfl⟩))) (hk := ?_)) | (refine dw_c rfl rfl (h := ro_v rfl (h := ro_end ⟨rfl, rfl⟩)) (hk := ?_))) | ((first | guard_target =~ dw _ _ _ _ _ (2 :: _) _ _ _ _ | guard_target =~ dw _ _ _ _ _ (3 :: _) _ _ _ _ | guard_target =~ dw _ _ _ _ _ (4 :: _) _ _ _ _ | guard_target =~ dw _ _ _ _ _ (10 :: _) _ _ _ _ | guard_target =~ dw _ _ _ _ _ (11 :: _) _ _ _ _); first | (refine dw_p rfl rfl (h := (fun τ => ro_v rfl (h := ro_end ⟨rfl, rfl⟩))) (hk := ?_)) | (refine dw_c rfl rfl (h := ro_v rfl (h := ro_end ⟨rfl, rfl⟩)) (hk := ?_))) | ((first | guard_target =~ dw _ _ _ _ _ (3 :: _) _ _ _ _ | guard_target =~ dw _ _ _ _ _ (4 :: _) _ _ _ _ | guard_target =~ dw _ _ _ _ _ (5 :: _) _ _ _ _ | guard_target =~ dw _ _ _ _ _ (6 :: _) _ _ _ _); first | (refine dw_p rfl rfl (h := (fun τ => ro_v rfl (h := ro_end ⟨rfl, rfl⟩))) (hk := ?_)) | (refine dw_c rfl rfl (h := ro_v rfl (h := ro_end ⟨rfl, rfl⟩)) (hk := ?_))) | (guard_target =~ dw _ _ _ _ _ (5 :: _) _ _ _ _; first | (refine dw_w rfl rfl (h := ro_s (h := n_call (f := 83) rfl Tryd.call83 (h := AEq.sub' [_, _] (hc := t_add_c _ _ _ _ _ _ aoT aoT aoT aoT aoT aoT aoT) (hq := ro_end ⟨rfl, rfl⟩)))) (hk := ?_))) | (guard_target =~ dw _ _ _ _ _ (7 :: _) _ _ _ _; first | (refine dw_p rfl rfl (h := (fun τ => ro_s (h := n_lit rfl (he := by first | exact eo3 | exact eo4 | exact eo9 | exact eo25 | exact eo27 | exact eo28 | exact eo50 | exact eo53 | exact eo55 | exact eo67 | exact eo69 | exact eo107 | exact eo110 | exact eo112 | fail) (hK := ro_end ⟨rfl, rfl⟩)))) (hk := ?_))) | (guard_target =~ dw _ _ _ _ _ (8 :: _) _ _ _ _; first | (refine dw_w rfl rfl (h := ro_s (h := n_append_row rfl (he := by first | exact eo3 | exact eo4 | exact eo9 | exact eo25 | exact eo27 | exact eo28 | exact eo50 | exact eo53 | exact eo55 | exact eo67 | exact eo69 | exact eo107 | exact eo110 | exact eo112 | fail) (hK := ro_end ⟨rfl, rfl⟩))) (hk := ?_))) | (guard_target =~ dw _ _ _ _ _ (12 :: _) _ _ _ _; first | (refine dw_wn rfl rfl (h := ro_n (h := n_store rfl (hK := ro_end ⟨rfl, rfl⟩))) (hk := ?_))) | (guard_target =~ dw _ _ _ _ _ [] _ _ _ _; first | (refine dw_nil ?_))) | (guard_target =~ (_ ∨ _) ∧ _; first | ((refine end_d [0, 1, 2, 3, 4] (by rw [Tryd.results58, Lf.res1]) (ale_1 ?_) ?_) <;> (try (first | exact aleT | exact stq (by with_reducible rfl) | exact stq (by rfl) | exact stq (by simp (disch := omega) only [go_sem, seval, ↓reduceIte, hU]))))) | (refine hK _ _ ?_; clear hK K)))
set_option maxRecDepth 20000 in
theorem xf_2n (F : List Fl) (S : List Int) (a c : Nat) (xs : List Fl) (s : Nat) (m : Int) (i : Int) (nm : ByteArray) (ns : Bool) (vl : ByteArray) (vs : Bool) (sz : Int) (h : xs.length ≤ 90000) (hS : sumW xs ≤ 2147483647) (hb : ∀ f ∈ xs, f.n.size ≤ 1000000 ∧ f.v.size ≤ 1000000) (hm0 : 0 ≤ m) (hm1 : m ≤ 2147483647) (hF : F.length ≤ 100000) (hSl : S.length ≤ 100000) (g : Fl) (hg1 : g.n.size ≤ 1000000) (hg2 : g.v.size ≤ 1000000) (hv1 : vl.size ≤ 1000000) (hi0 : 0 ≤ i) (hi1 : i ≤ 2147483647) (hbase : (0 < i ∧ dAt xs i = some g) ∨ (i = 0 ∧ g = ⟨nm, ⟨#[]⟩, false⟩)) (hw : m < wt ⟨g.n, vl, false⟩) : AEq Tryd.prog 58 [.ptr 0 0, .ag [i64 2, i64 i, .lit (.string nm), bl ns, .lit (.string vl), bl vs, i64 sz]] [.box [.row 1 a, .row 2 c, .ptr 3 0], .row a 67 3 (F.map flA), .row c 3 1 (S.map intA), .box [.row 4 s, i64 (sumW xs), i64 m], .row s 67 3 (xs.map flA)] (i64 0) [.box [.row 1 (a + 1), .row 2 c, .ptr 3 0], .row (a + 1) 67 3 ((snF F ⟨g.n, vl, false⟩).map flA), .row c 3 1 (S.map intA), .box [.row 4 (s + 1), i64 (sumW xsE), i64 m], .row (s + 1) 67 3 (xsE.map flA)] := by
  have hbig : ∀ f ∈ xs, f.n.size ≤ 1000000000 ∧ f.v.size ≤ 1000000000 := fun f hf => by have := hb f hf; omega
  have hap := (snF_map F ⟨g.n, vl, false⟩).symm
  rcases hbase with ⟨hi, hg⟩ | ⟨rfl, rfl⟩
  all_goals (try dsimp only at *)
  all_goals (refine acall_body Tryd.func58 rfl Tryd.ntmps58 (by simp) (fun hsc => ?_); simp only [Lf.enter, Nat.reduceAdd]; clear hsc)
  all_goals (have hU := @hap)
  all_goals (repeat' (first | (guard_target =~ PWp _ _ _ _ _ _ _; first | (refine pwp_draw_ord (id := 11) [0, 1, 2, 3, 4, 5] [5] mixed (by kernel_rfl) (by kernel_rfl) ?_) | (refine pwp_draw_ord (id := 12) [1, 2, 3, 4, 5, 6, 7, 8, 0, 9, 10, 11, 12] [8, 12] mixed (by kernel_rfl) (by kernel_rfl) ?_) | (refine pwp_seq_k (fun K hK => ?_)) | (refine pwp_rg_then ?_) | (refine pwp_ret ?_) | (refine pwp_skip ?_) | ((refine pwp_cond_d (fun hcd => ?_) (fun hcd => ?_)) <;> (try simp only [hcP] at hcd) <;> (try exact cdT))) | (guard_target =~ rg _ _ _ _ _ _ _; first | (guard_target =~ rg _ _ _ [] _ _ _; first | (refine rg_end ?_)) | (refine rg_a rfl (h := ?_)) | (refine rg_x rfl (hy := rfl) (h := ?_)) | (refine rg_v rfl (h := ?_)) | (refine rg_s rfl ?_) | (refine rg_n rfl ?_)) | (guard_target =~ SOp _ _ _ _ _ _; first | (guard_target =~ SOp _ _ ⟨_, .store _ _ _, _, _, _, none⟩ _ _ _; first | (refine n_store rfl (hK := ?_))) | (guard_target =~ SOp _ _ ⟨_, .alloc _, _, _, _, none⟩ _ _ _; first | (refine n_alloc rfl (by first | exact zv3 | exact zv4 | exact zv9 | exact zv25 | exact zv27 | exact zv28 | exact zv50 | exact zv53 | exact zv55 | exact zv67 | exact zv69 | exact zv107 | exact zv110 | exact zv112 | fail) (hK := ?_))) | (guard_target =~ SOp _ _ ⟨_, .build _ _, _, _, _, none⟩ _ _ _; first | (refine n_build rfl (by first | exact bd25 | exact bd27 | exact bd55 | exact bd67 | exact bd110 | exact bd112 | fail) (hK := ?_))) | (guard_target =~ SOp _ _ ⟨_, .call ⟨.value (.func 82), _, _⟩, _, _, _, none⟩ _ _ _; first | (refine n_call (f := 82) rfl Tryd.call82 (h := AEq.sub' [_, _, _, _, _] (hc := xat_ok _ _ _ _ _ _ _ _ _ aoT aoT aoT aoT) (hq := ?_)))) | (guard_target =~ SOp _ _ ⟨_, .box _ _, _, _, _, none⟩ _ _ _; first | (refine n_box rfl (hK := ?_)))) | (guard_target =~ dw _ _ _ _ _ _ _ _ _ _; first | ((first | guard_target =~ dw _ _ _ _ _ (0 :: _) _ _ _ _ | guard_target =~ dw _ _ _ _ _ (1 :: _) _ _ _ _); first | (refine dw_p rfl rfl (h := (fun τ => ro_v rfl (h := ro_end ⟨rfl, rfl⟩))) (hk := ?_)) | (refine dw_c rfl rfl (h := ro_v rfl (h := ro_end ⟨rfl, rfl⟩)) (hk := ?_))) | ((first | guard_target =~ dw _ _ _ _ _ (1 :: _) _ _ _ _ | guard_target =~ dw _ _ _ _ _ (2 :: _) _ _ _ _ | guard_target =~ dw _ _ _ _ _ (9 :: _) _ _ _ _); first | (refine dw_p rfl rfl (h := (fun τ => ro_v rfl (h := ro_end ⟨rfl, rfl⟩))) (hk := ?_)) | (refine dw_c rfl rfl (h := ro_v rfl (h := ro_end ⟨rfl, rfl⟩)) (hk := ?_))) | ((first | guard_target =~ dw _ _ _ _ _ (2 :: _) _ _ _ _ | guard_target =~ dw _ _ _ _ _ (3 :: _) _ _ _ _ | guard_target =~ dw _ _ _ _ _ (4 :: _) _ _ _ _ | guard_target =~ dw _ _ _ _ _ (10 :: _) _ _ _ _ | guard_target =~ dw _ _ _ _ _ (11 :: _) _ _ _ _); first | (refine dw_p rfl rfl (h := (fun τ => ro_v rfl (h := ro_end ⟨rfl, rfl⟩))) (hk := ?_)) | (refine dw_c rfl rfl (h := ro_v rfl (h := ro_end ⟨rfl, rfl⟩)) (hk := ?_))) | ((first | guard_target =~ dw _ _ _ _ _ (3 :: _) _ _ _ _ | guard_target =~ dw _ _ _ _ _ (4 :: _) _ _ _ _ | guard_target =~ dw _ _ _ _ _ (5 :: _) _ _ _ _ | guard_target =~ dw _ _ _ _ _ (6 :: _) _ _ _ _); first | (refine dw_p rfl rfl (h := (fun τ => ro_v rfl (h := ro_end ⟨rfl, rfl⟩))) (hk := ?_)) | (refine dw_c rfl rfl (h := ro_v rfl (h := ro_end ⟨rfl, rfl⟩)) (hk := ?_))) | (guard_target =~ dw _ _ _ _ _ (5 :: _) _ _ _ _; first | (refine dw_w rfl rfl (h := ro_s (h := n_call (f := 83) rfl Tryd.call83 (h := AEq.sub' [_, _] (hc := t_add_bigc _ _ _ _ _ _ aoT aoT aoT aoT aoT aoT aoT) (hq := ro_end ⟨rfl, rfl⟩)))) (hk := ?_))) | (guard_target =~ dw _ _ _ _ _ (7 :: _) _ _ _ _; first | (refine dw_p rfl rfl (h := (fun τ => ro_s (h := n_lit rfl (he := by first | exact eo3 | exact eo4 | exact eo9 | exact eo25 | exact eo27 | exact eo28 | exact eo50 | exact eo53 | exact eo55 | exact eo67 | exact eo69 | exact eo107 | exact eo110 | exact eo112 | fail) (hK := ro_end ⟨rfl, rfl⟩)))) (hk := ?_))) | (guard_target =~ dw _ _ _ _ _ (8 :: _) _ _ _ _; first | (refine dw_w rfl rfl (h := ro_s (h := n_append_row rfl (he := by first | exact eo3 | exact eo4 | exact eo9 | exact eo25 | exact eo27 | exact eo28 | exact eo50 | exact eo53 | exact eo55 | exact eo67 | exact eo69 | exact eo107 | exact eo110 | exact eo112 | fail) (hK := ro_end ⟨rfl, rfl⟩))) (hk := ?_))) | (guard_target =~ dw _ _ _ _ _ (12 :: _) _ _ _ _; first | (refine dw_wn rfl rfl (h := ro_n (h := n_store rfl (hK := ro_end ⟨rfl, rfl⟩))) (hk := ?_))) | (guard_target =~ dw _ _ _ _ _ [] _ _ _ _; first | (refine dw_nil ?_))) | (guard_target =~ (_ ∨ _) ∧ _; first | ((refine end_d [0, 1, 2, 3, 4] (by rw [Tryd.results58, Lf.res1]) (ale_1 ?_) ?_) <;> (try (first | exact aleT | exact stq (by with_reducible rfl) | exact stq (by rfl) | exact stq (by simp (disch := omega) only [go_sem, seval, ↓reduceIte, hU]))))) | (refine hK _ _ ?_; clear hK K)))
end Go.Proofs.YtohbfcmmpaikhaaDoor

set_option linter.unusedVariables false
set_option linter.unusedSimpArgs false
namespace Go.Proofs.YtohbfcmmpaikhaaDoor
open Go Go.Lf Go.Proofs
attribute [local irreducible] Lf.rg Lf.ro Lf.PWp Lf.SOp Lf.ACall Lf.Scoped Lf.dg
set_option maxRecDepth 20000
set_option maxHeartbeats 4000000
theorem slG_len (b : List UInt8) (most : Int) : (slG b most).1.length ≤ 8 * b.length := by
  have hbd := pgG_bd b (c := 7) (by decide) (by decide)
  rcases slG_cases b most with ⟨h1, h2⟩ | ⟨h1, h0, h3, h2⟩ | ⟨h1, h0, h3, h4, h2⟩ | ⟨h1, h0, h3, h4⟩
  · rw [h2]; exact Nat.zero_le _
  · rw [h2]; exact Nat.zero_le _
  · rw [h2]; exact Nat.zero_le _
  · obtain ⟨k0, hk⟩ : ∃ j : Nat, (pgG b 7).2.1 = j := ⟨(pgG b 7).2.1.toNat, by omega⟩
    obtain ⟨n0, hn⟩ : ∃ j : Nat, (pgG b 7).1 = j := ⟨(pgG b 7).1.toNat, by omega⟩
    have hc : (cutB b k0 n0).length ≤ b.length := by unfold cutB; rw [List.length_take, List.length_drop]; omega
    cases hh : hiB b with
    | false => rw [slG_lit h1 h3 h4 hk hn hh]; dsimp only; omega
    | true =>
      have hl := huM_len (bitsL (cutB b k0 n0)) 0 0 []
      rw [bitsL_len, List.length_nil] at hl
      by_cases h5 : (huM (bitsL (cutB b k0 n0)) 0 0 []).2 = 0
      · rw [slG_cod h1 h3 h4 hk hn hh h5]; dsimp only; omega
      · rw [slG_bad h1 h3 h4 hk hn hh h5]; exact Nat.zero_le _
theorem rgV_len (b : List UInt8) (k i : Int) (nm : List UInt8) (ns : Bool) (a : Nat) (hn : nm.length ≤ 8 * b.length) : (rgV b k i nm ns a).nm.length ≤ 8 * b.length ∧ (rgV b k i nm ns a).vl.length ≤ 8 * b.length := by
  have h := slG_len (b.drop a) (b.length : Int)
  rw [List.length_drop] at h
  unfold rgV
  split
  · exact ⟨Nat.zero_le _, Nat.zero_le _⟩
  · exact ⟨hn, by dsimp only; omega⟩
theorem rgN_len (b : List UInt8) (k : Int) (a : Nat) : (rgN b k a).nm.length ≤ 8 * b.length ∧ (rgN b k a).vl.length ≤ 8 * b.length := by
  have h := slG_len (b.drop a) (b.length : Int)
  rw [List.length_drop] at h
  unfold rgN
  split
  · exact ⟨Nat.zero_le _, Nat.zero_le _⟩
  · exact rgV_len _ _ _ _ _ _ (by omega)
theorem rg_len (b : List UInt8) : (rgM b).nm.length ≤ 8 * b.length ∧ (rgM b).vl.length ≤ 8 * b.length := by
  unfold rgM
  split
  · exact ⟨Nat.zero_le _, Nat.zero_le _⟩
  · unfold rgK
    split
    · exact ⟨Nat.zero_le _, Nat.zero_le _⟩
    split
    · exact ⟨Nat.zero_le _, Nat.zero_le _⟩
    split
    · split
      · exact ⟨Nat.zero_le _, Nat.zero_le _⟩
      · exact ⟨Nat.zero_le _, Nat.zero_le _⟩
    split
    · exact rgN_len _ _ _
    · exact rgV_len _ _ _ _ _ _ (Nat.zero_le _)
structure DT where
  (xs : List Fl) (s : Nat) (m : Int)
structure DQ where
  (F : List Fl) (S : List Int) (t : DT)
def fG (xs : List Fl) (r : Rp) : Option Fl := if r.i = 0 then some ⟨⟨r.nm.toArray⟩, ⟨#[]⟩, false⟩ else dAt xs r.i
def fV (r : Rp) (g : Fl) : Fl := if r.k = 1 then g else ⟨g.n, ⟨r.vl.toArray⟩, decide (r.k = 4)⟩
def addT (t : DT) (f : Fl) : DT := if wt f ≤ t.m then ⟨addX t.xs t.m f, t.s + 2, t.m⟩ else ⟨xsE, t.s + 1, t.m⟩
def dStep (q : DQ) (r : Rp) : DQ × Int :=
  if r.k = 5 then (if 0 < q.F.length then (q, 13) else (⟨q.F, snI q.S r.sz, ⟨keptL q.t.xs r.sz, q.t.s + 1, r.sz⟩⟩, 0))
  else match fG q.t.xs r with
    | none => (q, 12)
    | some g => (⟨snF q.F (fV r g), q.S, if r.k = 2 then addT q.t (fV r g) else q.t⟩, 0)
def decM : Nat → List UInt8 → DQ → DQ × Int
  | 0, _, q => (q, 0)
  | n + 1, b, q => if b.length = 0 then (q, 0) else if (rgM b).e ≠ 0 then (q, (rgM b).e) else if (dStep q (rgM b)).2 ≠ 0 then dStep q (rgM b) else decM n (b.drop (rgM b).n.toNat) (dStep q (rgM b)).1
theorem decM_nil {n : Nat} {b : List UInt8} {q : DQ} (h : b.length = 0) : decM n b q = (q, 0) := by
  cases n with
  | zero => rfl
  | succ n => rw [decM, if_pos h]
theorem decM_e {n : Nat} {b : List UInt8} {q : DQ} (h : b.length ≠ 0) (he : (rgM b).e ≠ 0) : decM (n + 1) b q = (q, (rgM b).e) := by rw [decM, if_neg h, if_pos he]
theorem decM_s {n : Nat} {b : List UInt8} {q q' : DQ} {e : Int} (h : b.length ≠ 0) (he : (rgM b).e = 0) (hs : dStep q (rgM b) = (q', e)) (h2 : e ≠ 0) : decM (n + 1) b q = (q', e) := by
  rw [decM, if_neg h, if_neg (by simpa using he), hs, if_pos h2]
theorem decM_r {n a : Nat} {b : List UInt8} {q q' : DQ} (h : b.length ≠ 0) (he : (rgM b).e = 0) (ha : (rgM b).n = (a : Int)) (hs : dStep q (rgM b) = (q', 0)) : decM (n + 1) b q = decM n (b.drop a) q' := by
  rw [decM, if_neg h, if_neg (by simpa using he), hs, if_neg (by simp), ha, Int.toNat_natCast]
theorem stTab_size : ∀ p ∈ stTab, p.1.size ≤ 100 ∧ p.2.size ≤ 100 := by decide +kernel
theorem stF_size (i : Int) : (stF i).n.size ≤ 100 ∧ (stF i).v.size ≤ 100 := by
  unfold stF stAt
  dsimp only
  by_cases h : 1 ≤ i
  · rw [if_pos h]
    by_cases h2 : i.toNat - 1 < stTab.length
    · rw [List.getD_eq_getElem?_getD, List.getElem?_eq_getElem h2, Option.getD_some]
      exact stTab_size _ (List.getElem_mem h2)
    · rw [List.getD_eq_getElem?_getD, List.getElem?_eq_none (by omega), Option.getD_none]
      exact ⟨Nat.zero_le _, Nat.zero_le _⟩
  · rw [if_neg h]; exact ⟨Nat.zero_le _, Nat.zero_le _⟩
theorem dAt_size {xs : List Fl} (hb : ∀ f ∈ xs, f.n.size ≤ 1000000 ∧ f.v.size ≤ 1000000) {i : Int} {g : Fl} (h : dAt xs i = some g) : g.n.size ≤ 1000000 ∧ g.v.size ≤ 1000000 := by
  unfold dAt at h
  split at h
  · split at h
    · obtain rfl := Option.some.inj h
      have := stF_size i
      omega
    · simp at h
  · exact hb g (List.mem_reverse.1 (List.mem_of_getElem? h))
end Go.Proofs.YtohbfcmmpaikhaaDoor

set_option linter.unusedVariables false
set_option linter.unusedSimpArgs false
namespace Go.Proofs.YtohbfcmmpaikhaaDoor
open Go Go.Lf Go.Proofs
attribute [local irreducible] Lf.rg Lf.ro Lf.PWp Lf.SOp Lf.ACall Lf.Scoped Lf.dg Lf.dw
set_option maxRecDepth 20000
set_option maxHeartbeats 4000000
structure DW where
  (b : List UInt8) (n a c : Nat) (q : DQ)
def DOk (w : DW) : Prop := w.b.length ≤ w.n ∧ w.b.length ≤ 50000 ∧ w.q.t.xs.length + w.b.length ≤ 90000 ∧ sumW w.q.t.xs ≤ w.q.t.m ∧ 0 ≤ w.q.t.m ∧ w.q.t.m ≤ 2147483647 ∧ (∀ f ∈ w.q.t.xs, f.n.size ≤ 1000000 ∧ f.v.size ≤ 1000000) ∧ w.q.F.length + w.b.length ≤ 100000 ∧ w.q.S.length + w.b.length ≤ 100000
def xs0 : List Fl := []
def ss0 : List Int := []
theorem xs0_len : xs0.length = 0 := rfl
theorem ss0_len : ss0.length = 0 := rfl
theorem xs0_map : xs0.map flA = [] := rfl
theorem ss0_map : ss0.map intA = [] := rfl
theorem dStep_res {Fs : List Fl} {S : List Int} {t : DT} {r : Rp} (h : r.k = 5) (h0 : ¬ 0 < Fs.length) : dStep ⟨Fs, S, t⟩ r = (⟨Fs, snI S r.sz, ⟨keptL t.xs r.sz, t.s + 1, r.sz⟩⟩, 0) := by
  unfold dStep; rw [if_pos h]; dsimp only; rw [if_neg h0]
theorem dStep_upd {Fs : List Fl} {S : List Int} {t : DT} {r : Rp} (h : r.k = 5) (h0 : 0 < Fs.length) : dStep ⟨Fs, S, t⟩ r = (⟨Fs, S, t⟩, 13) := by
  unfold dStep; rw [if_pos h]; dsimp only; rw [if_pos h0]
theorem dStep_no {Fs : List Fl} {S : List Int} {t : DT} {r : Rp} (h : r.k ≠ 5) (hg : fG t.xs r = none) : dStep ⟨Fs, S, t⟩ r = (⟨Fs, S, t⟩, 12) := by
  unfold dStep; rw [if_neg h]; dsimp only; rw [hg]
theorem dStep_f {Fs : List Fl} {S : List Int} {t : DT} {r : Rp} {g : Fl} (h : r.k ≠ 5) (h2 : r.k ≠ 2) (hg : fG t.xs r = some g) : dStep ⟨Fs, S, t⟩ r = (⟨snF Fs (fV r g), S, t⟩, 0) := by
  unfold dStep; rw [if_neg h]; dsimp only; rw [hg]; dsimp only; rw [if_neg h2]
theorem dStep_2 {Fs : List Fl} {S : List Int} {t : DT} {r : Rp} {g : Fl} (h2 : r.k = 2) (hg : fG t.xs r = some g) : dStep ⟨Fs, S, t⟩ r = (⟨snF Fs (fV r g), S, addT t (fV r g)⟩, 0) := by
  unfold dStep; rw [if_neg (by omega)]; dsimp only; rw [hg]; dsimp only; rw [if_pos h2]
theorem addT_y {t : DT} {f : Fl} (h : wt f ≤ t.m) : addT t f = ⟨addX t.xs t.m f, t.s + 2, t.m⟩ := if_pos h
theorem addT_n {t : DT} {f : Fl} (h : ¬ wt f ≤ t.m) : addT t f = ⟨xsE, t.s + 1, t.m⟩ := if_neg h
theorem fG_0 {xs : List Fl} {r : Rp} (h : r.i = 0) : fG xs r = some ⟨⟨r.nm.toArray⟩, ⟨#[]⟩, false⟩ := if_pos h
theorem fG_i {xs : List Fl} {r : Rp} (h : ¬ r.i = 0) : fG xs r = dAt xs r.i := if_neg h
theorem addX_size {xs : List Fl} {m : Int} {f : Fl} (hb : ∀ f ∈ xs, f.n.size ≤ 1000000 ∧ f.v.size ≤ 1000000) (h1 : f.n.size ≤ 1000000) (h2 : f.v.size ≤ 1000000) : ∀ g ∈ addX xs m f, g.n.size ≤ 1000000 ∧ g.v.size ≤ 1000000 := by
  intro g hg
  unfold addX at hg
  rw [List.mem_append, List.mem_singleton] at hg
  rcases hg with hg | rfl
  · exact hb g (keptL_mem _ _ g hg)
  · exact ⟨h1, h2⟩
theorem asz (l : List UInt8) : (⟨l.toArray⟩ : ByteArray).size = l.length := rfl
theorem xsE_len : xsE.length = 0 := rfl
theorem xsE_sum : sumW xsE = 0 := rfl
theorem xsE_size : ∀ g ∈ xsE, g.n.size ≤ 1000000 ∧ g.v.size ≤ 1000000 := by intro f hf; simp [xsE] at hf
def decR (Q : DQ) (E : Int) : AV := if E = 0 then .tu [.ag [.sl false false (Q.F.map flA), .sl false false (Q.S.map intA)], i64 0] else .tu [.ag [.sl true false [], .sl true false []], i64 E]
theorem decR_ok {Q : DQ} : decR Q 0 = .tu [.ag [.sl false false (Q.F.map flA), .sl false false (Q.S.map intA)], i64 0] := if_pos rfl
theorem decR_no {Q : DQ} {E : Int} (h : E ≠ 0) : decR Q E = .tu [.ag [.sl true false [], .sl true false []], i64 E] := if_neg h
def decT (s : Nat) (xs : List Fl) (m : Int) (Q : DQ) (E : Int) : Sto := if E = 0 then [.box [.ptr 3 0], .box [.row 2 s, i64 (sumW xs), i64 m], .row s 67 3 (xs.map flA), .box [.row 4 Q.t.s, i64 (sumW Q.t.xs), i64 Q.t.m], .row Q.t.s 67 3 (Q.t.xs.map flA)] else [.box [.ptr 1 0], .box [.row 2 s, i64 (sumW xs), i64 m], .row s 67 3 (xs.map flA)]
theorem decT_ok {s : Nat} {xs : List Fl} {m : Int} {Q : DQ} : decT s xs m Q 0 = [.box [.ptr 3 0], .box [.row 2 s, i64 (sumW xs), i64 m], .row s 67 3 (xs.map flA), .box [.row 4 Q.t.s, i64 (sumW Q.t.xs), i64 Q.t.m], .row Q.t.s 67 3 (Q.t.xs.map flA)] := if_pos rfl
theorem decT_no {s : Nat} {xs : List Fl} {m : Int} {Q : DQ} {E : Int} (h : E ≠ 0) : decT s xs m Q E = [.box [.ptr 1 0], .box [.row 2 s, i64 (sumW xs), i64 m], .row s 67 3 (xs.map flA)] := if_neg h
attribute [local irreducible] wt sumW keptL flN addX stAt oneFl snI snF dAt xsE rgM decM xs0 ss0 dStep fG fV addT decR decT
set_option maxRecDepth 20000 in
theorem dec_all_r (f q : Bool) (b : List UInt8) (xs : List Fl) (s : Nat) (m : Int) (hb : b.length ≤ 50000) (hx : xs.length ≤ 30000) (hS : sumW xs ≤ m) (hm0 : 0 ≤ m) (hm1 : m ≤ 2147483647) (hbb : ∀ f ∈ xs, f.n.size ≤ 1000000 ∧ f.v.size ≤ 1000000) (Q : DQ) (E : Int) (htot : decM b.length b ⟨xs0, ss0, ⟨xs, 0, m⟩⟩ = (Q, E)) : AEq Tryd.prog 25 [.ptr 0 0, .sl f q (b.map byteA)] [.box [.ptr 1 0], .box [.row 2 s, i64 (sumW xs), i64 m], .row s 67 3 (xs.map flA)] (decR Q E) (decT s xs m Q E) := by
  have hx0 := xs0_len
  have hs0 := ss0_len
  refine acall_body Tryd.func25 rfl Tryd.ntmps25 (by simp) (fun hsc => ?_); simp only [Lf.enter, Nat.reduceAdd]; clear hsc
  have hU := True.intro
  repeat' (first | (guard_target =~ PWp _ _ _ _ _ _ _; first | (refine pwp_seq_k (fun K hK => ?_)) | (refine pwp_block ?_) | (refine pwp_rg_then ?_) | (refine pwp_skip ?_) | ((refine pwp_cond_d (fun hcd => ?_) (fun hcd => ?_)) <;> (try simp only [hcP] at hcd) <;> (try exact cdT))) | (guard_target =~ rg _ _ _ _ _ _ _; first | (guard_target =~ rg _ _ _ [] _ _ _; first | (refine rg_end ?_)) | (refine rg_a rfl (h := ?_)) | (refine rg_v rfl (h := ?_)) | (refine rg_s rfl ?_)) | (guard_target =~ SOp _ _ _ _ _ _; first | (guard_target =~ SOp _ _ ⟨_, .build _ _, _, _, _, none⟩ _ _ _; first | (refine n_build rfl (by first | exact bd25 | exact bd27 | exact bd55 | exact bd67 | exact bd71 | exact bd110 | exact bd112 | fail) (hK := ?_))) | (guard_target =~ SOp _ _ ⟨_, .box _ _, _, _, _, none⟩ _ _ _; first | (refine n_box rfl (hK := ?_))) | (guard_target =~ SOp _ _ ⟨_, .alloc _, _, _, _, none⟩ _ _ _; first | (refine n_alloc rfl (by first | exact zv3 | exact zv4 | exact zv5 | exact zv9 | exact zv22 | exact zv25 | exact zv27 | exact zv28 | exact zv46 | exact zv50 | exact zv53 | exact zv55 | exact zv67 | exact zv69 | exact zv71 | exact zv107 | exact zv110 | exact zv112 | fail) (hK := ?_))) | (guard_target =~ SOp _ _ ⟨_, .call ⟨.value (.func 56), _, _⟩, _, _, _, none⟩ _ _ _; first | (refine n_call (f := 56) rfl Tryd.call56 (h := AEq.sub' [_, _] (hc := t_copy _ _ _ _ (by omega)) (hq := ?_))))) | (refine hK _ _ ?_; clear hK K))
  refine pwp_rowc 6 0 67 3 (by decide) rfl rfl rfl ?_
  refine pwp_rowc 6 1 3 1 (by decide) rfl rfl rfl ?_
  refine pwp_loop_k [1, 5, 7, 8, 9, 30, 31, 32, 33, 34, 35, 36, 37, 38, 39, 40, 41, 42, 43, 44, 45, 46, 47, 48, 49, 50, 51, 52, 53, 54, 55, 56, 57, 58, 59] (fun w : DW => [(1, .sl false q (w.b.map byteA))]) (fun w => [.box [.ptr 1 0], .box [.row 2 s, i64 (sumW xs), i64 m], .row s 67 3 (xs.map flA), .box [.sl true false [], .sl true false []], .box [.row 5 w.q.t.s, i64 (sumW w.q.t.xs), i64 w.q.t.m], .row w.q.t.s 67 3 (w.q.t.xs.map flA), .box [.row 7 w.a, .row 8 w.c, .ptr 4 0], .row w.a 67 3 (w.q.F.map flA), .row w.c 3 1 (w.q.S.map intA)]) (fun w => DOk w ∧ decM w.n w.b w.q = (Q, E)) (fun w => w.b.length) ⟨b, b.length, 0, 0, ⟨xs0, ss0, ⟨xs, 0, m⟩⟩⟩ ⟨⟨Nat.le_refl _, hb, by dsimp only; omega, hS, hm0, hm1, hbb, by dsimp only; omega, by dsimp only; omega⟩, htot⟩ ?_ (by dsimp only; rw [xs0_map, ss0_map]; rfl) ?_
  · dsimp only
    (refine ⟨⟨_, sT, ?_⟩, trivial⟩ <;> (try (first | exact aleT)))
  · rintro ⟨b, n, a, c, ⟨F, S, ⟨xt, st, mt⟩⟩⟩ ⟨⟨hbn, hbN, hxN, hSt, hmt0, hmt1, hbt, hFN, hSN⟩, htt⟩
    dsimp only at hbn hbN hxN hSt hmt0 hmt1 hbt hFN hSN htt ⊢
    simp only [mask, List.map_cons, List.map_nil, List.cons_append, List.nil_append]
    by_cases hlt : b.length = 0
    · rw [decM_nil hlt] at htt
      obtain ⟨rfl, rfl⟩ : (⟨F, S, ⟨xt, st, mt⟩⟩ : DQ) = Q ∧ 0 = E := by simpa only [Prod.mk.injEq] using htt
      try dsimp only
      repeat' (first | (guard_target =~ PWp _ _ _ _ _ _ _; first | (refine pwp_seq_k (fun K hK => ?_)) | (refine pwp_rg_then ?_) | (refine pwp_ret ?_) | (refine pwp_exit ?_) | ((refine pwp_cond_d (fun hcd => ?_) (fun hcd => ?_)) <;> (try simp only [hcP] at hcd) <;> (try exact cdT))) | (guard_target =~ rg _ _ _ _ _ _ _; first | (guard_target =~ rg _ _ _ [] _ _ _; first | (refine rg_end ?_)) | (refine rg_a rfl (h := ?_)) | (refine rg_v rfl (h := ?_)) | (refine rg_n rfl ?_)) | (guard_target =~ SOp _ _ _ _ _ _; first | (guard_target =~ SOp _ _ ⟨_, .store _ _ _, _, _, _, none⟩ _ _ _; first | (refine n_store rfl (hK := ?_)))) | (guard_target =~ (_ ∨ _) ∧ _; first | (rw [decR_ok, decT_ok]) | ((refine end_q [0, 1, 2, 4, 5] (by first | exact .inr rfl | exact .inl rfl | fail) (by rfl) (by rw [Tryd.results25]; exact Lf.resM2 (by (try simp (disch := omega) only [Lf.resOne, go_sem, seval, ↓reduceIte, hU]); rfl) (by (try simp (disch := omega) only [Lf.resOne, go_sem, seval, ↓reduceIte, hU]); rfl)) sT sT (ale_2 ?_ ?_) ?_) <;> (try (first | exact aleT | exact stq (by with_reducible rfl) | exact stq (by rfl) | exact stq (by simp (disch := omega) only [go_sem, seval, ↓reduceIte, hU]))))) | (refine hK _ _ ?_; clear hK K) | (apply_assumption (exfalso := false) (symm := false)))
    obtain ⟨n', rfl⟩ : ∃ j, n = j + 1 := ⟨n - 1, by omega⟩
    have hrr := rg_right b
    have hrl := rg_len b
    obtain ⟨K, I, NM, NS, VL, VS, SZ, M, e1, hR⟩ : ∃ K I NM NS VL VS SZ M e, rgM b = ⟨K, I, NM, NS, VL, VS, SZ, M, e⟩ := ⟨_, _, _, _, _, _, _, _, _, rfl⟩
    by_cases he0 : e1 ≠ 0
    · have hee : (rgM b).e ≠ 0 := by rw [hR]; exact he0
      rw [decM_e hlt hee, hR] at htt
      obtain ⟨rfl, rfl⟩ : (⟨F, S, ⟨xt, st, mt⟩⟩ : DQ) = Q ∧ e1 = E := by simpa only [Prod.mk.injEq] using htt
      have hU := @hR
      repeat' (first | (guard_target =~ PWp _ _ _ _ _ _ _; first | (refine pwp_seq_k (fun K hK => ?_)) | (refine pwp_block ?_) | (refine pwp_rg_then ?_) | (refine pwp_ret ?_) | (refine pwp_skip ?_) | ((refine pwp_cond_d (fun hcd => ?_) (fun hcd => ?_)) <;> (try simp only [hcP] at hcd) <;> (try exact cdT))) | (guard_target =~ rg _ _ _ _ _ _ _; first | (guard_target =~ rg _ _ _ [] _ _ _; first | (refine rg_end ?_)) | (refine rg_a rfl (h := ?_)) | (refine rg_x rfl (hy := rfl) (h := ?_)) | (refine rg_v rfl (h := ?_)) | (refine rg_s rfl ?_) | (refine rg_n rfl ?_)) | (guard_target =~ SOp _ _ _ _ _ _; first | (guard_target =~ SOp _ _ ⟨_, .store _ _ _, _, _, _, none⟩ _ _ _; first | (refine n_store rfl (hK := ?_))) | (guard_target =~ SOp _ _ ⟨_, .build _ _, _, _, _, none⟩ _ _ _; first | (refine n_build rfl (by first | exact bd25 | exact bd27 | exact bd55 | exact bd67 | exact bd71 | exact bd110 | exact bd112 | fail) (hK := ?_))) | (guard_target =~ SOp _ _ ⟨_, .alloc _, _, _, _, none⟩ _ _ _; first | (refine n_alloc rfl (by first | exact zv3 | exact zv4 | exact zv5 | exact zv9 | exact zv22 | exact zv25 | exact zv27 | exact zv28 | exact zv46 | exact zv50 | exact zv53 | exact zv55 | exact zv67 | exact zv69 | exact zv71 | exact zv107 | exact zv110 | exact zv112 | fail) (hK := ?_))) | (guard_target =~ SOp _ _ ⟨_, .call ⟨.value (.func 13), _, _⟩, _, _, _, none⟩ _ _ _; first | (refine n_call (f := 13) rfl Tryd.call13 (h := AEq.pure' agT (pget22 _ _ _ (by omega)) (hq := ?_))))) | (guard_target =~ (_ ∨ _) ∧ _; first | (rw [decR_no he0, decT_no he0]) | ((refine end_q [0, 1, 2] (by first | exact .inr rfl | exact .inl rfl | fail) (by rfl) (by rw [Tryd.results25]; exact Lf.resM2 (by (try simp (disch := omega) only [Lf.resOne, go_sem, seval, ↓reduceIte, hU]); rfl) (by (try simp (disch := omega) only [Lf.resOne, go_sem, seval, ↓reduceIte, hU]); rfl)) sT sT (ale_2 ?_ ?_) ?_) <;> (try (first | exact aleT | exact stq (by with_reducible rfl) | exact stq (by rfl) | exact stq (by simp (disch := omega) only [go_sem, seval, ↓reduceIte, hU]))))) | (refine hK _ _ ?_; clear hK K))
    obtain rfl : e1 = 0 := by omega
    have he : (rgM b).e = 0 := by rw [hR]
    rcases hrr with ⟨h, _⟩ | ⟨_, hP, hM0, hM1⟩
    · exact absurd he h
    rw [hR] at hP hM0 hM1 hrl
    dsimp only at hP hM0 hM1 hrl
    obtain ⟨a1, rfl⟩ : ∃ j : Nat, M = j := ⟨M.toNat, by omega⟩
    have hM : (rgM b).n = (a1 : Int) := by rw [hR]
    have hdl : (b.drop a1).length = b.length - a1 := List.length_drop
    have hnz := asz NM
    have hvz := asz VL
    have hNMs : (⟨NM.toArray⟩ : ByteArray).size ≤ 1000000 := by omega
    have hVLs : (⟨VL.toArray⟩ : ByteArray).size ≤ 1000000 := by omega
    have hKb : 1 ≤ K ∧ K ≤ 5 := hP.1
    have hIb : 0 ≤ I ∧ I ≤ 2147483647 := hP.2.1
    have hZb : 0 ≤ SZ ∧ SZ ≤ 2147483647 := hP.2.2.1
    by_cases h5 : K = 5
    · subst h5
      by_cases hF0 : 0 < F.length
      · have hs := dStep_upd (Fs := F) (S := S) (t := ⟨xt, st, mt⟩) (r := rgM b) (by rw [hR]) hF0
        rw [decM_s hlt he hs (by decide)] at htt
        have h13 : (13 : Int) ≠ 0 := by decide
        obtain ⟨rfl, rfl⟩ : (⟨F, S, ⟨xt, st, mt⟩⟩ : DQ) = Q ∧ 13 = E := by simpa only [Prod.mk.injEq] using htt
        have hU := @hR
        repeat' (first | (guard_target =~ PWp _ _ _ _ _ _ _; first | (refine pwp_seq_k (fun K hK => ?_)) | (refine pwp_block ?_) | (refine pwp_rg_then ?_) | (refine pwp_rg ?_) | (refine pwp_ret ?_) | (refine pwp_skip ?_) | ((refine pwp_cond_d (fun hcd => ?_) (fun hcd => ?_)) <;> (try simp only [hcP] at hcd) <;> (try exact cdT))) | (guard_target =~ rg _ _ _ _ _ _ _; first | (guard_target =~ rg _ _ _ [] _ _ _; first | (refine rg_end ?_)) | (refine rg_a rfl (h := ?_)) | (refine rg_x rfl (hy := rfl) (h := ?_)) | (refine rg_v rfl (h := ?_)) | (refine rg_s rfl ?_) | (refine rg_n rfl ?_)) | (guard_target =~ SOp _ _ _ _ _ _; first | (guard_target =~ SOp _ _ ⟨_, .store _ _ _, _, _, _, none⟩ _ _ _; first | (refine n_store rfl (hK := ?_))) | (guard_target =~ SOp _ _ ⟨_, .build _ _, _, _, _, none⟩ _ _ _; first | (refine n_build rfl (by first | exact bd25 | exact bd27 | exact bd55 | exact bd67 | exact bd71 | exact bd110 | exact bd112 | fail) (hK := ?_))) | (guard_target =~ SOp _ _ ⟨_, .alloc _, _, _, _, none⟩ _ _ _; first | (refine n_alloc rfl (by first | exact zv3 | exact zv4 | exact zv5 | exact zv9 | exact zv22 | exact zv25 | exact zv27 | exact zv28 | exact zv46 | exact zv50 | exact zv53 | exact zv55 | exact zv67 | exact zv69 | exact zv71 | exact zv107 | exact zv110 | exact zv112 | fail) (hK := ?_))) | (guard_target =~ SOp _ _ ⟨_, .call ⟨.value (.func 13), _, _⟩, _, _, _, none⟩ _ _ _; first | (refine n_call (f := 13) rfl Tryd.call13 (h := AEq.pure' agT (pget22 _ _ _ aoT) (hq := ?_)))) | (guard_target =~ SOp _ _ ⟨_, .call ⟨.value (.func 57), _, _⟩, _, _, _, none⟩ _ _ _; first | (refine n_call (f := 57) rfl Tryd.call57 (h := AEq.sub' [_, _, _, _, _] (hc := xres_no _ _ _ _ _ _ _ _ aoT aoT) (hq := ?_))))) | (guard_target =~ (_ ∨ _) ∧ _; first | (rw [decR_no h13, decT_no h13]) | ((refine end_q [0, 1, 2] (by first | exact .inr rfl | exact .inl rfl | fail) (by rfl) (by rw [Tryd.results25]; exact Lf.resM2 (by (try simp (disch := omega) only [Lf.resOne, go_sem, seval, ↓reduceIte, hU]); rfl) (by (try simp (disch := omega) only [Lf.resOne, go_sem, seval, ↓reduceIte, hU]); rfl)) sT sT (ale_2 ?_ ?_) ?_) <;> (try (first | exact aleT | exact stq (by with_reducible rfl) | exact stq (by rfl) | exact stq (by simp (disch := omega) only [go_sem, seval, ↓reduceIte, hU]))))) | (refine hK _ _ ?_; clear hK K))
      have hs := dStep_res (Fs := F) (S := S) (t := ⟨xt, st, mt⟩) (r := rgM b) (by rw [hR]) hF0
      rw [hR] at hs
      dsimp only at hs
      have hkl := keptL_len SZ xt
      have hks := keptL_sum SZ hZb.1 xt
      have hsl := snI_len S SZ
      have hF00 : F.length = 0 := by omega
      have hap := (snI_map S SZ).symm
      have hSt2 : sumW xt ≤ 2147483647 := by omega
      have hs' : dStep ⟨F, S, ⟨xt, st, mt⟩⟩ (rgM b) = (⟨F, snI S SZ, ⟨keptL xt SZ, st + 1, SZ⟩⟩, 0) := by rw [hR]; exact hs
      have hU := @hR
      repeat' (first | (guard_target =~ PWp _ _ _ _ _ _ _; first | (refine pwp_seq_k (fun K hK => ?_)) | (refine pwp_block ?_) | (refine pwp_rg_then ?_) | (refine pwp_rg ?_) | (refine pwp_skip ?_) | ((refine pwp_cond_d (fun hcd => ?_) (fun hcd => ?_)) <;> (try simp only [hcP] at hcd) <;> (try exact cdT))) | (guard_target =~ rg _ _ _ _ _ _ _; first | (guard_target =~ rg _ _ _ [] _ _ _; first | (refine rg_end ?_)) | (refine rg_a rfl (h := ?_)) | (refine rg_x rfl (hy := rfl) (h := ?_)) | (refine rg_v rfl (h := ?_)) | (refine rg_s rfl ?_) | (refine rg_n rfl ?_)) | (guard_target =~ SOp _ _ _ _ _ _; first | (guard_target =~ SOp _ _ ⟨_, .store _ _ _, _, _, _, none⟩ _ _ _; first | (refine n_store rfl (hK := ?_))) | (guard_target =~ SOp _ _ ⟨_, .alloc _, _, _, _, none⟩ _ _ _; first | (refine n_alloc rfl (by first | exact zv3 | exact zv4 | exact zv5 | exact zv9 | exact zv22 | exact zv25 | exact zv27 | exact zv28 | exact zv46 | exact zv50 | exact zv53 | exact zv55 | exact zv67 | exact zv69 | exact zv71 | exact zv107 | exact zv110 | exact zv112 | fail) (hK := ?_))) | (guard_target =~ SOp _ _ ⟨_, .slice _ _ _ _ _, _, _, _, none⟩ _ _ _; first | (refine n_slice rfl (hg := (fun _ => (by simp only [go_sem, seval, ↓reduceIte, hU] <;> rfl))) (hK := ?_))) | (guard_target =~ SOp _ _ ⟨_, .call ⟨.value (.func 13), _, _⟩, _, _, _, none⟩ _ _ _; first | (refine n_call (f := 13) rfl Tryd.call13 (h := AEq.pure' agT (pget22 _ _ _ aoT) (hq := ?_)))) | (guard_target =~ SOp _ _ ⟨_, .call ⟨.value (.func 57), _, _⟩, _, _, _, none⟩ _ _ _; first | (refine n_call (f := 57) rfl Tryd.call57 (h := AEq.sub' [_, _, _, _, _] (hc := xres_ok _ _ _ _ _ _ _ _ aoT aoT aoT aoT aoT aoT aoT aoT aoT aoT) (hq := ?_))))) | (refine hK _ _ ?_; clear hK K) | (dsimp only [Lf.thenQ, Lf.blockQ]))
      refine ⟨⟨b.drop a1, n', a, c + 1, ⟨F, snI S SZ, ⟨keptL xt SZ, st + 1, SZ⟩⟩⟩, [0, 1, 2, 3, 4, 5, 6, 7, 8], ⟨⟨by dsimp only; omega, by dsimp only; omega, by dsimp only; omega, hks, hZb.1, hZb.2, fun f hf => hbt f (keptL_mem _ _ f hf), by dsimp only; omega, by dsimp only; omega⟩, ?_⟩, ?_, rfl, ?_, (by repeat' (first | exact agr_refl | refine agr_cons (by rfl) ?_)), ?_⟩
      · (rw [← htt]; exact (decM_r hlt he hM hs').symm)
      · dsimp only; omega
      · dsimp only
        have hU := True.intro
        (refine ⟨⟨_, sT, ?_⟩, trivial⟩ <;> (try (first | exact aleT)))
      · dsimp only
        first | rfl | (simp (disch := omega) only [go_sem, seval, ↓reduceIte]; done) | (simp (disch := omega) only [go_sem, seval, ↓reduceIte]; rfl) | trace_state
    have hSt2 : sumW xt ≤ 2147483647 := by omega
    have hxt9 : xt.length ≤ 90000 := by omega
    cases hg : fG xt (rgM b) with
    | none =>
      have hs := dStep_no (Fs := F) (S := S) (t := ⟨xt, st, mt⟩) (r := rgM b) (by rw [hR]; exact h5) hg
      rw [decM_s hlt he hs (by decide)] at htt
      by_cases hI0 : I = 0
      · rw [fG_0 (by rw [hR]; exact hI0)] at hg; exact absurd hg (by simp)
      rw [fG_i (by rw [hR]; exact hI0), hR] at hg
      dsimp only at hg
      have h12 : (12 : Int) ≠ 0 := by decide
      obtain ⟨rfl, rfl⟩ : (⟨F, S, ⟨xt, st, mt⟩⟩ : DQ) = Q ∧ 12 = E := by simpa only [Prod.mk.injEq] using htt
      have hU := @hR
      repeat' (first | (guard_target =~ PWp _ _ _ _ _ _ _; first | (refine pwp_seq_k (fun K hK => ?_)) | (refine pwp_block ?_) | (refine pwp_rg_then ?_) | (refine pwp_rg ?_) | (refine pwp_ret ?_) | (refine pwp_skip ?_) | ((refine pwp_cond_d (fun hcd => ?_) (fun hcd => ?_)) <;> (try simp only [hcP] at hcd) <;> (try exact cdT))) | (guard_target =~ rg _ _ _ _ _ _ _; first | (guard_target =~ rg _ _ _ [] _ _ _; first | (refine rg_end ?_)) | (refine rg_a rfl (h := ?_)) | (refine rg_x rfl (hy := rfl) (h := ?_)) | (refine rg_v rfl (h := ?_)) | (refine rg_s rfl ?_) | (refine rg_n rfl ?_)) | (guard_target =~ SOp _ _ _ _ _ _; first | (guard_target =~ SOp _ _ ⟨_, .store _ _ _, _, _, _, none⟩ _ _ _; first | (refine n_store rfl (hK := ?_))) | (guard_target =~ SOp _ _ ⟨_, .build _ _, _, _, _, none⟩ _ _ _; first | (refine n_build rfl (by first | exact bd25 | exact bd27 | exact bd55 | exact bd67 | exact bd71 | exact bd110 | exact bd112 | fail) (hK := ?_))) | (guard_target =~ SOp _ _ ⟨_, .alloc _, _, _, _, none⟩ _ _ _; first | (refine n_alloc rfl (by first | exact zv3 | exact zv4 | exact zv5 | exact zv9 | exact zv22 | exact zv25 | exact zv27 | exact zv28 | exact zv46 | exact zv50 | exact zv53 | exact zv55 | exact zv67 | exact zv69 | exact zv71 | exact zv107 | exact zv110 | exact zv112 | fail) (hK := ?_))) | (guard_target =~ SOp _ _ ⟨_, .call ⟨.value (.func 13), _, _⟩, _, _, _, none⟩ _ _ _; first | (refine n_call (f := 13) rfl Tryd.call13 (h := AEq.pure' agT (pget22 _ _ _ aoT) (hq := ?_)))) | (guard_target =~ SOp _ _ ⟨_, .call ⟨.value (.func 58), _, _⟩, _, _, _, none⟩ _ _ _; first | (refine n_call (f := 58) rfl Tryd.call58 (h := AEq.sub' [_, _, _, _, _] (hc := xf_no _ _ _ _ _ _ _ _ _ _ _ _ _ _ aoT aoT aoT aoT) (hq := ?_))))) | (guard_target =~ (_ ∨ _) ∧ _; first | (rw [decR_no h12, decT_no h12]) | ((refine end_q [0, 1, 2] (by first | exact .inr rfl | exact .inl rfl | fail) (by rfl) (by rw [Tryd.results25]; exact Lf.resM2 (by (try simp (disch := omega) only [Lf.resOne, go_sem, seval, ↓reduceIte, hU]); rfl) (by (try simp (disch := omega) only [Lf.resOne, go_sem, seval, ↓reduceIte, hU]); rfl)) sT sT (ale_2 ?_ ?_) ?_) <;> (try (first | exact aleT | exact stq (by with_reducible rfl) | exact stq (by rfl) | exact stq (by simp (disch := omega) only [go_sem, seval, ↓reduceIte, hU]))))) | (refine hK _ _ ?_; clear hK K))
    | some g =>
      have hbase : (0 < I ∧ dAt xt I = some g) ∨ (I = 0 ∧ g = ⟨⟨NM.toArray⟩, ⟨#[]⟩, false⟩) := by
        by_cases hI0 : I = 0
        · rw [fG_0 (by rw [hR]; exact hI0), hR] at hg
          exact .inr ⟨hI0, (Option.some.inj hg).symm⟩
        · rw [fG_i (by rw [hR]; exact hI0), hR] at hg
          exact .inl ⟨by omega, hg⟩
      have hgs : g.n.size ≤ 1000000 ∧ g.v.size ≤ 1000000 := by
        rcases hbase with ⟨_, h⟩ | ⟨_, rfl⟩
        · exact dAt_size hbt h
        · exact ⟨hNMs, by show (0 : Nat) ≤ _; omega⟩
      obtain ⟨hgs1, hgs2⟩ := hgs
      by_cases hk : K = 1
      · subst hk
        have hfv : fV (rgM b) g = g := by rw [hR]; unfold fV; rfl
        have hs := dStep_f (Fs := F) (S := S) (t := ⟨xt, st, mt⟩) (r := rgM b) (by rw [hR]; show (1 : Int) ≠ 5; decide) (by rw [hR]; show (1 : Int) ≠ 2; decide) hg
        rw [hfv] at hs
        have hsn := snF_len F g
        have hU := @hR
        repeat' (first | (guard_target =~ PWp _ _ _ _ _ _ _; first | (refine pwp_seq_k (fun K hK => ?_)) | (refine pwp_block ?_) | (refine pwp_rg_then ?_) | (refine pwp_rg ?_) | (refine pwp_skip ?_) | ((refine pwp_cond_d (fun hcd => ?_) (fun hcd => ?_)) <;> (try simp only [hcP] at hcd) <;> (try exact cdT))) | (guard_target =~ rg _ _ _ _ _ _ _; first | (guard_target =~ rg _ _ _ [] _ _ _; first | (refine rg_end ?_)) | (refine rg_a rfl (h := ?_)) | (refine rg_x rfl (hy := rfl) (h := ?_)) | (refine rg_v rfl (h := ?_)) | (refine rg_s rfl ?_) | (refine rg_n rfl ?_)) | (guard_target =~ SOp _ _ _ _ _ _; first | (guard_target =~ SOp _ _ ⟨_, .store _ _ _, _, _, _, none⟩ _ _ _; first | (refine n_store rfl (hK := ?_))) | (guard_target =~ SOp _ _ ⟨_, .alloc _, _, _, _, none⟩ _ _ _; first | (refine n_alloc rfl (by first | exact zv3 | exact zv4 | exact zv5 | exact zv9 | exact zv22 | exact zv25 | exact zv27 | exact zv28 | exact zv46 | exact zv50 | exact zv53 | exact zv55 | exact zv67 | exact zv69 | exact zv71 | exact zv107 | exact zv110 | exact zv112 | fail) (hK := ?_))) | (guard_target =~ SOp _ _ ⟨_, .slice _ _ _ _ _, _, _, _, none⟩ _ _ _; first | (refine n_slice rfl (hg := (fun _ => (by simp only [go_sem, seval, ↓reduceIte, hU] <;> rfl))) (hK := ?_))) | (guard_target =~ SOp _ _ ⟨_, .call ⟨.value (.func 13), _, _⟩, _, _, _, none⟩ _ _ _; first | (refine n_call (f := 13) rfl Tryd.call13 (h := AEq.pure' agT (pget22 _ _ _ aoT) (hq := ?_)))) | (guard_target =~ SOp _ _ ⟨_, .call ⟨.value (.func 58), _, _⟩, _, _, _, none⟩ _ _ _; first | (refine n_call (f := 58) rfl Tryd.call58 (h := AEq.sub' [_, _, _, _, _] (hc := xf_1 _ _ _ _ _ _ _ _ _ _ _ _ _ aoT aoT aoT aoT aoT aoT aoT _ aoT aoT aoT aoT aoT aoT) (hq := ?_))))) | (refine hK _ _ ?_; clear hK K) | (dsimp only [Lf.thenQ, Lf.blockQ]))
        refine ⟨⟨b.drop a1, n', a + 1, c, ⟨snF F g, S, ⟨xt, st, mt⟩⟩⟩, [0, 1, 2, 3, 4, 5, 6, 7, 8], ⟨⟨by dsimp only; omega, by dsimp only; omega, by dsimp only; omega, hSt, hmt0, hmt1, hbt, by dsimp only; omega, by dsimp only; omega⟩, ?_⟩, ?_, rfl, ?_, (by repeat' (first | exact agr_refl | refine agr_cons (by rfl) ?_)), ?_⟩
        · (rw [← htt]; exact (decM_r hlt he hM hs).symm)
        · dsimp only; omega
        · dsimp only
          have hU := True.intro
          (refine ⟨⟨_, sT, ?_⟩, trivial⟩ <;> (try (first | exact aleT)))
        · dsimp only
          first | rfl | (simp (disch := omega) only [go_sem, seval, ↓reduceIte]; done) | (simp (disch := omega) only [go_sem, seval, ↓reduceIte]; rfl) | trace_state
      by_cases hk : K = 3
      · subst hk
        have hfv : fV (rgM b) g = ⟨g.n, ⟨VL.toArray⟩, false⟩ := by rw [hR]; unfold fV; rfl
        have hs := dStep_f (Fs := F) (S := S) (t := ⟨xt, st, mt⟩) (r := rgM b) (by rw [hR]; show (3 : Int) ≠ 5; decide) (by rw [hR]; show (3 : Int) ≠ 2; decide) hg
        rw [hfv] at hs
        have hsn := snF_len F ⟨g.n, ⟨VL.toArray⟩, false⟩
        have hU := @hR
        repeat' (first | (guard_target =~ PWp _ _ _ _ _ _ _; first | (refine pwp_seq_k (fun K hK => ?_)) | (refine pwp_block ?_) | (refine pwp_rg_then ?_) | (refine pwp_rg ?_) | (refine pwp_skip ?_) | ((refine pwp_cond_d (fun hcd => ?_) (fun hcd => ?_)) <;> (try simp only [hcP] at hcd) <;> (try exact cdT))) | (guard_target =~ rg _ _ _ _ _ _ _; first | (guard_target =~ rg _ _ _ [] _ _ _; first | (refine rg_end ?_)) | (refine rg_a rfl (h := ?_)) | (refine rg_x rfl (hy := rfl) (h := ?_)) | (refine rg_v rfl (h := ?_)) | (refine rg_s rfl ?_) | (refine rg_n rfl ?_)) | (guard_target =~ SOp _ _ _ _ _ _; first | (guard_target =~ SOp _ _ ⟨_, .store _ _ _, _, _, _, none⟩ _ _ _; first | (refine n_store rfl (hK := ?_))) | (guard_target =~ SOp _ _ ⟨_, .alloc _, _, _, _, none⟩ _ _ _; first | (refine n_alloc rfl (by first | exact zv3 | exact zv4 | exact zv5 | exact zv9 | exact zv22 | exact zv25 | exact zv27 | exact zv28 | exact zv46 | exact zv50 | exact zv53 | exact zv55 | exact zv67 | exact zv69 | exact zv71 | exact zv107 | exact zv110 | exact zv112 | fail) (hK := ?_))) | (guard_target =~ SOp _ _ ⟨_, .slice _ _ _ _ _, _, _, _, none⟩ _ _ _; first | (refine n_slice rfl (hg := (fun _ => (by simp only [go_sem, seval, ↓reduceIte, hU] <;> rfl))) (hK := ?_))) | (guard_target =~ SOp _ _ ⟨_, .call ⟨.value (.func 13), _, _⟩, _, _, _, none⟩ _ _ _; first | (refine n_call (f := 13) rfl Tryd.call13 (h := AEq.pure' agT (pget22 _ _ _ aoT) (hq := ?_)))) | (guard_target =~ SOp _ _ ⟨_, .call ⟨.value (.func 58), _, _⟩, _, _, _, none⟩ _ _ _; first | (refine n_call (f := 58) rfl Tryd.call58 (h := AEq.sub' [_, _, _, _, _] (hc := xf_3 _ _ _ _ _ _ _ _ _ _ _ _ _ aoT aoT aoT aoT aoT aoT aoT _ aoT aoT aoT aoT aoT aoT) (hq := ?_))))) | (refine hK _ _ ?_; clear hK K) | (dsimp only [Lf.thenQ, Lf.blockQ]))
        refine ⟨⟨b.drop a1, n', a + 1, c, ⟨snF F ⟨g.n, ⟨VL.toArray⟩, false⟩, S, ⟨xt, st, mt⟩⟩⟩, [0, 1, 2, 3, 4, 5, 6, 7, 8], ⟨⟨by dsimp only; omega, by dsimp only; omega, by dsimp only; omega, hSt, hmt0, hmt1, hbt, by dsimp only; omega, by dsimp only; omega⟩, ?_⟩, ?_, rfl, ?_, (by repeat' (first | exact agr_refl | refine agr_cons (by rfl) ?_)), ?_⟩
        · (rw [← htt]; exact (decM_r hlt he hM hs).symm)
        · dsimp only; omega
        · dsimp only
          have hU := True.intro
          (refine ⟨⟨_, sT, ?_⟩, trivial⟩ <;> (try (first | exact aleT)))
        · dsimp only
          first | rfl | (simp (disch := omega) only [go_sem, seval, ↓reduceIte]; done) | (simp (disch := omega) only [go_sem, seval, ↓reduceIte]; rfl) | trace_state
      by_cases hk : K = 4
      · subst hk
        have hfv : fV (rgM b) g = ⟨g.n, ⟨VL.toArray⟩, true⟩ := by rw [hR]; unfold fV; rfl
        have hs := dStep_f (Fs := F) (S := S) (t := ⟨xt, st, mt⟩) (r := rgM b) (by rw [hR]; show (4 : Int) ≠ 5; decide) (by rw [hR]; show (4 : Int) ≠ 2; decide) hg
        rw [hfv] at hs
        have hsn := snF_len F ⟨g.n, ⟨VL.toArray⟩, true⟩
        have hU := @hR
        repeat' (first | (guard_target =~ PWp _ _ _ _ _ _ _; first | (refine pwp_seq_k (fun K hK => ?_)) | (refine pwp_block ?_) | (refine pwp_rg_then ?_) | (refine pwp_rg ?_) | (refine pwp_skip ?_) | ((refine pwp_cond_d (fun hcd => ?_) (fun hcd => ?_)) <;> (try simp only [hcP] at hcd) <;> (try exact cdT))) | (guard_target =~ rg _ _ _ _ _ _ _; first | (guard_target =~ rg _ _ _ [] _ _ _; first | (refine rg_end ?_)) | (refine rg_a rfl (h := ?_)) | (refine rg_x rfl (hy := rfl) (h := ?_)) | (refine rg_v rfl (h := ?_)) | (refine rg_s rfl ?_) | (refine rg_n rfl ?_)) | (guard_target =~ SOp _ _ _ _ _ _; first | (guard_target =~ SOp _ _ ⟨_, .store _ _ _, _, _, _, none⟩ _ _ _; first | (refine n_store rfl (hK := ?_))) | (guard_target =~ SOp _ _ ⟨_, .alloc _, _, _, _, none⟩ _ _ _; first | (refine n_alloc rfl (by first | exact zv3 | exact zv4 | exact zv5 | exact zv9 | exact zv22 | exact zv25 | exact zv27 | exact zv28 | exact zv46 | exact zv50 | exact zv53 | exact zv55 | exact zv67 | exact zv69 | exact zv71 | exact zv107 | exact zv110 | exact zv112 | fail) (hK := ?_))) | (guard_target =~ SOp _ _ ⟨_, .slice _ _ _ _ _, _, _, _, none⟩ _ _ _; first | (refine n_slice rfl (hg := (fun _ => (by simp only [go_sem, seval, ↓reduceIte, hU] <;> rfl))) (hK := ?_))) | (guard_target =~ SOp _ _ ⟨_, .call ⟨.value (.func 13), _, _⟩, _, _, _, none⟩ _ _ _; first | (refine n_call (f := 13) rfl Tryd.call13 (h := AEq.pure' agT (pget22 _ _ _ aoT) (hq := ?_)))) | (guard_target =~ SOp _ _ ⟨_, .call ⟨.value (.func 58), _, _⟩, _, _, _, none⟩ _ _ _; first | (refine n_call (f := 58) rfl Tryd.call58 (h := AEq.sub' [_, _, _, _, _] (hc := xf_4 _ _ _ _ _ _ _ _ _ _ _ _ _ aoT aoT aoT aoT aoT aoT aoT _ aoT aoT aoT aoT aoT aoT) (hq := ?_))))) | (refine hK _ _ ?_; clear hK K) | (dsimp only [Lf.thenQ, Lf.blockQ]))
        refine ⟨⟨b.drop a1, n', a + 1, c, ⟨snF F ⟨g.n, ⟨VL.toArray⟩, true⟩, S, ⟨xt, st, mt⟩⟩⟩, [0, 1, 2, 3, 4, 5, 6, 7, 8], ⟨⟨by dsimp only; omega, by dsimp only; omega, by dsimp only; omega, hSt, hmt0, hmt1, hbt, by dsimp only; omega, by dsimp only; omega⟩, ?_⟩, ?_, rfl, ?_, (by repeat' (first | exact agr_refl | refine agr_cons (by rfl) ?_)), ?_⟩
        · (rw [← htt]; exact (decM_r hlt he hM hs).symm)
        · dsimp only; omega
        · dsimp only
          have hU := True.intro
          (refine ⟨⟨_, sT, ?_⟩, trivial⟩ <;> (try (first | exact aleT)))
        · dsimp only
          first | rfl | (simp (disch := omega) only [go_sem, seval, ↓reduceIte]; done) | (simp (disch := omega) only [go_sem, seval, ↓reduceIte]; rfl) | trace_state
      obtain rfl : K = 2 := by omega
      have hfv : fV (rgM b) g = ⟨g.n, ⟨VL.toArray⟩, false⟩ := by rw [hR]; unfold fV; rfl
      have hs := dStep_2 (Fs := F) (S := S) (t := ⟨xt, st, mt⟩) (r := rgM b) (by rw [hR]) hg
      rw [hfv] at hs
      have hsn := snF_len F ⟨g.n, ⟨VL.toArray⟩, false⟩
      by_cases hw : wt ⟨g.n, ⟨VL.toArray⟩, false⟩ ≤ mt
      · rw [addT_y hw] at hs
        dsimp only at hs
        have hxl := addX_len xt mt ⟨g.n, ⟨VL.toArray⟩, false⟩
        have hxs := addX_sum (xs := xt) hw
        have hU := @hR
        repeat' (first | (guard_target =~ PWp _ _ _ _ _ _ _; first | (refine pwp_seq_k (fun K hK => ?_)) | (refine pwp_block ?_) | (refine pwp_rg_then ?_) | (refine pwp_rg ?_) | (refine pwp_skip ?_) | ((refine pwp_cond_d (fun hcd => ?_) (fun hcd => ?_)) <;> (try simp only [hcP] at hcd) <;> (try exact cdT))) | (guard_target =~ rg _ _ _ _ _ _ _; first | (guard_target =~ rg _ _ _ [] _ _ _; first | (refine rg_end ?_)) | (refine rg_a rfl (h := ?_)) | (refine rg_x rfl (hy := rfl) (h := ?_)) | (refine rg_v rfl (h := ?_)) | (refine rg_s rfl ?_) | (refine rg_n rfl ?_)) | (guard_target =~ SOp _ _ _ _ _ _; first | (guard_target =~ SOp _ _ ⟨_, .store _ _ _, _, _, _, none⟩ _ _ _; first | (refine n_store rfl (hK := ?_))) | (guard_target =~ SOp _ _ ⟨_, .alloc _, _, _, _, none⟩ _ _ _; first | (refine n_alloc rfl (by first | exact zv3 | exact zv4 | exact zv5 | exact zv9 | exact zv22 | exact zv25 | exact zv27 | exact zv28 | exact zv46 | exact zv50 | exact zv53 | exact zv55 | exact zv67 | exact zv69 | exact zv71 | exact zv107 | exact zv110 | exact zv112 | fail) (hK := ?_))) | (guard_target =~ SOp _ _ ⟨_, .slice _ _ _ _ _, _, _, _, none⟩ _ _ _; first | (refine n_slice rfl (hg := (fun _ => (by simp only [go_sem, seval, ↓reduceIte, hU] <;> rfl))) (hK := ?_))) | (guard_target =~ SOp _ _ ⟨_, .call ⟨.value (.func 13), _, _⟩, _, _, _, none⟩ _ _ _; first | (refine n_call (f := 13) rfl Tryd.call13 (h := AEq.pure' agT (pget22 _ _ _ aoT) (hq := ?_)))) | (guard_target =~ SOp _ _ ⟨_, .call ⟨.value (.func 58), _, _⟩, _, _, _, none⟩ _ _ _; first | (refine n_call (f := 58) rfl Tryd.call58 (h := AEq.sub' [_, _, _, _, _] (hc := xf_2f _ _ _ _ _ _ _ _ _ _ _ _ _ aoT aoT aoT aoT aoT aoT aoT _ aoT aoT aoT aoT aoT aoT aoT) (hq := ?_))))) | (refine hK _ _ ?_; clear hK K) | (dsimp only [Lf.thenQ, Lf.blockQ]))
        refine ⟨⟨b.drop a1, n', a + 1, c, ⟨snF F ⟨g.n, ⟨VL.toArray⟩, false⟩, S, ⟨addX xt mt ⟨g.n, ⟨VL.toArray⟩, false⟩, st + 2, mt⟩⟩⟩, [0, 1, 2, 3, 4, 5, 6, 7, 8], ⟨⟨by dsimp only; omega, by dsimp only; omega, by dsimp only; omega, hxs, hmt0, hmt1, addX_size hbt hgs1 hVLs, by dsimp only; omega, by dsimp only; omega⟩, ?_⟩, ?_, rfl, ?_, (by repeat' (first | exact agr_refl | refine agr_cons (by rfl) ?_)), ?_⟩
        · (rw [← htt]; exact (decM_r hlt he hM hs).symm)
        · dsimp only; omega
        · dsimp only
          have hU := True.intro
          (refine ⟨⟨_, sT, ?_⟩, trivial⟩ <;> (try (first | exact aleT)))
        · dsimp only
          first | rfl | (simp (disch := omega) only [go_sem, seval, ↓reduceIte]; done) | (simp (disch := omega) only [go_sem, seval, ↓reduceIte]; rfl) | trace_state
      · rw [addT_n hw] at hs
        dsimp only at hs
        have hwn : mt < wt ⟨g.n, ⟨VL.toArray⟩, false⟩ := by omega
        have hxl := xsE_len
        have hxs := xsE_sum
        have hU := @hR
        repeat' (first | (guard_target =~ PWp _ _ _ _ _ _ _; first | (refine pwp_seq_k (fun K hK => ?_)) | (refine pwp_block ?_) | (refine pwp_rg_then ?_) | (refine pwp_rg ?_) | (refine pwp_skip ?_) | ((refine pwp_cond_d (fun hcd => ?_) (fun hcd => ?_)) <;> (try simp only [hcP] at hcd) <;> (try exact cdT))) | (guard_target =~ rg _ _ _ _ _ _ _; first | (guard_target =~ rg _ _ _ [] _ _ _; first | (refine rg_end ?_)) | (refine rg_a rfl (h := ?_)) | (refine rg_x rfl (hy := rfl) (h := ?_)) | (refine rg_v rfl (h := ?_)) | (refine rg_s rfl ?_) | (refine rg_n rfl ?_)) | (guard_target =~ SOp _ _ _ _ _ _; first | (guard_target =~ SOp _ _ ⟨_, .store _ _ _, _, _, _, none⟩ _ _ _; first | (refine n_store rfl (hK := ?_))) | (guard_target =~ SOp _ _ ⟨_, .alloc _, _, _, _, none⟩ _ _ _; first | (refine n_alloc rfl (by first | exact zv3 | exact zv4 | exact zv5 | exact zv9 | exact zv22 | exact zv25 | exact zv27 | exact zv28 | exact zv46 | exact zv50 | exact zv53 | exact zv55 | exact zv67 | exact zv69 | exact zv71 | exact zv107 | exact zv110 | exact zv112 | fail) (hK := ?_))) | (guard_target =~ SOp _ _ ⟨_, .slice _ _ _ _ _, _, _, _, none⟩ _ _ _; first | (refine n_slice rfl (hg := (fun _ => (by simp only [go_sem, seval, ↓reduceIte, hU] <;> rfl))) (hK := ?_))) | (guard_target =~ SOp _ _ ⟨_, .call ⟨.value (.func 13), _, _⟩, _, _, _, none⟩ _ _ _; first | (refine n_call (f := 13) rfl Tryd.call13 (h := AEq.pure' agT (pget22 _ _ _ aoT) (hq := ?_)))) | (guard_target =~ SOp _ _ ⟨_, .call ⟨.value (.func 58), _, _⟩, _, _, _, none⟩ _ _ _; first | (refine n_call (f := 58) rfl Tryd.call58 (h := AEq.sub' [_, _, _, _, _] (hc := xf_2n _ _ _ _ _ _ _ _ _ _ _ _ _ aoT aoT aoT aoT aoT aoT aoT _ aoT aoT aoT aoT aoT aoT aoT) (hq := ?_))))) | (refine hK _ _ ?_; clear hK K) | (dsimp only [Lf.thenQ, Lf.blockQ]))
        refine ⟨⟨b.drop a1, n', a + 1, c, ⟨snF F ⟨g.n, ⟨VL.toArray⟩, false⟩, S, ⟨xsE, st + 1, mt⟩⟩⟩, [0, 1, 2, 3, 4, 5, 6, 7, 8], ⟨⟨by dsimp only; omega, by dsimp only; omega, by dsimp only; omega, by dsimp only; omega, hmt0, hmt1, xsE_size, by dsimp only; omega, by dsimp only; omega⟩, ?_⟩, ?_, rfl, ?_, (by repeat' (first | exact agr_refl | refine agr_cons (by rfl) ?_)), ?_⟩
        · (rw [← htt]; exact (decM_r hlt he hM hs).symm)
        · dsimp only; omega
        · dsimp only
          have hU := True.intro
          (refine ⟨⟨_, sT, ?_⟩, trivial⟩ <;> (try (first | exact aleT)))
        · dsimp only
          first | rfl | (simp (disch := omega) only [go_sem, seval, ↓reduceIte]; done) | (simp (disch := omega) only [go_sem, seval, ↓reduceIte]; rfl) | trace_state
theorem dec_ok (f q : Bool) (b : List UInt8) (xs : List Fl) (s : Nat) (m : Int) (hb : b.length ≤ 50000) (hx : xs.length ≤ 30000) (hS : sumW xs ≤ m) (hm0 : 0 ≤ m) (hm1 : m ≤ 2147483647) (hbb : ∀ f ∈ xs, f.n.size ≤ 1000000 ∧ f.v.size ≤ 1000000) (Q : DQ) (htot : decM b.length b ⟨xs0, ss0, ⟨xs, 0, m⟩⟩ = (Q, 0)) : AEq Tryd.prog 25 [.ptr 0 0, .sl f q (b.map byteA)] [.box [.ptr 1 0], .box [.row 2 s, i64 (sumW xs), i64 m], .row s 67 3 (xs.map flA)] (.tu [.ag [.sl false false (Q.F.map flA), .sl false false (Q.S.map intA)], i64 0]) [.box [.ptr 3 0], .box [.row 2 s, i64 (sumW xs), i64 m], .row s 67 3 (xs.map flA), .box [.row 4 Q.t.s, i64 (sumW Q.t.xs), i64 Q.t.m], .row Q.t.s 67 3 (Q.t.xs.map flA)] := by
  have h := dec_all_r f q b xs s m hb hx hS hm0 hm1 hbb Q 0 htot
  rw [decR_ok, decT_ok] at h
  exact h
theorem dec_no (f q : Bool) (b : List UInt8) (xs : List Fl) (s : Nat) (m : Int) (hb : b.length ≤ 50000) (hx : xs.length ≤ 30000) (hS : sumW xs ≤ m) (hm0 : 0 ≤ m) (hm1 : m ≤ 2147483647) (hbb : ∀ f ∈ xs, f.n.size ≤ 1000000 ∧ f.v.size ≤ 1000000) (Q : DQ) (E : Int) (hE : E ≠ 0) (htot : decM b.length b ⟨xs0, ss0, ⟨xs, 0, m⟩⟩ = (Q, E)) : AEq Tryd.prog 25 [.ptr 0 0, .sl f q (b.map byteA)] [.box [.ptr 1 0], .box [.row 2 s, i64 (sumW xs), i64 m], .row s 67 3 (xs.map flA)] (.tu [.ag [.sl true false [], .sl true false []], i64 E]) [.box [.ptr 1 0], .box [.row 2 s, i64 (sumW xs), i64 m], .row s 67 3 (xs.map flA)] := by
  have h := dec_all_r f q b xs s m hb hx hS hm0 hm1 hbb Q E htot
  rw [decR_no hE, decT_no hE] at h
  exact h
end Go.Proofs.YtohbfcmmpaikhaaDoor

set_option linter.unusedVariables false
set_option linter.unusedSimpArgs false
namespace Go.Proofs.YtohbfcmmpaikhaaDoor
open Go Go.Lf Go.Proofs
attribute [local irreducible] Lf.rg Lf.ro Lf.PWp Lf.SOp Lf.ACall Lf.Scoped Lf.dg
set_option maxRecDepth 20000
set_option maxHeartbeats 4000000
end Go.Proofs.YtohbfcmmpaikhaaDoor

set_option linter.unusedVariables false
set_option linter.unusedSimpArgs false
namespace Go.Proofs.YtohbfcmmpaikhaaDoor
open Go Go.Lf Go.Proofs
attribute [local irreducible] Lf.rg Lf.ro Lf.PWp Lf.SOp Lf.ACall Lf.Scoped Lf.dg Lf.dw
set_option maxRecDepth 20000
set_option maxHeartbeats 4000000
@[go_sem] def blA (b : List UInt8) : List AV := [.sl false false (b.map byteA)]
def anyL : List (List UInt8) → Bool
  | [] => false
  | b :: l => if 120 < b.length then true else anyL l
def lgB (l : List (List UInt8)) : Bool := if 20 < l.length then true else anyL l
theorem anyL_no {l : List (List UInt8)} (h : anyL l = false) : ∀ b ∈ l, b.length ≤ 120 := by
  induction l with
  | nil => intro d hd; simp at hd
  | cons x l ih =>
    unfold anyL at h
    split at h
    · cases h
    · rename_i hb
      intro d hd
      rw [List.mem_cons] at hd
      rcases hd with rfl | hd
      · omega
      · exact ih h d hd
theorem lgB_no {l : List (List UInt8)} (h : lgB l = false) : l.length ≤ 20 ∧ ∀ b ∈ l, b.length ≤ 120 := by
  unfold lgB at h
  split at h
  · cases h
  · exact ⟨by omega, anyL_no h⟩
attribute [local irreducible] wt sumW xsE
theorem isame (f g q r : Bool) (l : List Int) (h : l.length ≤ 100000) : AEq Tryd.prog 28 [.sl f q (l.map intA), .sl g r (l.map intA)] [] (bl true) [] := by
  refine acall_body Tryd.func28 rfl Tryd.ntmps28 (by simp) (fun hsc => ?_); simp only [Lf.enter, Nat.reduceAdd]; clear hsc
  have hU := True.intro
  repeat' (first | (guard_target =~ PWp _ _ _ _ _ _ _; first | (refine pwp_seq_k (fun K hK => ?_)) | (refine pwp_block ?_) | (refine pwp_rg_then ?_) | (refine pwp_skip ?_) | ((refine pwp_cond_d (fun hcd => ?_) (fun hcd => ?_)) <;> (try simp only [hcP] at hcd) <;> (try exact cdT))) | (guard_target =~ rg _ _ _ _ _ _ _; first | (guard_target =~ rg _ _ _ [] _ _ _; first | (refine rg_end ?_)) | (refine rg_a rfl (h := ?_)) | (refine rg_v rfl (h := ?_))) | (refine hK _ _ ?_; clear hK K))
  refine pwp_loop_e [4, 5, 11, 12, 13, 14, 15, 16, 17, 18, 19, 20, 21, 22, 23, 24, 25] (fun i : Nat => [(5, i64 i)]) (fun _ => []) (fun i => i ≤ l.length) (fun i => l.length - i) 0 (Nat.zero_le _) ?_ rfl ?_
  · (refine ⟨⟨_, sT, ?_⟩, trivial⟩ <;> (try (first | exact aleT)))
  · rintro i hi
    simp only [mask, List.map_cons, List.map_nil, List.cons_append, List.nil_append]
    by_cases hlt : i < l.length
    · obtain ⟨x, hx⟩ := ex_at hlt
      repeat' (first | (guard_target =~ PWp _ _ _ _ _ _ _; first | (refine pwp_seq_k (fun K hK => ?_)) | (refine pwp_block ?_) | (refine pwp_rg_then ?_) | (refine pwp_draw mixed (by kernel_rfl) ?_) | (refine pwp_skip ?_) | ((refine pwp_cond_d (fun hcd => ?_) (fun hcd => ?_)) <;> (try simp only [hcP] at hcd) <;> (try exact cdT))) | (guard_target =~ rg _ _ _ _ _ _ _; first | (guard_target =~ rg _ _ _ [] _ _ _; first | (refine rg_end ?_)) | (refine rg_a rfl (h := ?_)) | (refine rg_v rfl (h := ?_))) | (guard_target =~ dg _ _ _ _ _ _ _; first | (guard_target =~ dg _ _ _ (⟨_, .move _, _, _, _, none⟩ :: _) _ _ _; first | (refine dg_v rfl (hk := ?_))) | (guard_target =~ dg _ _ _ (⟨_, .binOp _ _ _ _ _, _, _, _, none⟩ :: _) _ _ _; first | (refine dg_v rfl (hk := ?_))) | (guard_target =~ dg _ _ _ (⟨_, .call ⟨.builtin .len, _, _⟩, _, _, _, none⟩ :: _) _ _ _; first | (refine dg_v rfl (hk := ?_))) | (guard_target =~ dg _ _ _ (⟨_, .indexAddr _ _ _, _, _, _, none⟩ :: _) _ _ _; first | (refine dg_c (x := _) (h := ro_s (h := n_index rfl (hK := ro_end ⟨rfl, rfl⟩))) (hk := ?_))) | (guard_target =~ dg _ _ _ (⟨_, .load _ _, _, _, _, none⟩ :: _) _ _ _; first | (refine dg_v rfl (hk := ?_))) | (guard_target =~ dg _ _ _ [] _ _ _; first | (refine dg_nil ?_))) | (refine hK _ _ ?_; clear hK K))
      refine ⟨i + 1, by omega, by omega, ?_, (by repeat' (first | exact agr_refl | refine agr_cons (by rfl) ?_)), (by first | rfl | (simp (disch := omega) only [go_sem, seval, ↓reduceIte, hU]; done) | (simp (disch := omega) only [go_sem, seval, ↓reduceIte, hU]; rfl))⟩
      (refine ⟨⟨_, sT, ?_⟩, trivial⟩ <;> (try (first | exact aleT)))
    · repeat' (first | (guard_target =~ PWp _ _ _ _ _ _ _; first | (refine pwp_seq_k (fun K hK => ?_)) | (refine pwp_rg_then ?_) | (refine pwp_ret ?_) | (refine pwp_exit ?_) | ((refine pwp_cond_d (fun hcd => ?_) (fun hcd => ?_)) <;> (try simp only [hcP] at hcd) <;> (try exact cdT))) | (guard_target =~ rg _ _ _ _ _ _ _; first | (guard_target =~ rg _ _ _ [] _ _ _; first | (refine rg_end ?_)) | (refine rg_a rfl (h := ?_)) | (refine rg_v rfl (h := ?_))) | (guard_target =~ (_ ∨ _) ∧ _; first | ((refine end_d [] (by rw [Tryd.results28, Lf.res1]) (ale_1 ?_) ?_) <;> (try (first | exact aleT | exact stq (by with_reducible rfl) | exact stq (by rfl) | exact stq (by simp (disch := omega) only [go_sem, seval, ↓reduceIte, hU]))))) | (refine hK _ _ ?_; clear hK K) | (apply_assumption (exfalso := false) (symm := false)))
theorem lgB_is (f : Bool) (l : List (List UInt8)) (h : l.length ≤ 9223372036854775807) (hb : ∀ b ∈ l, b.length ≤ 9223372036854775807) : AEq Tryd.prog 21 [.sl f false (l.map blA)] [] (bl (lgB l)) [] := by
  by_cases h30 : 20 < l.length
  · have e : lgB l = true := if_pos h30
    rw [e]
    refine acall_body Tryd.func21 rfl Tryd.ntmps21 (by simp) (fun hsc => ?_); simp only [Lf.enter, Nat.reduceAdd]; clear hsc
    have hU := True.intro
    repeat' (first | (guard_target =~ PWp _ _ _ _ _ _ _; first | (refine pwp_seq_k (fun K hK => ?_)) | (refine pwp_rg_then ?_) | (refine pwp_ret ?_) | ((refine pwp_cond_d (fun hcd => ?_) (fun hcd => ?_)) <;> (try simp only [hcP] at hcd) <;> (try exact cdT))) | (guard_target =~ rg _ _ _ _ _ _ _; first | (guard_target =~ rg _ _ _ [] _ _ _; first | (refine rg_end ?_)) | (refine rg_a rfl (h := ?_)) | (refine rg_v rfl (h := ?_))) | (guard_target =~ (_ ∨ _) ∧ _; first | ((refine end_d [] (by rw [Tryd.results21, Lf.res1]) (ale_1 ?_) ?_) <;> (try (first | exact aleT | exact stq (by with_reducible rfl) | exact stq (by rfl) | exact stq (by simp (disch := omega) only [go_sem, seval, ↓reduceIte, hU]))))) | (refine hK _ _ ?_; clear hK K))
  have e : lgB l = anyL l := if_neg h30
  rw [e]
  refine acall_body Tryd.func21 rfl Tryd.ntmps21 (by simp) (fun hsc => ?_); simp only [Lf.enter, Nat.reduceAdd]; clear hsc
  have hU := True.intro
  repeat' (first | (guard_target =~ PWp _ _ _ _ _ _ _; first | (refine pwp_seq_k (fun K hK => ?_)) | (refine pwp_block ?_) | (refine pwp_rg_then ?_) | (refine pwp_skip ?_) | ((refine pwp_cond_d (fun hcd => ?_) (fun hcd => ?_)) <;> (try simp only [hcP] at hcd) <;> (try exact cdT))) | (guard_target =~ rg _ _ _ _ _ _ _; first | (guard_target =~ rg _ _ _ [] _ _ _; first | (refine rg_end ?_)) | (refine rg_a rfl (h := ?_)) | (refine rg_v rfl (h := ?_))) | (refine hK _ _ ?_; clear hK K))
  refine pwp_loop_e [2, 3, 7, 8, 9, 10, 11, 12, 13, 14, 15, 16, 17, 18] (fun i : Nat => [(3, i64 i)]) (fun _ => []) (fun i => i ≤ l.length ∧ anyL l = anyL (l.drop i)) (fun i => l.length - i) 0 ⟨Nat.zero_le _, rfl⟩ ?_ rfl ?_
  · (refine ⟨⟨_, sT, ?_⟩, trivial⟩ <;> (try (first | exact aleT)))
  · rintro i ⟨hi, hk⟩
    simp only [mask, List.map_cons, List.map_nil, List.cons_append, List.nil_append]
    by_cases hlt : i < l.length
    · obtain ⟨d, hd⟩ := ex_at hlt
      have hdl := hb d (List.mem_of_getElem? hd)
      rw [ddrop_at hd, anyL] at hk
      by_cases h1 : 120 < d.length
      · rw [if_pos h1] at hk
        repeat' (first | (guard_target =~ PWp _ _ _ _ _ _ _; first | (refine pwp_seq_k (fun K hK => ?_)) | (refine pwp_block ?_) | (refine pwp_rg_then ?_) | (refine pwp_ret ?_) | (refine pwp_skip ?_) | ((refine pwp_cond_d (fun hcd => ?_) (fun hcd => ?_)) <;> (try simp only [hcP] at hcd) <;> (try exact cdT))) | (guard_target =~ rg _ _ _ _ _ _ _; first | (guard_target =~ rg _ _ _ [] _ _ _; first | (refine rg_end ?_)) | (refine rg_a rfl (h := ?_)) | (refine rg_v rfl (h := ?_)) | (refine rg_s rfl ?_)) | (guard_target =~ SOp _ _ _ _ _ _; first | (guard_target =~ SOp _ _ ⟨_, .indexAddr _ _ _, _, _, _, none⟩ _ _ _; first | (refine n_index rfl (hK := ?_)))) | (guard_target =~ (_ ∨ _) ∧ _; first | ((refine end_d [] (by rw [Tryd.results21, Lf.res1]) (ale_1 ?_) ?_) <;> (try (first | exact aleT | exact stq (by with_reducible rfl) | exact stq (by rfl) | exact stq (by simp (disch := omega) only [go_sem, seval, ↓reduceIte, hU]))))) | (refine hK _ _ ?_; clear hK K))
        exact ale_bl (by rw [hk])
      · rw [if_neg h1] at hk
        repeat' (first | (guard_target =~ PWp _ _ _ _ _ _ _; first | (refine pwp_seq_k (fun K hK => ?_)) | (refine pwp_block ?_) | (refine pwp_rg_then ?_) | (refine pwp_skip ?_) | ((refine pwp_cond_d (fun hcd => ?_) (fun hcd => ?_)) <;> (try simp only [hcP] at hcd) <;> (try exact cdT))) | (guard_target =~ rg _ _ _ _ _ _ _; first | (guard_target =~ rg _ _ _ [] _ _ _; first | (refine rg_end ?_)) | (refine rg_a rfl (h := ?_)) | (refine rg_v rfl (h := ?_)) | (refine rg_s rfl ?_)) | (guard_target =~ SOp _ _ _ _ _ _; first | (guard_target =~ SOp _ _ ⟨_, .indexAddr _ _ _, _, _, _, none⟩ _ _ _; first | (refine n_index rfl (hK := ?_)))) | (refine hK _ _ ?_; clear hK K))
        refine ⟨i + 1, ⟨by omega, hk⟩, by omega, ?_, (by repeat' (first | exact agr_refl | refine agr_cons (by rfl) ?_)), (by first | rfl | (simp (disch := omega) only [go_sem, seval, ↓reduceIte, hU]; done) | (simp (disch := omega) only [go_sem, seval, ↓reduceIte, hU]; rfl))⟩
        (refine ⟨⟨_, sT, ?_⟩, trivial⟩ <;> (try (first | exact aleT)))
    · have he : anyL l = false := by rw [hk, List.drop_eq_nil_of_le (by omega)]; rfl
      repeat' (first | (guard_target =~ PWp _ _ _ _ _ _ _; first | (refine pwp_seq_k (fun K hK => ?_)) | (refine pwp_rg_then ?_) | (refine pwp_ret ?_) | (refine pwp_exit ?_) | ((refine pwp_cond_d (fun hcd => ?_) (fun hcd => ?_)) <;> (try simp only [hcP] at hcd) <;> (try exact cdT))) | (guard_target =~ rg _ _ _ _ _ _ _; first | (guard_target =~ rg _ _ _ [] _ _ _; first | (refine rg_end ?_)) | (refine rg_a rfl (h := ?_)) | (refine rg_v rfl (h := ?_))) | (guard_target =~ (_ ∨ _) ∧ _; first | ((refine end_d [] (by rw [Tryd.results21, Lf.res1]) (ale_1 ?_) ?_) <;> (try (first | exact aleT | exact stq (by with_reducible rfl) | exact stq (by rfl) | exact stq (by simp (disch := omega) only [go_sem, seval, ↓reduceIte, hU]))))) | (refine hK _ _ ?_; clear hK K) | (apply_assumption (exfalso := false) (symm := false)))
      exact ale_bl (by rw [he])
theorem dnew_no (m : Int) (h : m < 0 ∨ 2147483647 < m) : AEq Tryd.prog 23 [i64 m] [] (.tu [.lit (.pointer none), i64 1]) [] := by
  refine acall_body Tryd.func23 rfl Tryd.ntmps23 (by simp) (fun hsc => ?_); simp only [Lf.enter, Nat.reduceAdd]; clear hsc
  have hU := True.intro
  repeat' (first | (guard_target =~ PWp _ _ _ _ _ _ _; first | (refine pwp_seq_k (fun K hK => ?_)) | (refine pwp_rg_then ?_) | (refine pwp_ret ?_) | ((refine pwp_cond_d (fun hcd => ?_) (fun hcd => ?_)) <;> (try simp only [hcP] at hcd) <;> (try exact cdT))) | (guard_target =~ rg _ _ _ _ _ _ _; first | (guard_target =~ rg _ _ _ [] _ _ _; first | (refine rg_end ?_)) | (refine rg_a rfl (h := ?_)) | (refine rg_x rfl (hy := rfl) (h := ?_)) | (refine rg_v rfl (h := ?_)) | (refine rg_s rfl ?_)) | (guard_target =~ SOp _ _ _ _ _ _; first | (guard_target =~ SOp _ _ ⟨_, .call ⟨.value (.func 55), _, _⟩, _, _, _, none⟩ _ _ _; first | (refine n_call (f := 55) rfl Tryd.call55 (h := AEq.pure' agT (t_new_no _ (by assumption)) (hq := ?_))))) | (guard_target =~ (_ ∨ _) ∧ _; first | ((refine end_d [] (by rw [Tryd.results23, Lf.res2]) (ale_2 ?_ ?_) ?_) <;> (try (first | exact aleT | exact stq (by with_reducible rfl) | exact stq (by rfl) | exact stq (by simp (disch := omega) only [go_sem, seval, ↓reduceIte, hU]))))) | (refine hK _ _ ?_; clear hK K))
theorem dnew_ok (m : Int) (h : 0 ≤ m) (h2 : m ≤ 2147483647) : AEq Tryd.prog 23 [i64 m] [] (.tu [.ptr 2 0, i64 0]) [.box [.row 1 0, i64 (sumW xsE), i64 m], .row 0 67 3 (xsE.map flA), .box [.ptr 0 0]] := by
  refine acall_body Tryd.func23 rfl Tryd.ntmps23 (by simp) (fun hsc => ?_); simp only [Lf.enter, Nat.reduceAdd]; clear hsc
  have hU := True.intro
  repeat' (first | (guard_target =~ PWp _ _ _ _ _ _ _; first | (refine pwp_seq_k (fun K hK => ?_)) | (refine pwp_rg_then ?_) | (refine pwp_ret ?_) | (refine pwp_skip ?_) | ((refine pwp_cond_d (fun hcd => ?_) (fun hcd => ?_)) <;> (try simp only [hcP] at hcd) <;> (try exact cdT))) | (guard_target =~ rg _ _ _ _ _ _ _; first | (guard_target =~ rg _ _ _ [] _ _ _; first | (refine rg_end ?_)) | (refine rg_a rfl (h := ?_)) | (refine rg_x rfl (hy := rfl) (h := ?_)) | (refine rg_v rfl (h := ?_)) | (refine rg_s rfl ?_)) | (guard_target =~ SOp _ _ _ _ _ _; first | (guard_target =~ SOp _ _ ⟨_, .call ⟨.value (.func 55), _, _⟩, _, _, _, none⟩ _ _ _; first | (refine n_call (f := 55) rfl Tryd.call55 (h := AEq.sub' [] (hc := t_new_r _ (by assumption) (by assumption)) (hq := ?_)))) | (guard_target =~ SOp _ _ ⟨_, .build _ _, _, _, _, none⟩ _ _ _; first | (refine n_build rfl (by first | exact bd67 | exact bd71 | exact bd112 | fail) (hK := ?_))) | (guard_target =~ SOp _ _ ⟨_, .box _ _, _, _, _, none⟩ _ _ _; first | (refine n_box rfl (hK := ?_)))) | (guard_target =~ (_ ∨ _) ∧ _; first | ((refine end_d [0, 1, 2] (by rw [Tryd.results23, Lf.res2]) (ale_2 ?_ ?_) ?_) <;> (try (first | exact aleT | exact stq (by with_reducible rfl) | exact stq (by rfl) | exact stq (by simp (disch := omega) only [go_sem, seval, ↓reduceIte, hU]))))) | (refine hK _ _ ?_; clear hK K))
theorem dtab0 : AEq Tryd.prog 62 [.lit (.pointer none)] [] (.lit (.pointer none)) [] := by
  refine acall_body Tryd.func62 rfl Tryd.ntmps62 (by simp) (fun hsc => ?_); simp only [Lf.enter, Nat.reduceAdd]; clear hsc
  have hU := True.intro
  repeat' (first | (guard_target =~ PWp _ _ _ _ _ _ _; first | (refine pwp_seq_k (fun K hK => ?_)) | (refine pwp_rg_then ?_) | (refine pwp_ret ?_) | ((refine pwp_cond_d (fun hcd => ?_) (fun hcd => ?_)) <;> (try simp only [hcP] at hcd) <;> (try exact cdT))) | (guard_target =~ rg _ _ _ _ _ _ _; first | (guard_target =~ rg _ _ _ [] _ _ _; first | (refine rg_end ?_)) | (refine rg_a rfl (h := ?_)) | (refine rg_v rfl (h := ?_))) | (guard_target =~ (_ ∨ _) ∧ _; first | ((refine end_d [] (by rw [Tryd.results62, Lf.res1]) (ale_1 ?_) ?_) <;> (try (first | exact aleT | exact stq (by with_reducible rfl) | exact stq (by rfl) | exact stq (by simp (disch := omega) only [go_sem, seval, ↓reduceIte, hU]))))) | (refine hK _ _ ?_; clear hK K))
theorem dtab (xs : List Fl) (s : Nat) (z m : Int) : AEq Tryd.prog 62 [.ptr 0 0] [.box [.ptr 1 0], .box [.row 2 s, i64 z, i64 m], .row s 67 3 (xs.map flA)] (.ptr 1 0) [.box [.ptr 1 0], .box [.row 2 s, i64 z, i64 m], .row s 67 3 (xs.map flA)] := by
  refine acall_body Tryd.func62 rfl Tryd.ntmps62 (by simp) (fun hsc => ?_); simp only [Lf.enter, Nat.reduceAdd]; clear hsc
  have hU := True.intro
  repeat' (first | (guard_target =~ PWp _ _ _ _ _ _ _; first | (refine pwp_seq_k (fun K hK => ?_)) | (refine pwp_rg_then ?_) | (refine pwp_ret ?_) | (refine pwp_skip ?_) | ((refine pwp_cond_d (fun hcd => ?_) (fun hcd => ?_)) <;> (try simp only [hcP] at hcd) <;> (try exact cdT))) | (guard_target =~ rg _ _ _ _ _ _ _; first | (guard_target =~ rg _ _ _ [] _ _ _; first | (refine rg_end ?_)) | (refine rg_a rfl (h := ?_)) | (refine rg_v rfl (h := ?_))) | (guard_target =~ (_ ∨ _) ∧ _; first | ((refine end_d [0, 1, 2] (by rw [Tryd.results62, Lf.res1]) (ale_1 ?_) ?_) <;> (try (first | exact aleT | exact stq (by with_reducible rfl) | exact stq (by rfl) | exact stq (by simp (disch := omega) only [go_sem, seval, ↓reduceIte, hU]))))) | (refine hK _ _ ?_; clear hK K))
theorem dmax0 : AEq Tryd.prog 29 [.lit (.pointer none)] [] (i64 0) [] := by
  refine acall_body Tryd.func29 rfl Tryd.ntmps29 (by simp) (fun hsc => ?_); simp only [Lf.enter, Nat.reduceAdd]; clear hsc
  have hU := True.intro
  repeat' (first | (guard_target =~ PWp _ _ _ _ _ _ _; first | (refine pwp_seq_k (fun K hK => ?_)) | (refine pwp_rg_then ?_) | (refine pwp_ret ?_)) | (guard_target =~ rg _ _ _ _ _ _ _; first | (guard_target =~ rg _ _ _ [] _ _ _; first | (refine rg_end ?_)) | (refine rg_a rfl (h := ?_)) | (refine rg_v rfl (h := ?_)) | (refine rg_s rfl ?_)) | (guard_target =~ SOp _ _ _ _ _ _; first | (guard_target =~ SOp _ _ ⟨_, .call ⟨.value (.func 62), _, _⟩, _, _, _, none⟩ _ _ _; first | (refine n_call (f := 62) rfl Tryd.call62 (h := AEq.pure' agT dtab0 (hq := ?_)))) | (guard_target =~ SOp _ _ ⟨_, .call ⟨.value (.func 63), _, _⟩, _, _, _, none⟩ _ _ _; first | (refine n_call (f := 63) rfl Tryd.call63 (h := AEq.pure' agT t_max0 (hq := ?_))))) | (guard_target =~ (_ ∨ _) ∧ _; first | ((refine end_d [] (by rw [Tryd.results29, Lf.res1]) (ale_1 ?_) ?_) <;> (try (first | exact aleT | exact stq (by with_reducible rfl) | exact stq (by rfl) | exact stq (by simp (disch := omega) only [go_sem, seval, ↓reduceIte, hU]))))) | (refine hK _ _ ?_; clear hK K))
theorem dmax (xs : List Fl) (s : Nat) (z m : Int) : AEq Tryd.prog 29 [.ptr 0 0] [.box [.ptr 1 0], .box [.row 2 s, i64 z, i64 m], .row s 67 3 (xs.map flA)] (i64 m) [.box [.ptr 1 0], .box [.row 2 s, i64 z, i64 m], .row s 67 3 (xs.map flA)] := by
  refine acall_body Tryd.func29 rfl Tryd.ntmps29 (by simp) (fun hsc => ?_); simp only [Lf.enter, Nat.reduceAdd]; clear hsc
  have hU := True.intro
  repeat' (first | (guard_target =~ PWp _ _ _ _ _ _ _; first | (refine pwp_seq_k (fun K hK => ?_)) | (refine pwp_rg_then ?_) | (refine pwp_ret ?_)) | (guard_target =~ rg _ _ _ _ _ _ _; first | (guard_target =~ rg _ _ _ [] _ _ _; first | (refine rg_end ?_)) | (refine rg_a rfl (h := ?_)) | (refine rg_v rfl (h := ?_)) | (refine rg_s rfl ?_)) | (guard_target =~ SOp _ _ _ _ _ _; first | (guard_target =~ SOp _ _ ⟨_, .call ⟨.value (.func 62), _, _⟩, _, _, _, none⟩ _ _ _; first | (refine n_call (f := 62) rfl Tryd.call62 (h := AEq.sub' [_, _, _] (hc := dtab _ _ _ _) (hq := ?_)))) | (guard_target =~ SOp _ _ ⟨_, .call ⟨.value (.func 63), _, _⟩, _, _, _, none⟩ _ _ _; first | (refine n_call (f := 63) rfl Tryd.call63 (h := AEq.sub' [_, _] (hc := t_max _ _ _ _) (hq := ?_))))) | (guard_target =~ (_ ∨ _) ∧ _; first | ((refine end_d [0, 1, 2] (by rw [Tryd.results29, Lf.res1]) (ale_1 ?_) ?_) <;> (try (first | exact aleT | exact stq (by with_reducible rfl) | exact stq (by rfl) | exact stq (by simp (disch := omega) only [go_sem, seval, ↓reduceIte, hU]))))) | (refine hK _ _ ?_; clear hK K))
theorem dsize0 : AEq Tryd.prog 30 [.lit (.pointer none)] [] (i64 0) [] := by
  refine acall_body Tryd.func30 rfl Tryd.ntmps30 (by simp) (fun hsc => ?_); simp only [Lf.enter, Nat.reduceAdd]; clear hsc
  have hU := True.intro
  repeat' (first | (guard_target =~ PWp _ _ _ _ _ _ _; first | (refine pwp_seq_k (fun K hK => ?_)) | (refine pwp_rg_then ?_) | (refine pwp_ret ?_)) | (guard_target =~ rg _ _ _ _ _ _ _; first | (guard_target =~ rg _ _ _ [] _ _ _; first | (refine rg_end ?_)) | (refine rg_a rfl (h := ?_)) | (refine rg_v rfl (h := ?_)) | (refine rg_s rfl ?_)) | (guard_target =~ SOp _ _ _ _ _ _; first | (guard_target =~ SOp _ _ ⟨_, .call ⟨.value (.func 62), _, _⟩, _, _, _, none⟩ _ _ _; first | (refine n_call (f := 62) rfl Tryd.call62 (h := AEq.pure' agT dtab0 (hq := ?_)))) | (guard_target =~ SOp _ _ ⟨_, .call ⟨.value (.func 64), _, _⟩, _, _, _, none⟩ _ _ _; first | (refine n_call (f := 64) rfl Tryd.call64 (h := AEq.pure' agT t_size0 (hq := ?_))))) | (guard_target =~ (_ ∨ _) ∧ _; first | ((refine end_d [] (by rw [Tryd.results30, Lf.res1]) (ale_1 ?_) ?_) <;> (try (first | exact aleT | exact stq (by with_reducible rfl) | exact stq (by rfl) | exact stq (by simp (disch := omega) only [go_sem, seval, ↓reduceIte, hU]))))) | (refine hK _ _ ?_; clear hK K))
theorem dsize (xs : List Fl) (s : Nat) (z m : Int) : AEq Tryd.prog 30 [.ptr 0 0] [.box [.ptr 1 0], .box [.row 2 s, i64 z, i64 m], .row s 67 3 (xs.map flA)] (i64 z) [.box [.ptr 1 0], .box [.row 2 s, i64 z, i64 m], .row s 67 3 (xs.map flA)] := by
  refine acall_body Tryd.func30 rfl Tryd.ntmps30 (by simp) (fun hsc => ?_); simp only [Lf.enter, Nat.reduceAdd]; clear hsc
  have hU := True.intro
  repeat' (first | (guard_target =~ PWp _ _ _ _ _ _ _; first | (refine pwp_seq_k (fun K hK => ?_)) | (refine pwp_rg_then ?_) | (refine pwp_ret ?_)) | (guard_target =~ rg _ _ _ _ _ _ _; first | (guard_target =~ rg _ _ _ [] _ _ _; first | (refine rg_end ?_)) | (refine rg_a rfl (h := ?_)) | (refine rg_v rfl (h := ?_)) | (refine rg_s rfl ?_)) | (guard_target =~ SOp _ _ _ _ _ _; first | (guard_target =~ SOp _ _ ⟨_, .call ⟨.value (.func 62), _, _⟩, _, _, _, none⟩ _ _ _; first | (refine n_call (f := 62) rfl Tryd.call62 (h := AEq.sub' [_, _, _] (hc := dtab _ _ _ _) (hq := ?_)))) | (guard_target =~ SOp _ _ ⟨_, .call ⟨.value (.func 64), _, _⟩, _, _, _, none⟩ _ _ _; first | (refine n_call (f := 64) rfl Tryd.call64 (h := AEq.sub' [_, _] (hc := t_size _ _ _ _) (hq := ?_))))) | (guard_target =~ (_ ∨ _) ∧ _; first | ((refine end_d [0, 1, 2] (by rw [Tryd.results30, Lf.res1]) (ale_1 ?_) ?_) <;> (try (first | exact aleT | exact stq (by with_reducible rfl) | exact stq (by rfl) | exact stq (by simp (disch := omega) only [go_sem, seval, ↓reduceIte, hU]))))) | (refine hK _ _ ?_; clear hK K))
theorem dall0 : AEq Tryd.prog 32 [.lit (.pointer none)] [] (.sl true false []) [] := by
  refine acall_body Tryd.func32 rfl Tryd.ntmps32 (by simp) (fun hsc => ?_); simp only [Lf.enter, Nat.reduceAdd]; clear hsc
  have hU := True.intro
  repeat' (first | (guard_target =~ PWp _ _ _ _ _ _ _; first | (refine pwp_seq_k (fun K hK => ?_)) | (refine pwp_rg_then ?_) | (refine pwp_ret ?_)) | (guard_target =~ rg _ _ _ _ _ _ _; first | (guard_target =~ rg _ _ _ [] _ _ _; first | (refine rg_end ?_)) | (refine rg_a rfl (h := ?_)) | (refine rg_v rfl (h := ?_)) | (refine rg_s rfl ?_)) | (guard_target =~ SOp _ _ _ _ _ _; first | (guard_target =~ SOp _ _ ⟨_, .call ⟨.value (.func 62), _, _⟩, _, _, _, none⟩ _ _ _; first | (refine n_call (f := 62) rfl Tryd.call62 (h := AEq.pure' agT dtab0 (hq := ?_)))) | (guard_target =~ SOp _ _ ⟨_, .call ⟨.value (.func 65), _, _⟩, _, _, _, none⟩ _ _ _; first | (refine n_call (f := 65) rfl Tryd.call65 (h := AEq.pure' agT t_all0 (hq := ?_))))) | (guard_target =~ (_ ∨ _) ∧ _; first | ((refine end_d [] (by rw [Tryd.results32, Lf.res1]) (ale_1 ?_) ?_) <;> (try (first | exact aleT | exact stq (by with_reducible rfl) | exact stq (by rfl) | exact stq (by simp (disch := omega) only [go_sem, seval, ↓reduceIte, hU]))))) | (refine hK _ _ ?_; clear hK K))
theorem dall (xs : List Fl) (s : Nat) (z m : Int) (h : xs.length ≤ 100000) : AEq Tryd.prog 32 [.ptr 0 0] [.box [.ptr 1 0], .box [.row 2 s, i64 z, i64 m], .row s 67 3 (xs.map flA)] (.sl false false (xs.reverse.map flA)) [.box [.ptr 1 0], .box [.row 2 s, i64 z, i64 m], .row s 67 3 (xs.map flA)] := by
  refine acall_body Tryd.func32 rfl Tryd.ntmps32 (by simp) (fun hsc => ?_); simp only [Lf.enter, Nat.reduceAdd]; clear hsc
  have hU := True.intro
  repeat' (first | (guard_target =~ PWp _ _ _ _ _ _ _; first | (refine pwp_seq_k (fun K hK => ?_)) | (refine pwp_rg_then ?_) | (refine pwp_ret ?_)) | (guard_target =~ rg _ _ _ _ _ _ _; first | (guard_target =~ rg _ _ _ [] _ _ _; first | (refine rg_end ?_)) | (refine rg_a rfl (h := ?_)) | (refine rg_v rfl (h := ?_)) | (refine rg_s rfl ?_)) | (guard_target =~ SOp _ _ _ _ _ _; first | (guard_target =~ SOp _ _ ⟨_, .call ⟨.value (.func 62), _, _⟩, _, _, _, none⟩ _ _ _; first | (refine n_call (f := 62) rfl Tryd.call62 (h := AEq.sub' [_, _, _] (hc := dtab _ _ _ _) (hq := ?_)))) | (guard_target =~ SOp _ _ ⟨_, .call ⟨.value (.func 65), _, _⟩, _, _, _, none⟩ _ _ _; first | (refine n_call (f := 65) rfl Tryd.call65 (h := AEq.sub' [_, _] (hc := t_all _ _ _ _ (by assumption)) (hq := ?_))))) | (guard_target =~ (_ ∨ _) ∧ _; first | ((refine end_d [0, 1, 2] (by rw [Tryd.results32, Lf.res1]) (ale_1 ?_) ?_) <;> (try (first | exact aleT | exact stq (by with_reducible rfl) | exact stq (by rfl) | exact stq (by simp (disch := omega) only [go_sem, seval, ↓reduceIte, hU]))))) | (refine hK _ _ ?_; clear hK K))
theorem dec_nil (x : AV) : AEq Tryd.prog 25 [.lit (.pointer none), x] [] (.tu [.ag [.sl true false [], .sl true false []], i64 2]) [] := by
  refine acall_body Tryd.func25 rfl Tryd.ntmps25 (by simp) (fun hsc => ?_); simp only [Lf.enter, Nat.reduceAdd]; clear hsc
  have hU := True.intro
  repeat' (first | (guard_target =~ PWp _ _ _ _ _ _ _; first | (refine pwp_seq_k (fun K hK => ?_)) | (refine pwp_rg_then ?_) | (refine pwp_ret ?_) | ((refine pwp_cond_d (fun hcd => ?_) (fun hcd => ?_)) <;> (try simp only [hcP] at hcd) <;> (try exact cdT))) | (guard_target =~ rg _ _ _ _ _ _ _; first | (guard_target =~ rg _ _ _ [] _ _ _; first | (refine rg_end ?_)) | (refine rg_a rfl (h := ?_)) | (refine rg_v rfl (h := ?_)) | (refine rg_s rfl ?_) | (refine rg_n rfl ?_)) | (guard_target =~ SOp _ _ _ _ _ _; first | (guard_target =~ SOp _ _ ⟨_, .store _ _ _, _, _, _, none⟩ _ _ _; first | (refine n_store rfl (hK := ?_))) | (guard_target =~ SOp _ _ ⟨_, .build _ _, _, _, _, none⟩ _ _ _; first | (refine n_build rfl (by first | exact bd25 | exact bd27 | exact bd55 | exact bd67 | exact bd71 | exact bd110 | exact bd112 | fail) (hK := ?_))) | (guard_target =~ SOp _ _ ⟨_, .alloc _, _, _, _, none⟩ _ _ _; first | (refine n_alloc rfl (by first | exact zv3 | exact zv4 | exact zv5 | exact zv9 | exact zv22 | exact zv25 | exact zv27 | exact zv28 | exact zv46 | exact zv50 | exact zv53 | exact zv55 | exact zv67 | exact zv69 | exact zv71 | exact zv107 | exact zv110 | exact zv112 | fail) (hK := ?_)))) | (guard_target =~ (_ ∨ _) ∧ _; first | ((refine end_q [] (by first | exact .inr rfl | exact .inl rfl | fail) (by rfl) (by rw [Tryd.results25]; exact Lf.resM2 (by (try simp (disch := omega) only [Lf.resOne, go_sem, seval, ↓reduceIte, hU]); rfl) (by (try simp (disch := omega) only [Lf.resOne, go_sem, seval, ↓reduceIte, hU]); rfl)) sT sT (ale_2 ?_ ?_) ?_) <;> (try (first | exact aleT | exact stq (by with_reducible rfl) | exact stq (by rfl) | exact stq (by simp (disch := omega) only [go_sem, seval, ↓reduceIte, hU]))))) | (refine hK _ _ ?_; clear hK K))
end Go.Proofs.YtohbfcmmpaikhaaDoor

set_option linter.unusedVariables false
set_option linter.unusedSimpArgs false
namespace Go.Proofs.YtohbfcmmpaikhaaDoor
open Go Go.Lf Go.Proofs
attribute [local irreducible] Lf.rg Lf.ro Lf.PWp Lf.SOp Lf.ACall Lf.Scoped Lf.dg
set_option maxRecDepth 20000
set_option maxHeartbeats 4000000
def TOk (t : DT) : Prop := sumW t.xs ≤ t.m ∧ 0 ≤ t.m ∧ t.m ≤ 2147483647 ∧ ∀ f ∈ t.xs, f.n.size ≤ 1000000 ∧ f.v.size ≤ 1000000
theorem addT_ok {t : DT} {f : Fl} (h : TOk t) (h1 : f.n.size ≤ 1000000) (h2 : f.v.size ≤ 1000000) : TOk (addT t f) ∧ (addT t f).xs.length ≤ t.xs.length + 1 ∧ (addT t f).m = t.m := by
  obtain ⟨a, b, c, d⟩ := h
  by_cases hw : wt f ≤ t.m
  · rw [addT_y hw]
    exact ⟨⟨addX_sum hw, b, c, addX_size d h1 h2⟩, addX_len _ _ _, rfl⟩
  · rw [addT_n hw]
    refine ⟨⟨?_, b, c, xsE_size⟩, ?_, rfl⟩
    · dsimp only; rw [xsE_sum]; exact b
    · dsimp only; rw [xsE_len]; exact Nat.zero_le _
theorem fV_size {r : Rp} {g : Fl} (hv : r.vl.length ≤ 1000000) (h1 : g.n.size ≤ 1000000) (h2 : g.v.size ≤ 1000000) : (fV r g).n.size ≤ 1000000 ∧ (fV r g).v.size ≤ 1000000 := by
  unfold fV
  split
  · exact ⟨h1, h2⟩
  · exact ⟨h1, hv⟩
theorem fG_size {xs : List Fl} {r : Rp} {g : Fl} (hn : r.nm.length ≤ 1000000) (hb : ∀ f ∈ xs, f.n.size ≤ 1000000 ∧ f.v.size ≤ 1000000) (h : fG xs r = some g) : g.n.size ≤ 1000000 ∧ g.v.size ≤ 1000000 := by
  unfold fG at h
  split at h
  · obtain rfl := Option.some.inj h
    exact ⟨hn, Nat.zero_le _⟩
  · exact dAt_size hb h
theorem dStep_inv {q q' : DQ} {r : Rp} (hP : RP r.k r.i r.nm r.ns r.vl r.vs r.sz) (hn : r.nm.length ≤ 1000000) (hv : r.vl.length ≤ 1000000) (hq : TOk q.t) (h : dStep q r = (q', 0)) : TOk q'.t ∧ q'.t.xs.length ≤ q.t.xs.length + 1 ∧ q'.F.length ≤ q.F.length + 1 ∧ q'.S.length ≤ q.S.length + 1 := by
  obtain ⟨F, S, t⟩ := q
  have hq2 := hq
  obtain ⟨a, b, c, d⟩ := hq
  dsimp only at a b c d ⊢
  by_cases h5 : r.k = 5
  · by_cases h0 : 0 < F.length
    · rw [dStep_upd h5 h0] at h
      have h9 : (13 : Int) = 0 := congrArg Prod.snd h
      exact absurd h9 (by decide)
    · rw [dStep_res h5 h0] at h
      obtain rfl := (Prod.mk.inj h).1
      have hz := hP.2.2.1
      have hk := keptL_len r.sz t.xs
      refine ⟨⟨keptL_sum _ hz.1 _, hz.1, hz.2, fun f hf => d f (keptL_mem _ _ f hf)⟩, ?_, ?_, ?_⟩
      · dsimp only; omega
      · dsimp only; omega
      · dsimp only; rw [snI_len]; omega
  · cases hg : fG t.xs r with
    | none => 
      rw [dStep_no h5 hg] at h
      have h9 : (12 : Int) = 0 := congrArg Prod.snd h
      exact absurd h9 (by decide)
    | some g =>
      obtain ⟨g1, g2⟩ := fG_size hn d hg
      obtain ⟨v1, v2⟩ := fV_size (r := r) hv g1 g2
      by_cases h2 : r.k = 2
      · rw [dStep_2 h2 hg] at h
        obtain rfl := (Prod.mk.inj h).1
        obtain ⟨e1, e2, e3⟩ := addT_ok hq2 v1 v2
        refine ⟨e1, e2, ?_, ?_⟩
        · dsimp only; rw [snF_len]; omega
        · dsimp only; omega
      · rw [dStep_f h5 h2 hg] at h
        obtain rfl := (Prod.mk.inj h).1
        refine ⟨hq2, ?_, ?_, ?_⟩
        · dsimp only; omega
        · dsimp only; rw [snF_len]; omega
        · dsimp only; omega
theorem decM_inv : ∀ (n : Nat) (b : List UInt8) (q Q : DQ), b.length ≤ n → b.length ≤ 50000 → TOk q.t → decM n b q = (Q, 0) → TOk Q.t ∧ Q.t.xs.length ≤ q.t.xs.length + b.length ∧ Q.F.length ≤ q.F.length + b.length ∧ Q.S.length ≤ q.S.length + b.length
  | n, b, q, Q, hn, hb, hq, h => by
    by_cases hlt : b.length = 0
    · rw [decM_nil hlt] at h
      obtain rfl := (Prod.mk.inj h).1
      exact ⟨hq, by omega, by omega, by omega⟩
    cases n with
    | zero => omega
    | succ n =>
      by_cases he0 : (rgM b).e ≠ 0
      · rw [decM_e hlt he0] at h; exact absurd (congrArg Prod.snd h) he0
      have he : (rgM b).e = 0 := by omega
      have hrl := rg_len b
      rcases rg_right b with ⟨h1, _⟩ | ⟨_, hP, hM0, hM1⟩
      · exact absurd he h1
      obtain ⟨⟨q', e⟩, hs⟩ : ∃ p, dStep q (rgM b) = p := ⟨_, rfl⟩
      by_cases hee : e = 0
      · subst hee
        obtain ⟨a, ha⟩ : ∃ j : Nat, (rgM b).n = j := ⟨(rgM b).n.toNat, by omega⟩
        rw [decM_r hlt he ha hs] at h
        have hdl : (b.drop a).length = b.length - a := List.length_drop
        obtain ⟨i1, i2, i3, i4⟩ := dStep_inv hP (by omega) (by omega) hq hs
        obtain ⟨j1, j2, j3, j4⟩ := decM_inv n (b.drop a) q' Q (by omega) (by omega) i1 h
        exact ⟨j1, by omega, by omega, by omega⟩
      · rw [decM_s hlt he hs hee] at h; exact absurd (congrArg Prod.snd h) hee
def fab : Fl := ⟨⟨#[97]⟩, ⟨#[98]⟩, false⟩
def wantL : List Fl := [fab]
def w5 : List UInt8 := [64, 1, 97, 1, 98]
def w190 : List UInt8 := [190]
def w191 : List UInt8 := [191]
theorem w5_len : w5.length = 5 := rfl
theorem w190_len : w190.length = 1 := rfl
theorem w191_len : w191.length = 1 := rfl
theorem wantL_len : wantL.length = 1 := rfl
theorem wantL_sum : sumW wantL = 34 := by decide
theorem wantL_size : ∀ f ∈ wantL, f.n.size ≤ 1000000 ∧ f.v.size ≤ 1000000 := by
  intro f hf
  obtain rfl := List.mem_singleton.1 hf
  exact ⟨by decide, by decide⟩
theorem w5_dec : decM w5.length w5 ⟨xs0, ss0, ⟨xsE, 0, 100⟩⟩ = (⟨wantL, ss0, ⟨wantL, 2, 100⟩⟩, 0) := by kernel_rfl
theorem w190_dec : decM w190.length w190 ⟨xs0, ss0, ⟨wantL, 0, 100⟩⟩ = (⟨wantL, ss0, ⟨wantL, 0, 100⟩⟩, 0) := by kernel_rfl
theorem w191_dec : decM w191.length w191 ⟨xs0, ss0, ⟨wantL, 0, 100⟩⟩ = (⟨xs0, ss0, ⟨wantL, 0, 100⟩⟩, 12) := by kernel_rfl
end Go.Proofs.YtohbfcmmpaikhaaDoor

set_option linter.unusedVariables false
set_option linter.unusedSimpArgs false
namespace Go.Lf
open Go
theorem resM4 {P : Program} {Γ : Env} {σ : Sto} {x y z u : ResultVar} {a b c d : AV} (hx : resOne P Γ σ x = some a) (hy : resOne P Γ σ y = some b) (hz : resOne P Γ σ z = some c) (hu : resOne P Γ σ u = some d) : resA P Γ σ (#[x, y, z, u] : Array ResultVar).toList = some (.tu [a, b, c, d]) := by simp [resA, hx, hy, hz, hu]
end Go.Lf
namespace Go.Proofs.YtohbfcmmpaikhaaDoor
open Go Go.Lf Go.Proofs
attribute [local irreducible] Lf.rg Lf.ro Lf.PWp Lf.SOp Lf.ACall Lf.Scoped Lf.dg Lf.dw
set_option maxRecDepth 20000
set_option maxHeartbeats 4000000
theorem addX_rev (xs : List Fl) (m : Int) (f : Fl) : addL f (xs.reverse.take (fitN xs.reverse 0 (m - wt f))) = (addX xs m f).reverse := by
  unfold addX addL
  rw [List.reverse_append, kept_fit]; rfl
theorem wk_box {N n : Nat} {Γ : Env} {σ : Sto} {cs : List AV} (o : Nat) (cs' : List AV) (hob : σ[o]? = some (.box cs)) (hl : cs'.length = cs.length) (hw : ∀ ρ w vs, VRl σ ρ w cs vs → VRl σ ρ w cs' vs) : Wk N n Γ σ Γ (σ.set o (.box cs')) := by
  intro ρ w a hn hf hr
  obtain ⟨b, ty, vs, hb, hh, hone, hl'⟩ := hr.obj _ _ hob
  have hobj : ObjStep (some (.box cs)) (some (.box cs')) (ρ o) (ρ o) := by simp [ObjStep, hl]
  have st := step_set (w := w) (w' := w) hob rfl hobj rfl rfl rfl (Nat.le_refl _) (fun _ _ _ => rfl) (fun c _ h => .inl h)
  have hrel := rel_set (w := w) (w' := w) hr hob rfl hobj rfl rfl rfl (Nat.le_refl _) (fun _ _ _ => rfl) (fun c _ h => .inl h) ⟨b, ty, vs, hb, hh, hone, VRl.carry st _ _ (hw ρ w vs hl')⟩
  exact ⟨_, ⟨hf.1, ⟨hf.2.1.1, hf.2.1.2.carry st⟩, fun i => VR.carry st _ _ (hf.2.2 i)⟩, hrel, st.mono hn⟩
theorem sl_weak {σ : Sto} {fl q : Bool} {xs : List (List AV)} {r : List AV} (ρ : Rz) (w : World) (vs : List Value) (h : VRl σ ρ w (.sl fl q xs :: r) vs) : VRl σ ρ w (.sl false q xs :: r) vs := by
  cases vs with
  | nil => simp [VRl] at h
  | cons v vs =>
    simp only [VRl] at h ⊢
    refine ⟨?_, h.2⟩
    have h1 := h.1
    simp only [VR] at h1 ⊢
    obtain ⟨a, cap, sz, e1, e2, e3, e4, e5⟩ := h1
    exact ⟨a, cap, sz, e1, e2, e3, fun h => absurd h (by simp), e5⟩
attribute [local irreducible] wt sumW keptL flN addX stAt dAt xsE addL fitN
theorem rat_ok (f1 : Bool) (xs : List Fl) (m i : Int) (g : Fl) (h : xs.length ≤ 90000) (h1 : 1 ≤ i) (h2 : i ≤ 2147483647) (hg : dAt xs i = some g) : AEq Tryd.prog 60 [.ag [.sl f1 false (xs.reverse.map flA), i64 m], i64 i] [] (.tu [.ag (flA g), bl true]) [] := by
  have hrl : xs.reverse.length = xs.length := List.length_reverse
  by_cases hi : i ≤ 61
  · rw [dAt_st h1 hi] at hg
    obtain rfl := Option.some.inj hg
    refine acall_body Tryd.func60 rfl Tryd.ntmps60 (by simp) (fun hsc => ?_); simp only [Lf.enter, Nat.reduceAdd]; clear hsc
    have hU := True.intro
    repeat' (first | (guard_target =~ PWp _ _ _ _ _ _ _; first | (refine pwp_seq_k (fun K hK => ?_)) | (refine pwp_rg_then ?_) | (refine pwp_ret ?_) | ((refine pwp_cond_d (fun hcd => ?_) (fun hcd => ?_)) <;> (try simp only [hcP] at hcd) <;> (try exact cdT))) | (guard_target =~ rg _ _ _ _ _ _ _; first | (guard_target =~ rg _ _ _ [] _ _ _; first | (refine rg_end ?_)) | (refine rg_a rfl (h := ?_)) | (refine rg_x rfl (hy := rfl) (h := ?_)) | (refine rg_v rfl (h := ?_)) | (refine rg_s rfl ?_) | (refine rg_n rfl ?_)) | (guard_target =~ SOp _ _ _ _ _ _; first | (guard_target =~ SOp _ _ ⟨_, .store _ _ _, _, _, _, none⟩ _ _ _; first | (refine n_store rfl (hK := ?_))) | (guard_target =~ SOp _ _ ⟨_, .call ⟨.value (.func 85), _, _⟩, _, _, _, none⟩ _ _ _; first | (refine n_call (f := 85) rfl Tryd.call85 (h := AEq.pure' agT (rf_at_some _ (by omega)) (hq := ?_)))) | (guard_target =~ SOp _ _ ⟨_, .alloc _, _, _, _, none⟩ _ _ _; first | (refine n_alloc rfl (by first | exact zv3 | exact zv4 | exact zv9 | exact zv50 | exact zv52 | exact zv67 | fail) (hK := ?_))) | (guard_target =~ SOp _ _ ⟨_, .box _ _, _, _, _, none⟩ _ _ _; first | (refine n_box rfl (hK := ?_)))) | (guard_target =~ (_ ∨ _) ∧ _; first | ((refine end_q [] (by first | exact .inr rfl | exact .inl rfl | fail) (by rfl) (by rw [Tryd.results60]; exact Lf.resM2 (by (try simp (disch := omega) only [Lf.resOne, go_sem, seval, ↓reduceIte, hU]); rfl) (by (try simp (disch := omega) only [Lf.resOne, go_sem, seval, ↓reduceIte, hU]); rfl)) sT sT (ale_2 ?_ ?_) ?_) <;> (try (first | exact aleT | exact stq (by with_reducible rfl) | exact stq (by rfl) | exact stq (by simp (disch := omega) only [go_sem, seval, ↓reduceIte, hU]))))) | (refine hK _ _ ?_; clear hK K))
  · rw [dAt_dy hi] at hg
    have hgl := (List.getElem?_eq_some_iff.1 hg).1
    rw [List.length_reverse] at hgl
    refine acall_body Tryd.func60 rfl Tryd.ntmps60 (by simp) (fun hsc => ?_); simp only [Lf.enter, Nat.reduceAdd]; clear hsc
    have hU := True.intro
    repeat' (first | (guard_target =~ PWp _ _ _ _ _ _ _; first | (refine pwp_seq_k (fun K hK => ?_)) | (refine pwp_rg_then ?_) | (refine pwp_ret ?_) | (refine pwp_skip ?_) | ((refine pwp_cond_d (fun hcd => ?_) (fun hcd => ?_)) <;> (try simp only [hcP] at hcd) <;> (try exact cdT))) | (guard_target =~ rg _ _ _ _ _ _ _; first | (guard_target =~ rg _ _ _ [] _ _ _; first | (refine rg_end ?_)) | (refine rg_a rfl (h := ?_)) | (refine rg_x rfl (hy := rfl) (h := ?_)) | (refine rg_v rfl (h := ?_)) | (refine rg_s rfl ?_) | (refine rg_n rfl ?_)) | (guard_target =~ SOp _ _ _ _ _ _; first | (guard_target =~ SOp _ _ ⟨_, .store _ _ _, _, _, _, none⟩ _ _ _; first | (refine n_store rfl (hK := ?_))) | (guard_target =~ SOp _ _ ⟨_, .alloc _, _, _, _, none⟩ _ _ _; first | (refine n_alloc rfl (by first | exact zv3 | exact zv4 | exact zv9 | exact zv50 | exact zv52 | exact zv67 | fail) (hK := ?_))) | (guard_target =~ SOp _ _ ⟨_, .call ⟨.value (.func 86), _, _⟩, _, _, _, none⟩ _ _ _; first | (refine n_call (f := 86) rfl Tryd.call86 (h := AEq.pure' agT (r_at _ _ _ _ _ aoT aoT aoT aoT) (hq := ?_)))) | (guard_target =~ SOp _ _ ⟨_, .box _ _, _, _, _, none⟩ _ _ _; first | (refine n_box rfl (hK := ?_)))) | (guard_target =~ (_ ∨ _) ∧ _; first | ((refine end_q [] (by first | exact .inr rfl | exact .inl rfl | fail) (by rfl) (by rw [Tryd.results60]; exact Lf.resM2 (by (try simp (disch := omega) only [Lf.resOne, go_sem, seval, ↓reduceIte, hU]); rfl) (by (try simp (disch := omega) only [Lf.resOne, go_sem, seval, ↓reduceIte, hU]); rfl)) sT sT (ale_2 ?_ ?_) ?_) <;> (try (first | exact aleT | exact stq (by with_reducible rfl) | exact stq (by rfl) | exact stq (by simp (disch := omega) only [go_sem, seval, ↓reduceIte, hU]))))) | (refine hK _ _ ?_; clear hK K))
theorem rat_no (f1 : Bool) (xs : List Fl) (m i : Int) (h : xs.length ≤ 90000) (h1 : 1 ≤ i) (h2 : i ≤ 2147483647) (hg : dAt xs i = none) : AEq Tryd.prog 60 [.ag [.sl f1 false (xs.reverse.map flA), i64 m], i64 i] [] (.tu [.ag (flA fl0), bl false]) [] := by
  have hrl : xs.reverse.length = xs.length := List.length_reverse
  by_cases hi : i ≤ 61
  · rw [dAt_st h1 hi] at hg
    exact absurd hg (by simp)
  · rw [dAt_dy hi] at hg
    have hgl := List.getElem?_eq_none_iff.1 hg
    rw [List.length_reverse] at hgl
    refine acall_body Tryd.func60 rfl Tryd.ntmps60 (by simp) (fun hsc => ?_); simp only [Lf.enter, Nat.reduceAdd]; clear hsc
    have hU := True.intro
    repeat' (first | (guard_target =~ PWp _ _ _ _ _ _ _; first | (refine pwp_seq_k (fun K hK => ?_)) | (refine pwp_rg_then ?_) | (refine pwp_ret ?_) | (refine pwp_skip ?_) | ((refine pwp_cond_d (fun hcd => ?_) (fun hcd => ?_)) <;> (try simp only [hcP] at hcd) <;> (try exact cdT))) | (guard_target =~ rg _ _ _ _ _ _ _; first | (guard_target =~ rg _ _ _ [] _ _ _; first | (refine rg_end ?_)) | (refine rg_a rfl (h := ?_)) | (refine rg_x rfl (hy := rfl) (h := ?_)) | (refine rg_v rfl (h := ?_)) | (refine rg_s rfl ?_) | (refine rg_n rfl ?_)) | (guard_target =~ SOp _ _ _ _ _ _; first | (guard_target =~ SOp _ _ ⟨_, .store _ _ _, _, _, _, none⟩ _ _ _; first | (refine n_store rfl (hK := ?_))) | (guard_target =~ SOp _ _ ⟨_, .alloc _, _, _, _, none⟩ _ _ _; first | (refine n_alloc rfl (by first | exact zv3 | exact zv4 | exact zv9 | exact zv50 | exact zv52 | exact zv67 | fail) (hK := ?_))) | (guard_target =~ SOp _ _ ⟨_, .call ⟨.value (.func 86), _, _⟩, _, _, _, none⟩ _ _ _; first | (refine n_call (f := 86) rfl Tryd.call86 (h := AEq.pure' agT (r_at_no _ _ _ _ (by omega)) (hq := ?_)))) | (guard_target =~ SOp _ _ ⟨_, .box _ _, _, _, _, none⟩ _ _ _; first | (refine n_box rfl (hK := ?_)))) | (guard_target =~ (_ ∨ _) ∧ _; first | ((refine end_q [] (by first | exact .inr rfl | exact .inl rfl | fail) (by rfl) (by rw [Tryd.results60]; exact Lf.resM2 (by (try simp (disch := omega) only [Lf.resOne, go_sem, seval, ↓reduceIte, hU]); rfl) (by (try simp (disch := omega) only [Lf.resOne, go_sem, seval, ↓reduceIte, hU]); rfl)) sT sT (ale_2 ?_ ?_) ?_) <;> (try (first | exact aleT | exact stq (by with_reducible rfl) | exact stq (by rfl) | exact stq (by simp (disch := omega) only [go_sem, seval, ↓reduceIte, hU]))))) | (refine hK _ _ ?_; clear hK K))
theorem r_add_c (f1 : Bool) (R : List Fl) (m : Int) (n v : ByteArray) (k : Bool) (h : R.length ≤ 100000) (hS : sumW R ≤ 4000000000) (hb : ∀ f ∈ R, f.n.size ≤ 1000000000 ∧ f.v.size ≤ 1000000000) (h1 : n.size ≤ 1000000000) (h2 : v.size ≤ 1000000000) (h3 : wt ⟨n, v, k⟩ ≤ m) (h4 : m ≤ 4000000000) : AEq Tryd.prog 61 [.ag [.sl f1 false (R.map flA), i64 m], .ag [.lit (.string n), .lit (.string v), .lit (.bool k)]] [] (.ag [.sl false false ((addL ⟨n, v, k⟩ (R.take (fitN R 0 (m - wt ⟨n, v, k⟩)))).map flA), i64 m]) [] := r_add f1 R m ⟨n, v, k⟩ h hS hb h1 h2 h3 h4
theorem r_add_bigc (f1 : Bool) (R : List Fl) (m : Int) (n v : ByteArray) (k : Bool) (h1 : n.size ≤ 1000000000) (h2 : v.size ≤ 1000000000) (h3 : m < wt ⟨n, v, k⟩) : AEq Tryd.prog 61 [.ag [.sl f1 false (R.map flA), i64 m], .ag [.lit (.string n), .lit (.string v), .lit (.bool k)]] [] (.ag [.sl true false (xsE.reverse.map flA), i64 m]) [] := r_add_big f1 R m ⟨n, v, k⟩ h1 h2 h3
end Go.Proofs.YtohbfcmmpaikhaaDoor

