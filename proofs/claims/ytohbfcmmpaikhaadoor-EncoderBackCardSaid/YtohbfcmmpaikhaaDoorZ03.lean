import Derived.Test.YtohbfcmmpaikhaaDoorZ02
import Derived.Test.YtohbfcmmpaikhaaDoorLc
set_option linter.unusedVariables false
set_option linter.unusedSimpArgs false
namespace Go.Proofs.YtohbfcmmpaikhaaDoor
open Go Go.Lf Go.Proofs
attribute [local irreducible] Lf.rg Lf.ro Lf.PWp Lf.SOp Lf.ACall Lf.Scoped Lf.dg Lf.dw
set_option maxRecDepth 20000
set_option maxHeartbeats 4000000
structure Bk where
 (codes : List Int) (o : AV) (first count base : List Int)
def nA (n : Int) : AV := i64 n
def bkA (b : Bk) : List AV := bl true :: (b.codes.map nA ++ b.o :: (b.first.map nA ++ (b.count.map nA ++ b.base.map nA)))
structure WfB (b : Bk) : Prop where
 c : b.codes.length = 257
 f : b.first.length = 31
 n : b.count.length = 31
 b : b.base.length = 31
theorem bkA_len {b : Bk} (h : WfB b) : (bkA b).length = 352 := by
 obtain ⟨h1, h2, h3, h4⟩ := h
 unfold bkA; simp [h1, h2, h3, h4]
theorem put_app {α : Type} (a c : List AV) (k : Nat) (v : AV) : putCells (a ++ c) (a.length + k) [v] = a ++ putCells c k [v] := by
 unfold putCells
 rw [List.take_append, List.drop_append, List.take_of_length_le (by omega), show a.length + k - a.length = k from by omega, List.drop_of_length_le (by simp; omega), List.nil_append]
 simp only [List.append_assoc, List.length_cons, List.length_nil]
 congr 4; omega
theorem put_map (l : List Int) (k : Nat) (r : List AV) (v : Int) (h : k < l.length) : putCells (l.map nA ++ r) k [nA v] = (l.set k v).map nA ++ r := by
 unfold putCells
 rw [List.take_append_of_le_length (by simp; omega), List.drop_append_of_le_length (by simp; omega), List.map_set, List.set_eq_take_append_cons_drop, if_pos (by simpa using h)]
 simp
theorem bk_count {b : Bk} (h : WfB b) {n : Nat} (hn : n < 31) (v : Int) : putCells (bkA b) (290 + n) [nA v] = bkA { b with count := b.count.set n v } := by
 obtain ⟨h1, h2, h3, h4⟩ := h
 have e : bkA b = (bl true :: (b.codes.map nA ++ b.o :: b.first.map nA)) ++ (b.count.map nA ++ b.base.map nA) := by unfold bkA; simp
 have hl : (bl true :: (b.codes.map nA ++ b.o :: b.first.map nA)).length = 290 := by simp [h1, h2]
 rw [e, ← hl, put_app (α := Nat), put_map _ _ _ _ (by omega)]
 unfold bkA; simp
theorem bk_count_at {b : Bk} (h : WfB b) {n : Nat} {v : Int} (hv : b.count[n]? = some v) : (bkA b)[290 + n]? = some (nA v) := by
 obtain ⟨h1, h2, h3, h4⟩ := h
 have e : bkA b = (bl true :: (b.codes.map nA ++ b.o :: b.first.map nA)) ++ (b.count.map nA ++ b.base.map nA) := by unfold bkA; simp
 have hl : (bl true :: (b.codes.map nA ++ b.o :: b.first.map nA)).length = 290 := by simp [h1, h2]
 have hn : n < b.count.length := (List.getElem?_eq_some_iff.1 hv).1
 rw [e, ← hl, List.getElem?_append_right (by omega), show ∀ m : Nat, m + n - m = n from fun m => by omega, List.getElem?_append_left (by simpa using hn), List.getElem?_map, hv]; rfl
def cntN (k : Nat) (n : Nat) : Int := (((List.range k).filter (fun s : Nat => decide (szI (s : Int) = (n : Int)))).length : Int)
theorem cntN_bd {k n : Nat} (h : k ≤ 257) : 0 ≤ cntN k n ∧ cntN k n ≤ 257 := by
 unfold cntN
 have := List.length_filter_le (fun s : Nat => decide (szI (s : Int) = (n : Int))) (List.range k)
 rw [List.length_range] at this
 omega
def cntL (k : Nat) : List Int := (List.range 31).map (cntN k)
theorem cntN_succ (k n : Nat) : cntN (k + 1) n = cntN k n + if szI (k : Int) = n then 1 else 0 := by
 unfold cntN
 rw [List.range_succ, List.filter_append, List.length_append]
 by_cases h : szI (k : Int) = n
 ·simp [h]
 ·simp [h]
theorem cntL_set (k n : Nat) (hn : n < 31) (h : szI (k : Int) = n) : (cntL k).set n (cntN k n + 1) = cntL (k + 1) := by
 apply List.ext_getElem?
 intro i
 unfold cntL
 by_cases hi : i < 31
 ·by_cases e : i = n
  ·subst e
   rw [List.getElem?_set_self (by simpa using hi), List.getElem?_map, List.getElem?_range hi, Option.map_some, cntN_succ, if_pos h]
  ·rw [List.getElem?_set_ne (fun c => e c.symm), List.getElem?_map, List.getElem?_map, List.getElem?_range hi, Option.map_some, Option.map_some, cntN_succ, if_neg (by rw [h]; omega), Int.add_zero]
 ·rw [List.getElem?_eq_none (by simp; omega), List.getElem?_eq_none (by simp; omega)]
def z257 : List Int := List.replicate 257 0
def z31 : List Int := List.replicate 31 0
def b1 (k : Nat) : Bk := ⟨z257, .sl true false [], z31, cntL k, z31⟩
theorem b1_wf (k : Nat) : WfB (b1 k) := ⟨by simp [b1, z257], by simp [b1, z31], by simp [b1, cntL], by simp [b1, z31]⟩
theorem bk_codes {b : Bk} (h : WfB b) {n : Nat} (hn : n < 257) (v : Int) : putCells (bkA b) (1 + n) [nA v] = bkA { b with codes := b.codes.set n v } := by
 obtain ⟨h1, h2, h3, h4⟩ := h
 have e : bkA b = [bl true] ++ (b.codes.map nA ++ (b.o :: (b.first.map nA ++ (b.count.map nA ++ b.base.map nA)))) := by unfold bkA; simp
 have hl : ([bl true] : List AV).length = 1 := rfl
 rw [e, ← hl, put_app (α := Nat), put_map _ _ _ _ (by omega)]
 unfold bkA; simp
theorem bk_o {b : Bk} (h : WfB b) (x : AV) : putCells (bkA b) 258 [x] = bkA { b with o := x } := by
 obtain ⟨h1, h2, h3, h4⟩ := h
 have e : bkA b = (bl true :: b.codes.map nA) ++ (b.o :: (b.first.map nA ++ (b.count.map nA ++ b.base.map nA))) := by unfold bkA; simp
 have hl : (bl true :: b.codes.map nA).length = 258 := by simp [h1]
 rw [e, show (258 : Nat) = (bl true :: b.codes.map nA).length + 0 from by rw [hl], put_app (α := Nat)]
 unfold bkA putCells; simp
theorem bk_o_at {b : Bk} (h : WfB b) : (bkA b)[258]? = some b.o := by
 obtain ⟨h1, h2, h3, h4⟩ := h
 have e : bkA b = (bl true :: b.codes.map nA) ++ (b.o :: (b.first.map nA ++ (b.count.map nA ++ b.base.map nA))) := by unfold bkA; simp
 have hl : (bl true :: b.codes.map nA).length = 258 := by simp [h1]
 rw [e, List.getElem?_append_right (by omega), hl]; rfl
theorem bk_set_o {b : Bk} (h : WfB b) {x : AV} : (bkA b).set 258 x = bkA { b with o := x } := by
 have h1 := h.c
 have hl : (b.codes.map nA).length = 257 := by simp [h1]
 unfold bkA
 rw [List.set_cons_succ, List.set_append_right _ _ (by omega), hl]; rfl
theorem bk_first {b : Bk} (h : WfB b) {n : Nat} (hn : n < 31) (v : Int) : putCells (bkA b) (259 + n) [nA v] = bkA { b with first := b.first.set n v } := by
 obtain ⟨h1, h2, h3, h4⟩ := h
 have e : bkA b = (bl true :: (b.codes.map nA ++ [b.o])) ++ (b.first.map nA ++ (b.count.map nA ++ b.base.map nA)) := by unfold bkA; simp
 have hl : (bl true :: (b.codes.map nA ++ [b.o])).length = 259 := by simp [h1]
 rw [e, ← hl, put_app (α := Nat), put_map _ _ _ _ (by omega)]
 unfold bkA; simp
theorem bk_base {b : Bk} (h : WfB b) {n : Nat} (hn : n < 31) (v : Int) : putCells (bkA b) (321 + n) [nA v] = bkA { b with base := b.base.set n v } := by
 obtain ⟨h1, h2, h3, h4⟩ := h
 have e : bkA b = (bl true :: (b.codes.map nA ++ b.o :: (b.first.map nA ++ b.count.map nA))) ++ (b.base.map nA ++ []) := by unfold bkA; simp
 have hl : (bl true :: (b.codes.map nA ++ b.o :: (b.first.map nA ++ b.count.map nA))).length = 321 := by simp [h1, h2, h3]
 rw [e, ← hl, put_app (α := Nat), put_map _ _ _ _ (by omega)]
 unfold bkA; simp
theorem rset {N : Nat} {f g : Nat → Int} {n : Nat} {v : Int} (hn : n < N) (hv : g n = v) (hg : ∀ i : Nat, ¬ i = n → f i = g i) : ((List.range N).map f).set n v = (List.range N).map g := by
 apply List.ext_getElem?
 intro i
 by_cases hi : i < N
 ·by_cases e : i = n
  ·subst e
   rw [List.getElem?_set_self (by simpa using hi), List.getElem?_map, List.getElem?_range hi, Option.map_some, hv]
  ·rw [List.getElem?_set_ne (fun c => e c.symm), List.getElem?_map, List.getElem?_map, List.getElem?_range hi, Option.map_some, Option.map_some, hg i e]
 ·rw [List.getElem?_eq_none (by simp; omega), List.getElem?_eq_none (by simp; omega)]
def codeN : Nat → Int
 | 0 => 0
 | n + 1 => codeN n * 2 + cntN 257 n
theorem codeN_bd : ∀ n : Fin 32, 0 ≤ codeN n.val ∧ codeN n.val ≤ 4294967296 := by decide +kernel
def symK (n k : Nat) : List Nat := (List.range k).filter (fun s : Nat => decide (szI (s : Int) = (n : Int)))
def ordN : Nat → List Nat
 | 0 => []
 | n + 1 => ordN n ++ symK n 257
theorem ordN_len : ∀ n : Fin 32, (ordN n.val).length ≤ 257 := by decide +kernel
theorem symK_succ (n k : Nat) : symK n (k + 1) = symK n k ++ if szI (k : Int) = n then [k] else [] := by
 unfold symK
 rw [List.range_succ, List.filter_append]
 by_cases h : szI (k : Int) = n
 ·simp [h]
 ·simp [h]
theorem symK_le (n k : Nat) : (symK n k).length ≤ k := by
 unfold symK
 have := List.length_filter_le (fun s : Nat => decide (szI (s : Int) = (n : Int))) (List.range k)
 rwa [List.length_range] at this
def csI (s : Nat) : Int := codeN (szI (s : Int)).toNat * 2 + cntN s (szI (s : Int)).toNat
def codesL (n k : Nat) : List Int := (List.range 257).map fun s : Nat => if szI (s : Int) < n ∨ (szI (s : Int) = n ∧ s < k) then csI s else 0
def firstL (n : Nat) : List Int := (List.range 31).map fun i : Nat => if 1 ≤ i ∧ i < n then codeN i * 2 else 0
def baseL (n : Nat) : List Int := (List.range 31).map fun i : Nat => if 1 ≤ i ∧ i < n then ((ordN i).length : Int) else 0
@[go_sem] def natA (s : Nat) : List AV := [i64 (s : Int)]
theorem symK_0 (n : Nat) : symK n 0 = [] := rfl
theorem cntN_0 (n : Nat) : cntN 0 n = 0 := rfl
theorem cntN_le {k n : Nat} (h : k ≤ 257) : 0 ≤ cntN k n ∧ cntN k n ≤ 257 := cntN_bd h
@[go_sem] theorem purl_nat (l : List Nat) : purl (l.map natA).flatten = true := purl_map (fun a => by simp [natA, purl, pur]) l
@[go_sem] theorem fz_mapnat {κ : List Nat} {σ : Sto} (l : List Nat) : List.map (fzl κ σ) (l.map natA) = l.map natA := fz_mapg (fun _ => rfl) l
def b2 (n k st m m2 : Nat) : Bk := ⟨codesL n k, .row 1 st, firstL m, cntL 257, baseL m2⟩
theorem b2_wf (n k st m m2 : Nat) : WfB (b2 n k st m m2) := ⟨by simp [b2, codesL], by simp [b2, firstL], by simp [b2, cntL], by simp [b2, baseL]⟩
@[go_sem] theorem fz_b2 {σ : Sto} (n k st m m2 : Nat) : fzl [0, 1] σ (bkA (b2 n k st m m2)) = bkA (b2 n k st m m2) := by
 rw [fzl_map]
 unfold bkA b2
 have h : ∀ l : List Int, (l.map nA).map (fz [0, 1] σ) = l.map nA := by
  intro l; rw [List.map_map]; exact List.map_congr_left (fun _ _ => rfl)
 simp only [List.map_cons, List.map_append, h]
 rfl
theorem firstL_set {n : Nat} (h1 : 1 ≤ n) (h : n < 31) : (firstL n).set n (codeN n * 2) = firstL (n + 1) := by
 unfold firstL
 refine rset h (if_pos ⟨h1, by omega⟩) (fun i hi => ?_)
 by_cases c : 1 ≤ i ∧ i < n
 ·rw [if_pos c, if_pos ⟨c.1, by omega⟩]
 ·rw [if_neg c, if_neg (by omega)]
theorem baseL_set {n : Nat} (h1 : 1 ≤ n) (h : n < 31) : (baseL n).set n ((ordN n).length : Int) = baseL (n + 1) := by
 unfold baseL
 refine rset h (if_pos ⟨h1, by omega⟩) (fun i hi => ?_)
 by_cases c : 1 ≤ i ∧ i < n
 ·rw [if_pos c, if_pos ⟨c.1, by omega⟩]
 ·rw [if_neg c, if_neg (by omega)]
theorem codesL_set {n k : Nat} (hk : k < 257) (h : szI (k : Int) = n) : (codesL n k).set k (codeN n * 2 + cntN k n) = codesL n (k + 1) := by
 unfold codesL
 refine rset hk ?_ (fun i hi => ?_)
 ·rw [if_pos (.inr ⟨h, by omega⟩)]
  unfold csI
  rw [h]; rfl
 ·by_cases c : szI (i : Int) < n ∨ (szI (i : Int) = n ∧ i < k)
  ·rw [if_pos c, if_pos (by omega)]
  ·rw [if_neg c, if_neg (by omega)]
theorem codesL_not {n k : Nat} (h : ¬ szI (k : Int) = n) : codesL n (k + 1) = codesL n k := by
 unfold codesL
 apply List.map_congr_left
 intro i _
 by_cases e : i = k
 ·subst e
  by_cases c : szI (i : Int) < n
  ·rw [if_pos (.inl c), if_pos (.inl c)]
  ·rw [if_neg (by omega), if_neg (by omega)]
 ·by_cases c : szI (i : Int) < n ∨ (szI (i : Int) = n ∧ i < k)
  ·rw [if_pos c, if_pos (by omega)]
  ·rw [if_neg c, if_neg (by omega)]
theorem codesL_next (n : Nat) : codesL n 257 = codesL (n + 1) 0 := by
 unfold codesL
 apply List.map_congr_left
 intro i hi
 have hi : i < 257 := by simpa using hi
 by_cases c : szI (i : Int) < n ∨ (szI (i : Int) = n ∧ i < 257)
 ·rw [if_pos c, if_pos (by omega)]
 ·rw [if_neg c, if_neg (by omega)]
theorem codesL_one : codesL 1 0 = z257 := by decide +kernel
theorem firstL_one : firstL 1 = z31 := by decide +kernel
theorem baseL_one : baseL 1 = z31 := by decide +kernel
theorem ordN_one : ordN 1 = [] := by decide +kernel
theorem codeN_succ (n : Nat) : codeN (n + 1) = codeN n * 2 + cntN 257 n := rfl
theorem ordN_succ (n : Nat) : ordN (n + 1) = ordN n ++ symK n 257 := rfl
theorem ordN_31 : (ordN 31).length = 257 := by decide +kernel
theorem codeN_one : codeN 1 = 0 := by decide +kernel
attribute [local irreducible] bkA cntN codeN ordN symK codesL firstL baseL cntL
set_option maxRecDepth 20000 in
set_option maxHeartbeats 40000000 in
theorem cmake : AEq Tryd.prog 95 [] [] (.ptr 0 0) [.box (bkA (b2 31 0 257 31 31)), .row 257 3 1 ((ordN 31).map natA)] := by
 refine acall_body Tryd.func95 rfl Tryd.ntmps95 (by simp) (fun hsc => ?_); simp only [Lf.enter, Nat.reduceAdd]; clear hsc
 have hU := True.intro
 repeat' (first | (guard_target =~ PWp _ _ _ _ _ _ _; first | (refine pwp_seq_k (fun K hK => ?_)) | (refine pwp_block ?_) | (refine pwp_rg_then ?_)) | (guard_target =~ rg _ _ _ _ _ _ _; first | (guard_target =~ rg _ _ _ [] _ _ _; first | (refine rg_end ?_)) | (refine rg_a rfl (h := ?_)) | (refine rg_v rfl (h := ?_)) | (refine rg_s rfl ?_)) | (guard_target =~ SOp _ _ _ _ _ _; first | (guard_target =~ SOp _ _ ⟨_, .box _ _, _, _, _, none⟩ _ _ _; first | (refine n_box rfl (hK := ?_))) | (guard_target =~ SOp _ _ ⟨_, .build _ _, _, _, _, none⟩ _ _ _; first | (refine n_build rfl (by first | exact bd168 | exact bd169 | exact bd171 | fail) (hK := ?_)))) | (refine hK _ _ ?_; clear hK K))
 refine pwp_loop_e [2, 8, 9, 10, 11, 12, 13, 14, 15, 16, 17, 18, 19, 20, 21, 22] (fun k : Nat => [(8, i64 k)]) (fun k => [.box (bkA (b1 k))]) (fun k => k ≤ 257) (fun k => 257 - k) 0 (Nat.zero_le _) ?_ (by with_unfolding_all rfl) ?_
 ·(refine ⟨⟨_, (by (try simp (disch := omega) only [go_sem, seval, ↓reduceIte, hU]) <;> rfl), ?_⟩, trivial⟩ <;> (try (first | exact ale_eq (by with_reducible rfl) | exact ale_full | exact ale_sl (fun _ => rfl) | exact ale_sl (by simp) | exact ale_junk | exact ale_eq rfl)))
 ·rintro k hk
  simp only [mask, List.map_cons, List.map_nil, List.cons_append, List.nil_append]
  by_cases hlt : k < 257
  ·have hsb := szI_bd (s := (k : Int)) (by omega) (by omega)
   obtain ⟨n, hn⟩ : ∃ n : Nat, szI (k : Int) = n := ⟨(szI (k : Int)).toNat, by omega⟩
   have hn31 : n < 31 := by omega
   have hcl : (cntL k)[n]? = some (cntN k n) := by unfold cntL; rw [List.getElem?_map, List.getElem?_range hn31]; rfl
   have hget : (bkA (b1 k))[290 + n * 1]? = some (i64 (cntN k n)) := by rw [Nat.mul_one]; exact bk_count_at (b1_wf k) hcl
   have hput : List.take (290 + n * 1) (bkA (b1 k)) ++ [i64 (cntN k n + 1)] ++ List.drop (290 + n * 1 + 1) (bkA (b1 k)) = bkA (b1 (k + 1)) := by
    rw [Nat.mul_one]
    refine (show _ = putCells (bkA (b1 k)) (290 + n) [nA (cntN k n + 1)] from rfl).trans ((bk_count (b1_wf k) hn31 (cntN k n + 1)).trans ?_)
    show bkA ⟨z257, .sl true false [], z31, (cntL k).set n (cntN k n + 1), z31⟩ = _
    rw [cntL_set k n hn31 hn]; rfl
   have hlen := bkA_len (b1_wf k)
   have hcb : 0 ≤ cntN k n ∧ cntN k n ≤ 257 := cntN_bd (by omega)
   have hle : (290 + n * 1 + 1 ≤ 352) = True := by simp; omega
   have hle2 : (290 + n * 1 + (0 + 1) ≤ 352) = True := by simp; omega
   have hU := And.intro @hn ( And.intro @hget ( And.intro @hput ( And.intro @hlen ( And.intro @hle (@hle2)))))
   repeat' (first | (guard_target =~ PWp _ _ _ _ _ _ _; first | (refine pwp_draw_ord_end (id := 5) [0, 1, 2, 3, 4, 5, 6, 7, 8, 9, 10, 11] [11] mixed (by kernel_rfl) (by kernel_rfl) ?_) | (refine pwp_seq_k (fun K hK => ?_)) | (refine pwp_block ?_) | (refine pwp_rg_then ?_) | (refine pwp_skip ?_) | ((refine pwp_cond_d (fun hcd => ?_) (fun hcd => ?_)) <;> (try simp only [hcP] at hcd) <;> (try (exfalso; first | omega | exact absurd hcd (by assumption) | exact absurd (by assumption) hcd)))) | (guard_target =~ rg _ _ _ _ _ _ _; first | (guard_target =~ rg _ _ _ [] _ _ _; first | (refine rg_end ?_)) | (refine rg_a rfl (h := ?_)) | (refine rg_v rfl (h := ?_))) | (guard_target =~ dw _ _ _ _ _ _ _ _ _ _; first | ((first | guard_target =~ dw _ _ _ _ _ (0 :: _) _ _ _ _ | guard_target =~ dw _ _ _ _ _ (1 :: _) _ _ _ _ | guard_target =~ dw _ _ _ _ _ (2 :: _) _ _ _ _); first | (refine dw_p rfl rfl (h := (fun τ => ro_v rfl (h := ro_end ⟨rfl, rfl⟩))) (hk := ?_)) | (refine dw_c rfl rfl (h := ro_v rfl (h := ro_end ⟨rfl, rfl⟩)) (hk := ?_))) | (guard_target =~ dw _ _ _ _ _ (2 :: _) _ _ _ _; first | (refine dw_p rfl rfl (h := (fun τ => ro_s (h := n_call (f := 121) rfl Tryd.call121 (h := AEq.pure' (by first | ((repeat' (first | exact trivial | (first | exact arg_lit | exact arg_sl id id | exact arg_nil | exact arg_sl (by simp) id | exact arg_sl (by simp) (fun _ => rfl) | exact arg_row_m (by rfl) (by rfl) (fun _ => rfl) | exact arg_vw_m (by rfl) (by rfl) (fun _ => rfl) | exact arg_rn (by rfl) (by rfl) | exact arg_junk | exact arg_row_mm (by rfl) (by rfl) (fun _ => rfl)) | refine ⟨?_, ?_⟩)); done) | fail) (csize _ (by omega) (by omega)) (hq := ro_end ⟨rfl, rfl⟩))))) (hk := ?_))) | ((first | guard_target =~ dw _ _ _ _ _ (3 :: _) _ _ _ _ | guard_target =~ dw _ _ _ _ _ (7 :: _) _ _ _ _ | guard_target =~ dw _ _ _ _ _ (8 :: _) _ _ _ _); first | (refine dw_p rfl rfl (h := (fun τ => ro_v rfl (h := ro_end ⟨rfl, rfl⟩))) (hk := ?_)) | (refine dw_c rfl rfl (h := ro_v rfl (h := ro_end ⟨rfl, rfl⟩)) (hk := ?_))) | ((first | guard_target =~ dw _ _ _ _ _ (4 :: _) _ _ _ _ | guard_target =~ dw _ _ _ _ _ (8 :: _) _ _ _ _ | guard_target =~ dw _ _ _ _ _ (9 :: _) _ _ _ _); first | (refine dw_p rfl rfl (h := (fun τ => ro_v rfl (h := ro_end ⟨rfl, rfl⟩))) (hk := ?_)) | (refine dw_c rfl rfl (h := ro_v rfl (h := ro_end ⟨rfl, rfl⟩)) (hk := ?_))) | ((first | guard_target =~ dw _ _ _ _ _ (5 :: _) _ _ _ _ | guard_target =~ dw _ _ _ _ _ (9 :: _) _ _ _ _ | guard_target =~ dw _ _ _ _ _ (10 :: _) _ _ _ _); first | (refine dw_c rfl rfl (h := ro_s (h := n_index_arr rfl (hK := ro_end ⟨rfl, rfl⟩))) (hk := ?_))) | ((first | guard_target =~ dw _ _ _ _ _ (5 :: _) _ _ _ _ | guard_target =~ dw _ _ _ _ _ (6 :: _) _ _ _ _); first | (refine dw_p rfl rfl (h := (fun τ => ro_v rfl (h := ro_end ⟨rfl, rfl⟩))) (hk := ?_)) | (refine dw_c rfl rfl (h := ro_v rfl (h := ro_end ⟨rfl, rfl⟩)) (hk := ?_))) | (guard_target =~ dw _ _ _ _ _ (7 :: _) _ _ _ _; first | (refine dw_p rfl rfl (h := (fun τ => ro_v rfl (h := ro_end ⟨rfl, rfl⟩))) (hk := ?_)) | (refine dw_c rfl rfl (h := ro_v rfl (h := ro_end ⟨rfl, rfl⟩)) (hk := ?_))) | ((first | guard_target =~ dw _ _ _ _ _ (10 :: _) _ _ _ _ | guard_target =~ dw _ _ _ _ _ (11 :: _) _ _ _ _); first | (refine dw_wn rfl rfl (h := ro_n (h := n_store rfl (hK := ro_end ⟨rfl, rfl⟩))) (hk := ?_))) | (guard_target =~ dw _ _ _ _ _ (6 :: _) _ _ _ _; first | (refine dw_p rfl rfl (h := (fun τ => ro_v rfl (h := ro_end ⟨rfl, rfl⟩))) (hk := ?_)) | (refine dw_c rfl rfl (h := ro_v rfl (h := ro_end ⟨rfl, rfl⟩)) (hk := ?_))) | (guard_target =~ dw _ _ _ _ _ [] _ _ _ _; first | (refine dw_nil ?_))) | (refine hK _ _ ?_; clear hK K))
   refine ⟨k + 1, by omega, by omega, ?_, (by repeat' (first | exact agr_refl | refine agr_cons (by rfl) ?_)), (by first | rfl | (simp (disch := omega) only [go_sem, seval, ↓reduceIte, hU]; done) | (simp (disch := omega) only [go_sem, seval, ↓reduceIte, hU]; rfl))⟩
   (refine ⟨⟨_, (by (try simp (disch := omega) only [go_sem, seval, ↓reduceIte, hU]) <;> rfl), ?_⟩, trivial⟩ <;> (try (first | exact ale_eq (by with_reducible rfl) | exact ale_full | exact ale_sl (fun _ => rfl) | exact ale_sl (by simp) | exact ale_junk | exact ale_eq rfl)))
  ·have hk7 : k = 257 := by omega
   subst hk7
   repeat' (first | (guard_target =~ PWp _ _ _ _ _ _ _; first | (refine pwp_seq_k (fun K hK => ?_)) | (refine pwp_block ?_) | (refine pwp_rg_then ?_) | (refine pwp_exit ?_) | ((refine pwp_cond_d (fun hcd => ?_) (fun hcd => ?_)) <;> (try simp only [hcP] at hcd) <;> (try (exfalso; first | omega | exact absurd hcd (by assumption) | exact absurd (by assumption) hcd)))) | (guard_target =~ rg _ _ _ _ _ _ _; first | (guard_target =~ rg _ _ _ [] _ _ _; first | (refine rg_end ?_)) | (refine rg_a rfl (h := ?_)) | (refine rg_v rfl (h := ?_))) | (refine hK _ _ ?_; clear hK K) | (apply_assumption (exfalso := false) (symm := false)))
   refine pwp_rowc (σ2 := [.box (bkA (b2 1 0 0 1 1)), .row 0 3 1 ((ordN 1).map natA)]) 0 258 3 1 (by decide) rfl (bk_o_at (b1_wf 257)) ?_ ?_
   ·show [Ob.box ((bkA (b1 257)).set 258 (.row 1 0)), Ob.row 0 3 1 []] = _
    rw [bk_set_o (b1_wf 257), ordN_one]
    unfold b2 b1
    rw [codesL_one, firstL_one, baseL_one]
    rfl
   refine pwp_loop_e [3, 4, 5, 23, 24, 25, 26, 27, 28, 29, 30, 31, 32, 33, 34, 35, 36, 37, 38, 39, 40, 41, 42, 43, 44, 45, 46, 47, 48, 49, 50, 51, 52, 53, 54, 55, 56, 57, 58, 59, 60, 61, 62, 63, 64, 65, 66, 67, 68, 69, 70] (fun n : Nat => [(4, i64 n), (3, i64 (codeN n))]) (fun n => [.box (bkA (b2 n 0 (ordN n).length n n)), .row (ordN n).length 3 1 ((ordN n).map natA)]) (fun n => 1 ≤ n ∧ n ≤ 31) (fun n => 31 - n) 1 ⟨by decide, by decide⟩ ?_ (by rw [ordN_one]; rfl) ?_
   ·(refine ⟨⟨_, (by (try simp (disch := omega) only [go_sem, seval, ↓reduceIte, hU]) <;> rfl), ?_⟩, ⟨_, (by (try simp (disch := omega) only [go_sem, seval, ↓reduceIte, hU]) <;> rfl), ?_⟩, trivial⟩ <;> (try (first | exact ale_eq (by with_reducible rfl) | exact ale_full | exact ale_sl (fun _ => rfl) | exact ale_sl (by simp) | exact ale_junk | exact ale_eq rfl)))
    all_goals exact ale_i codeN_one.symm
   ·rintro n ⟨h1, h31⟩
    simp only [mask, List.map_cons, List.map_nil, List.cons_append, List.nil_append]
    by_cases hlt2 : n < 31
    ·have hcb := codeN_bd ⟨n, by omega⟩
     have hcb2 := codeN_bd ⟨n + 1, by omega⟩
     have hol := ordN_len ⟨n, by omega⟩
     dsimp only at hcb hcb2 hol
     have hlen := bkA_len (b2_wf n 0 (ordN n).length n n)
     have hlen1 := bkA_len (b2_wf n 0 (ordN n).length (n + 1) n)
     have hfst : List.take (259 + n * 1) (bkA (b2 n 0 (ordN n).length n n)) ++ [i64 (codeN n * 2)] ++ List.drop (259 + n * 1 + 1) (bkA (b2 n 0 (ordN n).length n n)) = bkA (b2 n 0 (ordN n).length (n + 1) n) := by
      rw [Nat.mul_one]
      refine (show _ = putCells (bkA (b2 n 0 (ordN n).length n n)) (259 + n) [nA (codeN n * 2)] from rfl).trans ((bk_first (b2_wf n 0 (ordN n).length n n) hlt2 (codeN n * 2)).trans ?_)
      show bkA ⟨codesL n 0, .row 1 (ordN n).length, (firstL n).set n (codeN n * 2), cntL 257, baseL n⟩ = _
      rw [firstL_set h1 hlt2]; rfl
     have hbse : List.take (321 + n * 1) (bkA (b2 n 0 (ordN n).length (n + 1) n)) ++ [i64 ((ordN n).length : Int)] ++ List.drop (321 + n * 1 + 1) (bkA (b2 n 0 (ordN n).length (n + 1) n)) = bkA (b2 n 0 (ordN n).length (n + 1) (n + 1)) := by
      rw [Nat.mul_one]
      refine (show _ = putCells (bkA (b2 n 0 (ordN n).length (n + 1) n)) (321 + n) [nA ((ordN n).length : Int)] from rfl).trans ((bk_base (b2_wf n 0 (ordN n).length (n + 1) n) hlt2 ((ordN n).length : Int)).trans ?_)
      show bkA ⟨codesL n 0, .row 1 (ordN n).length, firstL (n + 1), cntL 257, (baseL n).set n ((ordN n).length : Int)⟩ = _
      rw [baseL_set h1 hlt2]; rfl
     have hor := bk_o_at (b2_wf n 0 (ordN n).length (n + 1) n)
     have hor1 : (bkA (b2 n 0 (ordN n).length (n + 1) n))[258]? = some (.row 1 (ordN n).length) := hor
     have hle1 : (259 + n * 1 + 1 ≤ 352) = True := by simp; omega
     have hle2 : (259 + n * 1 + (0 + 1) ≤ 352) = True := by simp; omega
     have hle3 : (321 + n * 1 + 1 ≤ 352) = True := by simp; omega
     have hle4 : (321 + n * 1 + (0 + 1) ≤ 352) = True := by simp; omega
     have hU := And.intro @hlen ( And.intro @hlen1 ( And.intro @hfst ( And.intro @hbse ( And.intro @hor1 ( And.intro @hle1 ( And.intro @hle2 ( And.intro @hle3 (@hle4))))))))
     repeat' (first | (guard_target =~ PWp _ _ _ _ _ _ _; first | (refine pwp_draw_ord (id := 13) [0, 1, 2, 3, 4, 5, 6, 7, 8, 9, 10] [10] mixed (by kernel_rfl) (by kernel_rfl) ?_) | (refine pwp_seq_k (fun K hK => ?_)) | (refine pwp_block ?_) | (refine pwp_rg_then ?_) | (refine pwp_skip ?_) | ((refine pwp_cond_d (fun hcd => ?_) (fun hcd => ?_)) <;> (try simp only [hcP] at hcd) <;> (try (exfalso; first | omega | exact absurd hcd (by assumption) | exact absurd (by assumption) hcd)))) | (guard_target =~ rg _ _ _ _ _ _ _; first | (guard_target =~ rg _ _ _ [] _ _ _; first | (refine rg_end ?_)) | (refine rg_a rfl (h := ?_)) | (refine rg_v rfl (h := ?_)) | (refine rg_s rfl ?_) | (refine rg_n rfl ?_)) | (guard_target =~ SOp _ _ _ _ _ _; first | (guard_target =~ SOp _ _ ⟨_, .indexAddr _ _ _, _, _, _, none⟩ _ _ _; first | (refine n_index_arr rfl (hK := ?_))) | (guard_target =~ SOp _ _ ⟨_, .store _ _ _, _, _, _, none⟩ _ _ _; first | (refine n_store rfl (hK := ?_)))) | (guard_target =~ dw _ _ _ _ _ _ _ _ _ _; first | ((first | guard_target =~ dw _ _ _ _ _ (0 :: _) _ _ _ _ | guard_target =~ dw _ _ _ _ _ (1 :: _) _ _ _ _ | guard_target =~ dw _ _ _ _ _ (2 :: _) _ _ _ _); first | (refine dw_p rfl rfl (h := (fun τ => ro_v rfl (h := ro_end ⟨rfl, rfl⟩))) (hk := ?_)) | (refine dw_c rfl rfl (h := ro_v rfl (h := ro_end ⟨rfl, rfl⟩)) (hk := ?_))) | ((first | guard_target =~ dw _ _ _ _ _ (3 :: _) _ _ _ _ | guard_target =~ dw _ _ _ _ _ (7 :: _) _ _ _ _ | guard_target =~ dw _ _ _ _ _ (8 :: _) _ _ _ _); first | (refine dw_p rfl rfl (h := (fun τ => ro_v rfl (h := ro_end ⟨rfl, rfl⟩))) (hk := ?_)) | (refine dw_c rfl rfl (h := ro_v rfl (h := ro_end ⟨rfl, rfl⟩)) (hk := ?_))) | ((first | guard_target =~ dw _ _ _ _ _ (4 :: _) _ _ _ _ | guard_target =~ dw _ _ _ _ _ (8 :: _) _ _ _ _ | guard_target =~ dw _ _ _ _ _ (9 :: _) _ _ _ _); first | (refine dw_p rfl rfl (h := (fun τ => ro_v rfl (h := ro_end ⟨rfl, rfl⟩))) (hk := ?_)) | (refine dw_c rfl rfl (h := ro_v rfl (h := ro_end ⟨rfl, rfl⟩)) (hk := ?_))) | ((first | guard_target =~ dw _ _ _ _ _ (5 :: _) _ _ _ _ | guard_target =~ dw _ _ _ _ _ (9 :: _) _ _ _ _ | guard_target =~ dw _ _ _ _ _ (10 :: _) _ _ _ _); first | (refine dw_c rfl rfl (h := ro_s (h := n_index_arr rfl (hK := ro_end ⟨rfl, rfl⟩))) (hk := ?_))) | ((first | guard_target =~ dw _ _ _ _ _ (5 :: _) _ _ _ _ | guard_target =~ dw _ _ _ _ _ (6 :: _) _ _ _ _); first | (refine dw_p rfl rfl (h := (fun τ => ro_v rfl (h := ro_end ⟨rfl, rfl⟩))) (hk := ?_)) | (refine dw_c rfl rfl (h := ro_v rfl (h := ro_end ⟨rfl, rfl⟩)) (hk := ?_))) | (guard_target =~ dw _ _ _ _ _ (7 :: _) _ _ _ _; first | (refine dw_p rfl rfl (h := (fun τ => ro_v rfl (h := ro_end ⟨rfl, rfl⟩))) (hk := ?_)) | (refine dw_c rfl rfl (h := ro_v rfl (h := ro_end ⟨rfl, rfl⟩)) (hk := ?_))) | ((first | guard_target =~ dw _ _ _ _ _ (10 :: _) _ _ _ _ | guard_target =~ dw _ _ _ _ _ (11 :: _) _ _ _ _); first | (refine dw_wn rfl rfl (h := ro_n (h := n_store rfl (hK := ro_end ⟨rfl, rfl⟩))) (hk := ?_))) | (guard_target =~ dw _ _ _ _ _ (6 :: _) _ _ _ _; first | (refine dw_p rfl rfl (h := (fun τ => ro_v rfl (h := ro_end ⟨rfl, rfl⟩))) (hk := ?_)) | (refine dw_c rfl rfl (h := ro_v rfl (h := ro_end ⟨rfl, rfl⟩)) (hk := ?_))) | (guard_target =~ dw _ _ _ _ _ [] _ _ _ _; first | (refine dw_nil ?_))) | (refine hK _ _ ?_; clear hK K))
     refine pwp_loop_e [3, 5, 45, 46, 47, 48, 49, 50, 51, 52, 53, 54, 55, 56, 57, 58, 59, 60, 61, 62, 63, 64, 65, 66, 67, 68, 69, 70] (fun k : Nat => [(45, i64 k), (3, i64 (codeN n * 2 + cntN k n))]) (fun k => [.box (bkA (b2 n k ((ordN n).length + (symK n k).length) (n + 1) (n + 1))), .row ((ordN n).length + (symK n k).length) 3 1 ((ordN n ++ symK n k).map natA)]) (fun k => k ≤ 257) (fun k => 257 - k) 0 (Nat.zero_le _) ?_ (by rw [symK_0, List.append_nil]; rfl) ?_
     ·(refine ⟨⟨_, (by (try simp (disch := omega) only [go_sem, seval, ↓reduceIte, hU]) <;> rfl), ?_⟩, ⟨_, (by (try simp (disch := omega) only [go_sem, seval, ↓reduceIte, hU]) <;> rfl), ?_⟩, trivial⟩ <;> (try (first | exact ale_eq (by with_reducible rfl) | exact ale_full | exact ale_sl (fun _ => rfl) | exact ale_sl (by simp) | exact ale_junk | exact ale_eq rfl)))
      all_goals exact ale_i (by rw [cntN_0, Int.add_zero])
     ·rintro k hk
      simp only [mask, List.map_cons, List.map_nil, List.cons_append, List.nil_append]
      by_cases hlt3 : k < 257
      ·have hsb := szI_bd (s := (k : Int)) (by omega) (by omega)
       have hsl := symK_le n k
       have hck := cntN_le (k := k) (n := n) (by omega)
       by_cases hsz : szI (k : Int) = (n : Int)
       ·obtain ⟨st, hst⟩ : ∃ st, (ordN n).length + (symK n k).length = st := ⟨_, rfl⟩
        rw [hst]
        have hlenk := bkA_len (b2_wf n k st (n + 1) (n + 1))
        have hlenk1 := bkA_len (b2_wf n k (st + 1) (n + 1) (n + 1))
        have hork : (bkA (b2 n k st (n + 1) (n + 1)))[258]? = some (.row 1 st) := bk_o_at (b2_wf n k st (n + 1) (n + 1))
        have hap : List.map natA (ordN n ++ symK n k) ++ [[AV.lit (.int .i64 (k : Int))]] = List.map natA (ordN n ++ symK n (k + 1)) := by
         rw [symK_succ, if_pos hsz, ← List.append_assoc, List.map_append (l₁ := ordN n ++ symK n k)]; rfl
        have hpo : List.take 258 (bkA (b2 n k st (n + 1) (n + 1))) ++ [.row 1 (st + 1)] ++ List.drop 259 (bkA (b2 n k st (n + 1) (n + 1))) = bkA (b2 n k (st + 1) (n + 1) (n + 1)) :=
         (show _ = putCells (bkA (b2 n k st (n + 1) (n + 1))) 258 [.row 1 (st + 1)] from rfl).trans (bk_o (b2_wf n k st (n + 1) (n + 1)) (.row 1 (st + 1)))
        have hpc : List.take (1 + k * 1) (bkA (b2 n k (st + 1) (n + 1) (n + 1))) ++ [i64 (codeN n * 2 + cntN k n)] ++ List.drop (1 + k * 1 + 1) (bkA (b2 n k (st + 1) (n + 1) (n + 1))) = bkA (b2 n (k + 1) (st + 1) (n + 1) (n + 1)) := by
         rw [Nat.mul_one]
         refine (show _ = putCells (bkA (b2 n k (st + 1) (n + 1) (n + 1))) (1 + k) [nA (codeN n * 2 + cntN k n)] from rfl).trans ((bk_codes (b2_wf n k (st + 1) (n + 1) (n + 1)) hlt3 (codeN n * 2 + cntN k n)).trans ?_)
         show bkA ⟨(codesL n k).set k (codeN n * 2 + cntN k n), .row 1 (st + 1), firstL (n + 1), cntL 257, baseL (n + 1)⟩ = _
         rw [codesL_set hlt3 hsz]; rfl
        have hlk1 : (1 + k * 1 + 1 ≤ 352) = True := by simp; omega
        have hlk2 : (1 + k * 1 + (0 + 1) ≤ 352) = True := by simp; omega
        have hol2 : (ordN n ++ symK n k).length = st := by rw [List.length_append]; exact hst
        have hU := And.intro @hsz ( And.intro @hlenk ( And.intro @hlenk1 ( And.intro @hork ( And.intro @hap ( And.intro @hpo ( And.intro @hpc ( And.intro @hlk1 (@hlk2))))))))
        repeat' (first | (guard_target =~ PWp _ _ _ _ _ _ _; first | (refine pwp_seq_k (fun K hK => ?_)) | (refine pwp_block ?_) | (refine pwp_rg_then ?_) | (refine pwp_rg ?_) | (refine pwp_skip ?_) | ((refine pwp_cond_d (fun hcd => ?_) (fun hcd => ?_)) <;> (try simp only [hcP] at hcd) <;> (try (exfalso; first | omega | exact absurd hcd (by assumption) | exact absurd (by assumption) hcd)))) | (guard_target =~ rg _ _ _ _ _ _ _; first | (guard_target =~ rg _ _ _ [] _ _ _; first | (refine rg_end ?_)) | (refine rg_a rfl (h := ?_)) | (refine rg_v rfl (h := ?_)) | (refine rg_s rfl ?_) | (refine rg_n rfl ?_)) | (guard_target =~ SOp _ _ _ _ _ _; first | (guard_target =~ SOp _ _ ⟨_, .indexAddr _ _ _, _, _, _, none⟩ _ _ _; first | (refine n_index_arr rfl (hK := ?_))) | (guard_target =~ SOp _ _ ⟨_, .store _ _ _, _, _, _, none⟩ _ _ _; first | (refine n_store rfl (hK := ?_))) | (guard_target =~ SOp _ _ ⟨_, .call ⟨.value (.func 121), _, _⟩, _, _, _, none⟩ _ _ _; first | (refine n_call (f := 121) rfl Tryd.call121 (h := AEq.pure' (by first | ((repeat' (first | exact trivial | (first | exact arg_lit | exact arg_sl id id | exact arg_nil | exact arg_sl (by simp) id | exact arg_sl (by simp) (fun _ => rfl) | exact arg_row_m (by rfl) (by rfl) (fun _ => rfl) | exact arg_vw_m (by rfl) (by rfl) (fun _ => rfl) | exact arg_rn (by rfl) (by rfl) | exact arg_junk | exact arg_row_mm (by rfl) (by rfl) (fun _ => rfl)) | refine ⟨?_, ?_⟩)); done) | fail) (csize _ (by omega) (by omega)) (hq := ?_)))) | (guard_target =~ SOp _ _ ⟨_, .call ⟨.builtin .append, _, _⟩, _, _, _, none⟩ _ _ _; first | (refine n_append_row rfl (he := by first | exact eo3 | exact eo4 | exact eo53 | exact eo148 | exact eo168 | exact eo169 | exact eo171 | fail) (hK := ?_))) | (guard_target =~ SOp _ _ ⟨_, .buildSlice _ _ _, _, _, _, none⟩ _ _ _; first | (refine n_lit rfl (he := by first | exact eo3 | exact eo4 | exact eo53 | exact eo148 | exact eo168 | exact eo169 | exact eo171 | fail) (hK := ?_)))) | (refine hK _ _ ?_; clear hK K))
        refine ⟨k + 1, by omega, by omega, ?_, (by repeat' (first | exact agr_refl | refine agr_cons (by rfl) ?_)), ?_⟩
        ·(refine ⟨⟨_, (by (try simp (disch := omega) only [go_sem, seval, ↓reduceIte, hU]) <;> rfl), ?_⟩, ⟨_, (by (try simp (disch := omega) only [go_sem, seval, ↓reduceIte, hU]) <;> rfl), ?_⟩, trivial⟩ <;> (try (first | exact ale_eq (by with_reducible rfl) | exact ale_full | exact ale_sl (fun _ => rfl) | exact ale_sl (by simp) | exact ale_junk | exact ale_eq rfl)))
         all_goals exact ale_i (by rw [cntN_succ, if_pos hsz, Int.add_assoc])
        ·rw [symK_succ, if_pos hsz, List.length_append, ← Nat.add_assoc, hst]
         simp only [hap, hpo, hpc, go_sem]
       ·have hbn : ∀ st : Nat, b2 n (k + 1) st (n + 1) (n + 1) = b2 n k st (n + 1) (n + 1) := fun st => by unfold b2; rw [codesL_not hsz]
        have hU := True.intro
        repeat' (first | (guard_target =~ PWp _ _ _ _ _ _ _; first | (refine pwp_seq_k (fun K hK => ?_)) | (refine pwp_block ?_) | (refine pwp_rg_then ?_) | (refine pwp_skip ?_) | ((refine pwp_cond_d (fun hcd => ?_) (fun hcd => ?_)) <;> (try simp only [hcP] at hcd) <;> (try (exfalso; first | omega | exact absurd hcd (by assumption) | exact absurd (by assumption) hcd)))) | (guard_target =~ rg _ _ _ _ _ _ _; first | (guard_target =~ rg _ _ _ [] _ _ _; first | (refine rg_end ?_)) | (refine rg_a rfl (h := ?_)) | (refine rg_v rfl (h := ?_)) | (refine rg_s rfl ?_)) | (guard_target =~ SOp _ _ _ _ _ _; first | (guard_target =~ SOp _ _ ⟨_, .call ⟨.value (.func 121), _, _⟩, _, _, _, none⟩ _ _ _; first | (refine n_call (f := 121) rfl Tryd.call121 (h := AEq.pure' (by first | ((repeat' (first | exact trivial | (first | exact arg_lit | exact arg_sl id id | exact arg_nil | exact arg_sl (by simp) id | exact arg_sl (by simp) (fun _ => rfl) | exact arg_row_m (by rfl) (by rfl) (fun _ => rfl) | exact arg_vw_m (by rfl) (by rfl) (fun _ => rfl) | exact arg_rn (by rfl) (by rfl) | exact arg_junk | exact arg_row_mm (by rfl) (by rfl) (fun _ => rfl)) | refine ⟨?_, ?_⟩)); done) | fail) (csize _ (by omega) (by omega)) (hq := ?_))))) | (refine hK _ _ ?_; clear hK K))
        refine ⟨k + 1, by omega, by omega, ?_, (by repeat' (first | exact agr_refl | refine agr_cons (by rfl) ?_)), ?_⟩
        ·(refine ⟨⟨_, (by (try simp (disch := omega) only [go_sem, seval, ↓reduceIte, hU]) <;> rfl), ?_⟩, ⟨_, (by (try simp (disch := omega) only [go_sem, seval, ↓reduceIte, hU]) <;> rfl), ?_⟩, trivial⟩ <;> (try (first | exact ale_eq (by with_reducible rfl) | exact ale_full | exact ale_sl (fun _ => rfl) | exact ale_sl (by simp) | exact ale_junk | exact ale_eq rfl)))
         all_goals exact ale_i (by rw [cntN_succ, if_neg hsz, Int.add_zero])
        ·rw [symK_succ, if_neg hsz, List.append_nil, hbn]
      ·have hk7 : k = 257 := by omega
       subst hk7
       have hU := True.intro
       repeat' (first | (guard_target =~ PWp _ _ _ _ _ _ _; first | (refine pwp_seq_k (fun K hK => ?_)) | (refine pwp_rg_then ?_) | (refine pwp_exit ?_) | ((refine pwp_cond_d (fun hcd => ?_) (fun hcd => ?_)) <;> (try simp only [hcP] at hcd) <;> (try (exfalso; first | omega | exact absurd hcd (by assumption) | exact absurd (by assumption) hcd)))) | (guard_target =~ rg _ _ _ _ _ _ _; first | (guard_target =~ rg _ _ _ [] _ _ _; first | (refine rg_end ?_)) | (refine rg_a rfl (h := ?_)) | (refine rg_v rfl (h := ?_))) | (refine hK _ _ ?_; clear hK K) | (apply_assumption (exfalso := false) (symm := false)))
       refine ⟨n + 1, ⟨by omega, by omega⟩, by omega, ?_, (by repeat' (first | exact agr_refl | refine agr_cons (by rfl) ?_)), ?_⟩
       ·(refine ⟨⟨_, (by (try simp (disch := omega) only [go_sem, seval, ↓reduceIte, hU]) <;> rfl), ?_⟩, ⟨_, (by (try simp (disch := omega) only [go_sem, seval, ↓reduceIte, hU]) <;> rfl), ?_⟩, trivial⟩ <;> (try (first | exact ale_eq (by with_reducible rfl) | exact ale_full | exact ale_sl (fun _ => rfl) | exact ale_sl (by simp) | exact ale_junk | exact ale_eq rfl)))
        all_goals exact ale_i (codeN_succ n).symm
       ·have hb3 : ∀ st : Nat, b2 (n + 1) 0 st (n + 1) (n + 1) = b2 n 257 st (n + 1) (n + 1) := fun st => by unfold b2; rw [codesL_next]
        rw [ordN_succ, List.length_append, hb3]
    ·have hn31 : n = 31 := by omega
     subst hn31
     have hol31 := ordN_31
     have hU := @hol31
     repeat' (first | (guard_target =~ PWp _ _ _ _ _ _ _; first | (refine pwp_seq_k (fun K hK => ?_)) | (refine pwp_rg_then ?_) | (refine pwp_ret ?_) | (refine pwp_exit ?_) | ((refine pwp_cond_d (fun hcd => ?_) (fun hcd => ?_)) <;> (try simp only [hcP] at hcd) <;> (try (exfalso; first | omega | exact absurd hcd (by assumption) | exact absurd (by assumption) hcd)))) | (guard_target =~ rg _ _ _ _ _ _ _; first | (guard_target =~ rg _ _ _ [] _ _ _; first | (refine rg_end ?_)) | (refine rg_a rfl (h := ?_)) | (refine rg_v rfl (h := ?_))) | (guard_target =~ (_ ∨ _) ∧ _; first | ((refine end_d [0, 1] (by rw [Tryd.results95, Lf.res1]) (ale_1 ?_) ?_) <;> (try (first | exact ale_eq (by with_reducible rfl) | exact ale_full | exact ale_sl (fun _ => rfl) | exact ale_sl (by simp) | exact ale_junk | exact ale_eq rfl | exact stq (by with_reducible rfl) | exact stq (by rfl) | exact stq (by simp (disch := omega) only [go_sem, seval, ↓reduceIte, hU]))))) | (refine hK _ _ ?_; clear hK K) | (apply_assumption (exfalso := false) (symm := false)))
end Go.Proofs.YtohbfcmmpaikhaaDoor

