import Derived.Test.YtohbfcmmpaikhaaDoorZ04
import Derived.Test.YtohbfcmmpaikhaaDoorLc
import Derived.Test.YtohbfcmmpaikhaaDoorTy
import Derived.ScopeJumps
import Derived.Lib.ConvBytes
set_option linter.unusedVariables false
set_option linter.unusedSimpArgs false
namespace Go.Proofs.YtohbfcmmpaikhaaDoor
open Go Go.Lf Go.Proofs
attribute [local irreducible] Lf.rg Lf.ro Lf.PWp Lf.SOp Lf.ACall Lf.Scoped Lf.dg Lf.dw
set_option maxRecDepth 20000
set_option maxHeartbeats 4000000
attribute [go_sem] nbl_bkB
@[go_sem] theorem rnl_bk0 : rnl (ix [] 0) bkB = bkB := by
 rw [rnl_all]
 unfold bkB bkA b2
 have h : ∀ l : List Int, (l.map nA).map (rn (ix [] 0)) = l.map nA := by
  intro l; rw [List.map_map]; exact List.map_congr_left (fun _ _ => rfl)
 simp only [List.map_cons, List.map_append, h]
 rfl
def encS (L : List Int) (x : UInt8) : List Int := rpL L (csI x.toNat) (szI (x.toNat : Int))
def encL (b : List UInt8) : List Int := b.foldl encS []
theorem encL_snoc (b : List UInt8) (x : UInt8) : encL (b ++ [x]) = encS (encL b) x := by unfold encL; rw [List.foldl_append]; rfl
theorem rpL_len (L : List Int) (v n : Int) : L.length ≤ (rpL L v n).length ∧ (rpL L v n).length ≤ L.length + 32 := by
 unfold rpL
 split
 ·rename_i h
  rw [List.length_append, msb_len]
  unfold rpE at h
  split at h
  ·cases h
  ·omega
 ·omega
theorem encL_len (b : List UInt8) : (encL b).length ≤ 32 * b.length := by
 have key : ∀ (b : List UInt8) (L : List Int), (b.foldl encS L).length ≤ L.length + 32 * b.length := by
  intro b
  induction b with
  | nil => intro L; simp
  | cons x b ih =>
   intro L
   have h1 := ih (encS L x)
   have h2 := (rpL_len L (csI x.toNat) (szI (x.toNat : Int))).2
   rw [List.foldl_cons, List.length_cons]
   unfold encS at h1 ⊢
   omega
 have := key b []
 unfold encL
 simpa using this
theorem ksnoc {b : List UInt8} {i : Nat} {x : UInt8} (h : b[i]? = some x) : encL (b.take (i + 1)) = encS (encL (b.take i)) x := by
 rw [take_snoc h]; exact encL_snoc _ _
def bitK (b : List UInt8) : Int := b.foldl (fun n x => n + szI (x.toNat : Int)) 0
theorem encL_0 : encL [] = [] := rfl
theorem rowB_0 : rowB [] = [] := rfl
attribute [local irreducible] bkB cntN ordB fstI bseI csI szI rpL rowB encL bitK
theorem hencode (f q : Bool) (b : List UInt8) (hb : b.length ≤ 100000) : AEq Tryd.prog 77 [.sl f q (b.map byteA)] [] (.sl false false ((rowB (encL b)).map byteA)) [] := by
 have hr0 := rnl_bk0
 refine acall_body Tryd.func77 rfl Tryd.ntmps77 (by simp) (fun hsc => ?_); simp only [Lf.enter, Nat.reduceAdd]; clear hsc
 have hU := @hr0
 repeat' (first | (guard_target =~ PWp _ _ _ _ _ _ _; first | (refine pwp_seq_k (fun K hK => ?_)) | (refine pwp_block ?_) | (refine pwp_rg_then ?_)) | (guard_target =~ rg _ _ _ _ _ _ _; first | (guard_target =~ rg _ _ _ [] _ _ _; first | (refine rg_end ?_)) | (refine rg_a rfl (h := ?_)) | (refine rg_v rfl (h := ?_)) | (refine rg_s rfl ?_)) | (guard_target =~ SOp _ _ _ _ _ _; first | (guard_target =~ SOp _ _ ⟨_, .call ⟨.value (.func 95), _, _⟩, _, _, _, none⟩ _ _ _; first | (refine n_call (f := 95) rfl Tryd.call95 (h := AEq.sub' [] (hc := cbook) (hq := ?_)))) | (guard_target =~ SOp _ _ ⟨_, .alloc _, _, _, _, none⟩ _ _ _; first | (refine n_alloc rfl (by first | exact zv3 | exact zv4 | exact zv5 | exact zv22 | exact zv28 | exact zv53 | exact zv148 | exact zv158 | exact zv168 | exact zv169 | exact zv171 | fail) (hK := ?_)))) | (refine hK _ _ ?_; clear hK K))
 refine pwp_rowc (σ2 := [.box bkB, .row 257 3 1 (ordB.map natA), .box [.row 3 0, i64 0], .row 0 5 1 []]) 2 0 5 1 (by decide) rfl rfl rfl ?_
 refine pwp_loop_e [6, 10, 11, 12, 13, 14, 15, 16, 17, 18, 19, 20, 21] (fun i : Nat => [(10, i64 i)]) (fun i => [.box bkB, .row 257 3 1 (ordB.map natA), .box [.row 3 (rowB (encL (b.take i))).length, i64 (encL (b.take i)).length], .row (rowB (encL (b.take i))).length 5 1 ((rowB (encL (b.take i))).map byteA)]) (fun i => i ≤ b.length) (fun i => b.length - i) 0 (Nat.zero_le _) ?_ (by rw [List.take_zero, encL_0, rowB_0]; rfl) ?_
 ·have hU := True.intro
  (refine ⟨⟨_, sT, ?_⟩, trivial⟩ <;> (try (first | exact aleT)))
 ·rintro i hi
  simp only [mask, List.map_cons, List.map_nil, List.cons_append, List.nil_append]
  by_cases hlt : i < b.length
  ·obtain ⟨x, hx⟩ := ex_at hlt
   have hbs : rpL (encL (b.take i)) (csI x.toNat) (szI (x.toNat : Int)) = encL (b.take (i + 1)) := (ksnoc hx).symm
   have hel := encL_len (b.take i)
   have htl : (b.take i).length = i := by rw [List.length_take]; omega
   have hxl := x.toNat_lt
   have hU := @hbs
   repeat' (first | (guard_target =~ PWp _ _ _ _ _ _ _; first | (refine pwp_seq_k (fun K hK => ?_)) | (refine pwp_block ?_) | (refine pwp_rg_then ?_) | (refine pwp_rg ?_) | (refine pwp_skip ?_) | ((refine pwp_cond_d (fun hcd => ?_) (fun hcd => ?_)) <;> (try simp only [hcP] at hcd) <;> (try exact cdT))) | (guard_target =~ rg _ _ _ _ _ _ _; first | (guard_target =~ rg _ _ _ [] _ _ _; first | (refine rg_end ?_)) | (refine rg_a rfl (h := ?_)) | (refine rg_x rfl (hy := rfl) (h := ?_)) | (refine rg_v rfl (h := ?_)) | (refine rg_s rfl ?_)) | (guard_target =~ SOp _ _ _ _ _ _; first | (guard_target =~ SOp _ _ ⟨_, .call ⟨.value (.func 104), _, _⟩, _, _, _, none⟩ _ _ _; first | (refine n_call (f := 104) rfl Tryd.call104 (h := AEq.sub' [0, 1] (by refine ⟨?_, ?_, trivial⟩ <;> (first | exact arg_lit | exact arg_rn (by rfl) (by rfl))) (by exact sub_bk _) (bcode _ (by omega)) (ho := by exact okP_bk) (hq := ?_)))) | (guard_target =~ SOp _ _ ⟨_, .call ⟨.value (.func 103), _, _⟩, _, _, _, none⟩ _ _ _; first | (refine n_call (f := 103) rfl Tryd.call103 (h := AEq.sub' [_, _] (hc := rw_put _ _ _ (by omega)) (hq := ?_)))) | (guard_target =~ SOp _ _ ⟨_, .indexAddr _ _ _, _, _, _, none⟩ _ _ _; first | (refine n_index rfl (hK := ?_)))) | (refine hK _ _ ?_; clear hK K))
   refine ⟨i + 1, by omega, by omega, ?_, (by repeat' (first | exact agr_refl | refine agr_cons (by rfl) ?_)), (by first | rfl | (simp (disch := omega) only [go_sem, seval, ↓reduceIte, hU]; done) | (simp (disch := omega) only [go_sem, seval, ↓reduceIte, hU]; rfl))⟩
   (refine ⟨⟨_, sT, ?_⟩, trivial⟩ <;> (try (first | exact aleT)))
  ·have hib : i = b.length := by omega
   subst hib
   have hel := encL_len b
   have hrl := rowB_len (encL b)
   have htk : b.take b.length = b := List.take_length
   rw [htk]
   have hU := True.intro
   repeat' (first | (guard_target =~ PWp _ _ _ _ _ _ _; first | (refine pwp_seq_k (fun K hK => ?_)) | (refine pwp_rg_then ?_) | (refine pwp_ret ?_) | (refine pwp_exit ?_) | ((refine pwp_cond_d (fun hcd => ?_) (fun hcd => ?_)) <;> (try simp only [hcP] at hcd) <;> (try exact cdT))) | (guard_target =~ rg _ _ _ _ _ _ _; first | (guard_target =~ rg _ _ _ [] _ _ _; first | (refine rg_end ?_)) | (refine rg_a rfl (h := ?_)) | (refine rg_v rfl (h := ?_)) | (refine rg_s rfl ?_)) | (guard_target =~ SOp _ _ _ _ _ _; first | (guard_target =~ SOp _ _ ⟨_, .call ⟨.value (.func 105), _, _⟩, _, _, _, none⟩ _ _ _; first | (refine n_call (f := 105) rfl Tryd.call105 (h := AEq.sub' [_, _] (hc := rw_bytes _ _ (by omega)) (hq := ?_))))) | (guard_target =~ (_ ∨ _) ∧ _; first | ((refine end_d [] (by rw [Tryd.results77, Lf.res1]) (ale_1 ?_) ?_) <;> (try (first | exact aleT | exact stq (by with_reducible rfl) | exact stq (by rfl) | exact stq (by simp (disch := omega) only [go_sem, seval, ↓reduceIte, hU]))))) | (refine hK _ _ ?_; clear hK K) | (apply_assumption (exfalso := false) (symm := false)))
end Go.Proofs.YtohbfcmmpaikhaaDoor

set_option linter.unusedVariables false
set_option linter.unusedSimpArgs false
namespace Go.Proofs.YtohbfcmmpaikhaaDoor
open Go Go.Lf Go.Proofs
attribute [local irreducible] Lf.rg Lf.ro Lf.PWp Lf.SOp Lf.ACall Lf.Scoped Lf.dg Lf.dw
set_option maxRecDepth 20000
set_option maxHeartbeats 4000000
end Go.Proofs.YtohbfcmmpaikhaaDoor

set_option linter.unusedVariables false
set_option linter.unusedSimpArgs false
namespace Go.Proofs.YtohbfcmmpaikhaaDoor
open Go Go.Lf Go.Proofs
attribute [local irreducible] Lf.rg Lf.ro Lf.PWp Lf.SOp Lf.ACall Lf.Scoped Lf.dg
set_option maxRecDepth 20000
set_option maxHeartbeats 4000000
end Go.Proofs.YtohbfcmmpaikhaaDoor

set_option linter.unusedVariables false
set_option linter.unusedSimpArgs false
namespace Go.Proofs.YtohbfcmmpaikhaaDoor
open Go Go.Lf Go.Proofs
attribute [local irreducible] Lf.rg Lf.ro Lf.PWp Lf.SOp Lf.ACall Lf.Scoped Lf.dg
set_option maxRecDepth 20000
set_option maxHeartbeats 4000000
structure Way (c : Int) (n : Nat) : Prop where
 l : codeN (n + 1) ≤ c
 u : c < 2 ^ n
 n : n ≤ 29
 z : 0 ≤ c
def huM : List Int → Int → Nat → List UInt8 → List UInt8 × Int
 | [], c, n, o => if 7 < n ∨ c ≠ 2 ^ n - 1 then ([], 10) else (o, 0)
 | x :: l, c, n, o => if findY (2 * c + x) ((n : Int) + 1) = true then (if findS (2 * c + x) ((n : Int) + 1) = 256 then ([], 11) else huM l 0 0 (o ++ [UInt8.ofNat (findS (2 * c + x) ((n : Int) + 1)).toNat])) else huM l (2 * c + x) (n + 1) o
end Go.Proofs.YtohbfcmmpaikhaaDoor

set_option linter.unusedVariables false
set_option linter.unusedSimpArgs false
namespace Go.Proofs.YtohbfcmmpaikhaaDoor
open Go Go.Lf Go.Proofs
attribute [local irreducible] Lf.rg Lf.ro Lf.PWp Lf.SOp Lf.ACall Lf.Scoped Lf.dg Lf.dw
set_option maxRecDepth 20000
set_option maxHeartbeats 4000000
structure HS where
 (k : Fin 3) (a : Nat) (c : Int) (n : Nat) (o : List UInt8)
def HOk (b : List UInt8) (d : List UInt8) (e : Int) (q : HS) : Prop :=
 q.a ≤ 8 * b.length ∧ q.o.length ≤ q.a ∧ (q.k = 0 → huM ((bitsL b).drop q.a) 0 0 q.o = (d, e)) ∧ (q.k = 1 → Way q.c q.n ∧ huM ((bitsL b).drop q.a) q.c q.n q.o = (d, e)) ∧ (q.k = 2 → Way q.c q.n ∧ huM [] q.c q.n q.o = (d, e))
theorem hok1 {b d : List UInt8} {e : Int} {a n : Nat} {c : Int} {o : List UInt8} (h1 : a ≤ 8 * b.length) (h2 : o.length ≤ a) (hw : Way c n) (h3 : huM ((bitsL b).drop a) c n o = (d, e)) : HOk b d e ⟨1, a, c, n, o⟩ :=
 ⟨h1, h2, fun h => absurd (show (1 : Fin 3) = 0 from h) (by decide), fun _ => ⟨hw, h3⟩, fun h => absurd (show (1 : Fin 3) = 2 from h) (by decide)⟩
theorem hok2 {b d : List UInt8} {e : Int} {a n : Nat} {c : Int} {o : List UInt8} (h1 : a ≤ 8 * b.length) (h2 : o.length ≤ a) (hw : Way c n) (h3 : huM [] c n o = (d, e)) : HOk b d e ⟨2, a, c, n, o⟩ :=
 ⟨h1, h2, fun h => absurd (show (2 : Fin 3) = 0 from h) (by decide), fun h => absurd (show (2 : Fin 3) = 1 from h) (by decide), fun _ => ⟨hw, h3⟩⟩
@[go_sem] theorem fz_bk4 {σ : Sto} : fzl [0, 1, 2, 3] σ bkB = bkB := by
 rw [fzl_map]
 unfold bkB bkA b2
 have h : ∀ l : List Int, (l.map nA).map (fz [0, 1, 2, 3] σ) = l.map nA := by
  intro l; rw [List.map_map]; exact List.map_congr_left (fun _ _ => rfl)
 simp only [List.map_cons, List.map_append, h]
 rfl
attribute [local irreducible] bkB cntN ordB fstI bseI csI szI findY findS findR bitsL codeN huM
end Go.Proofs.YtohbfcmmpaikhaaDoor

set_option linter.unusedVariables false
set_option linter.unusedSimpArgs false
namespace Go.Proofs.YtohbfcmmpaikhaaDoor
open Go Go.Lf Go.Proofs
attribute [local irreducible] Lf.rg Lf.ro Lf.PWp Lf.SOp Lf.ACall Lf.Scoped Lf.dg Lf.dw
set_option maxRecDepth 20000
set_option maxHeartbeats 4000000
theorem encL01 (b : List UInt8) : ∀ x ∈ encL b, x = 0 ∨ x = 1 := by
 have key : ∀ (b : List UInt8) (L : List Int), (∀ x ∈ L, x = 0 ∨ x = 1) → ∀ x ∈ b.foldl encS L, x = 0 ∨ x = 1 := by
  intro b
  induction b with
  | nil => intro L h; exact h
  | cons y b ih =>
   intro L h
   rw [List.foldl_cons]
   refine ih _ ?_
   unfold encS rpL
   split
   ·intro x hx
    rw [List.mem_append] at hx
    rcases hx with hx | hx
    ·exact h x hx
    ·exact msb01 _ _ x hx
   ·exact h
 exact key b [] (by simp)
theorem codesT_at {s : Nat} (h : s < 257) : codesT[s]? = some (csI s) := by
 unfold codesT; rw [List.getElem?_map, List.getElem?_range h]; rfl
theorem codesT_len : codesT.length = 257 := by simp [codesT]
attribute [local irreducible] codesT csI szI rpL rowB encL packL lensT
theorem rencode (f q : Bool) (b : List UInt8) (hb : b.length ≤ 100000) : AEq Tryd.prog 79 [.sl f q (b.map byteA)] [] (.sl false false ((rowB (encL b)).map byteA)) [] := by
 have hcl := codesT_len
 refine acall_body Tryd.func79 rfl Tryd.ntmps79 (by simp) (fun hsc => ?_); simp only [Lf.enter, Nat.reduceAdd]; clear hsc
 have hU := True.intro
 repeat' (first | (guard_target =~ PWp _ _ _ _ _ _ _; first | (refine pwp_seq_k (fun K hK => ?_)) | (refine pwp_block ?_) | (refine pwp_rg_then ?_)) | (guard_target =~ rg _ _ _ _ _ _ _; first | (guard_target =~ rg _ _ _ [] _ _ _; first | (refine rg_end ?_)) | (refine rg_a rfl (h := ?_)) | (refine rg_s rfl ?_)) | (guard_target =~ SOp _ _ _ _ _ _; first | (guard_target =~ SOp _ _ ⟨_, .call ⟨.value (.func 100), _, _⟩, _, _, _, none⟩ _ _ _; first | (refine n_call (f := 100) rfl Tryd.call100 (h := AEq.pure' agT rcodes (hq := ?_))))) | (refine hK _ _ ?_; clear hK K))
 refine pwp_loop_e [3, 5, 6, 8, 9, 10, 11, 12, 13, 14, 15, 16, 17, 18, 19, 20, 21, 22, 23, 24, 25, 26, 27, 28, 29] (fun i : Nat => [(5, i64 i), (3, .sl false false ((encL (b.take i)).map intA))]) (fun i => []) (fun i => i ≤ b.length) (fun i => b.length - i) 0 (Nat.zero_le _) ?_ rfl ?_
 ·rw [List.take_zero, encL_0]
  (refine ⟨⟨_, sT, ?_⟩, ⟨_, sT, ?_⟩, trivial⟩ <;> (try (first | exact aleT)))
 ·rintro i hi
  simp only [mask, List.map_cons, List.map_nil, List.cons_append, List.nil_append]
  by_cases hlt : i < b.length
  ·obtain ⟨x, hx⟩ := ex_at hlt
   have hbs : rpL (encL (b.take i)) (csI x.toNat) (szI (x.toNat : Int)) = encL (b.take (i + 1)) := (ksnoc hx).symm
   have hel := encL_len (b.take i)
   have htl : (b.take i).length = i := by rw [List.length_take]; omega
   have hxl := x.toNat_lt
   have hat := codesT_at (s := x.toNat) (by omega)
   have hU := @hbs
   repeat' (first | (guard_target =~ PWp _ _ _ _ _ _ _; first | (refine pwp_draw_ord_end (id := 7) [0, 1, 2, 3, 4, 5, 6, 7, 8, 9, 10, 11] [] mixed (by kernel_rfl) (by kernel_rfl) ?_) | (refine pwp_seq_k (fun K hK => ?_)) | (refine pwp_block ?_) | (refine pwp_rg_then ?_) | (refine pwp_skip ?_) | ((refine pwp_cond_d (fun hcd => ?_) (fun hcd => ?_)) <;> (try simp only [hcP] at hcd) <;> (try exact cdT))) | (guard_target =~ rg _ _ _ _ _ _ _; first | (guard_target =~ rg _ _ _ [] _ _ _; first | (refine rg_end ?_)) | (refine rg_a rfl (h := ?_)) | (refine rg_v rfl (h := ?_)) | (refine rg_s rfl ?_)) | (guard_target =~ SOp _ _ _ _ _ _; first | (guard_target =~ SOp _ _ ⟨_, .indexAddr _ _ _, _, _, _, none⟩ _ _ _; first | (refine n_index rfl (hK := ?_)))) | (guard_target =~ dw _ _ _ _ _ _ _ _ _ _; first | ((first | guard_target =~ dw _ _ _ _ _ (0 :: _) _ _ _ _ | guard_target =~ dw _ _ _ _ _ (1 :: _) _ _ _ _ | guard_target =~ dw _ _ _ _ _ (2 :: _) _ _ _ _ | guard_target =~ dw _ _ _ _ _ (5 :: _) _ _ _ _ | guard_target =~ dw _ _ _ _ _ (8 :: _) _ _ _ _); first | (refine dw_p rfl rfl (h := (fun τ => ro_v rfl (h := ro_end ⟨rfl, rfl⟩))) (hk := ?_))) | (guard_target =~ dw _ _ _ _ _ (3 :: _) _ _ _ _; first | (refine dw_p rfl rfl (h := (fun τ => ro_s (h := n_index rfl (hK := ro_end ⟨rfl, rfl⟩)))) (hk := ?_))) | (guard_target =~ dw _ _ _ _ _ (4 :: _) _ _ _ _; first | (refine dw_p rfl rfl (h := (fun τ => ro_v rfl (h := ro_end ⟨rfl, rfl⟩))) (hk := ?_))) | (guard_target =~ dw _ _ _ _ _ (6 :: _) _ _ _ _; first | (refine dw_p rfl rfl (h := (fun τ => ro_s (h := n_call (f := 107) rfl Tryd.call107 (h := AEq.pure' agT (rlength _ (by omega)) (hq := ro_end ⟨rfl, rfl⟩))))) (hk := ?_))) | (guard_target =~ dw _ _ _ _ _ (7 :: _) _ _ _ _; first | (refine dw_p rfl rfl (h := (fun τ => ro_s (h := n_call (f := 106) rfl Tryd.call106 (h := AEq.pure' agT (rput05 _ _ _ _ (by omega)) (hq := ro_end ⟨rfl, rfl⟩))))) (hk := ?_))) | ((first | guard_target =~ dw _ _ _ _ _ (9 :: _) _ _ _ _ | guard_target =~ dw _ _ _ _ _ (10 :: _) _ _ _ _); first | (refine dw_p rfl rfl (h := (fun τ => ro_x rfl (h := ro_end ⟨rfl, rfl⟩))) (hk := ?_))) | (guard_target =~ dw _ _ _ _ _ (11 :: _) _ _ _ _; first | (refine dw_p rfl rfl (h := (fun τ => ro_a rfl (h := ro_end ⟨rfl, rfl⟩))) (hk := ?_))) | (guard_target =~ dw _ _ _ _ _ [] _ _ _ _; first | (refine dw_nil ?_))) | (refine hK _ _ ?_; clear hK K))
   refine ⟨i + 1, by omega, by omega, ?_, (by repeat' (first | exact agr_refl | refine agr_cons (by rfl) ?_)), (by first | rfl | (simp (disch := omega) only [go_sem, seval, ↓reduceIte, hU]; done) | (simp (disch := omega) only [go_sem, seval, ↓reduceIte, hU]; rfl))⟩
   (refine ⟨⟨_, sT, ?_⟩, ⟨_, sT, ?_⟩, trivial⟩ <;> (try (first | exact aleT)))
  ·have hib : i = b.length := by omega
   subst hib
   have hel := encL_len b
   have h01 := encL01 b
   have hpr : packL (encL b) = rowB (encL b) := pack_row _ h01
   have htk : b.take b.length = b := List.take_length
   rw [htk]
   have hU := @hpr
   repeat' (first | (guard_target =~ PWp _ _ _ _ _ _ _; first | (refine pwp_seq_k (fun K hK => ?_)) | (refine pwp_rg_then ?_) | (refine pwp_ret ?_) | (refine pwp_exit ?_) | ((refine pwp_cond_d (fun hcd => ?_) (fun hcd => ?_)) <;> (try simp only [hcP] at hcd) <;> (try exact cdT))) | (guard_target =~ rg _ _ _ _ _ _ _; first | (guard_target =~ rg _ _ _ [] _ _ _; first | (refine rg_end ?_)) | (refine rg_a rfl (h := ?_)) | (refine rg_v rfl (h := ?_)) | (refine rg_s rfl ?_)) | (guard_target =~ SOp _ _ _ _ _ _; first | (guard_target =~ SOp _ _ ⟨_, .call ⟨.value (.func 108), _, _⟩, _, _, _, none⟩ _ _ _; first | (refine n_call (f := 108) rfl Tryd.call108 (h := AEq.pure' agT (rbytes _ _ _ aoT aoT) (hq := ?_))))) | (guard_target =~ (_ ∨ _) ∧ _; first | ((refine end_d [] (by rw [Tryd.results79, Lf.res1]) (ale_1 ?_) ?_) <;> (try (first | exact aleT | exact stq (by with_reducible rfl) | exact stq (by rfl) | exact stq (by simp (disch := omega) only [go_sem, seval, ↓reduceIte, hU]))))) | (refine hK _ _ ?_; clear hK K) | (apply_assumption (exfalso := false) (symm := false)))
end Go.Proofs.YtohbfcmmpaikhaaDoor

set_option linter.unusedVariables false
set_option linter.unusedSimpArgs false
namespace Go.Proofs.YtohbfcmmpaikhaaDoor
open Go Go.Lf Go.Proofs
attribute [local irreducible] Lf.rg Lf.ro Lf.PWp Lf.SOp Lf.ACall Lf.Scoped Lf.dg Lf.dw
set_option maxRecDepth 20000
set_option maxHeartbeats 4000000
def begG (l : List Int) : Nat → Nat → Int × Int
 | 0, _ => (-1, 0)
 | m + 1, p => if findY (numBits (l.take (p + 1))) ((p : Int) + 1) = true then (findS (numBits (l.take (p + 1))) ((p : Int) + 1), (p : Int) + 1) else begG l m (p + 1)
def begL (l : List Int) : Int × Int := begG l (min 30 l.length) 0
attribute [local irreducible] codesT csI szI lensT findY findS numBits begL
attribute [local irreducible] huM bitsL
end Go.Proofs.YtohbfcmmpaikhaaDoor

set_option linter.unusedVariables false
set_option linter.unusedSimpArgs false
namespace Go.Proofs.YtohbfcmmpaikhaaDoor
open Go Go.Lf Go.Proofs
attribute [local irreducible] Lf.rg Lf.ro Lf.PWp Lf.SOp Lf.ACall Lf.Scoped Lf.dg
set_option maxRecDepth 20000
set_option maxHeartbeats 4000000
end Go.Proofs.YtohbfcmmpaikhaaDoor

set_option linter.unusedVariables false
set_option linter.unusedSimpArgs false
namespace Go.Lf
open Go
theorem PVl_bytes {M : Nat → Prop} {w : World} : ∀ l : List UInt8, PVl M w (l.map byteA).flatten (l.map fun x => Value.int .u8 x.toNat)
 | [] => by simp [PVl]
 | x :: l => by simp only [List.map_cons, List.flatten_cons, byteA, List.cons_append, List.nil_append, PVl, PV]; exact ⟨trivial, PVl_bytes l⟩
theorem sop_bytes {P : Program} {N : Nat} {o : Oper} {Γ : Env} {σ : Sto} {K : AV → Sto → Prop} {t t2 e : Nat} {x : Operand} {l : List UInt8} (ho : o.op = .convert t2 t x) (hs : P.underlying t2 = some .string) (ht : P.underlying t = some (.slice e)) (he : P.underlying e = some (.int .u8))
    (hx : ev Γ x = .lit (.string ⟨l.toArray⟩)) (hl : l.length ≤ 9223372036854775807) (hK : K (.sl false false (l.map byteA)) σ) : SOp P N o Γ σ K := by
  intro ρ w a next Q hF hr hn'
  have hv := hF.ev x
  rw [hx] at hv
  simp only [VR] at hv
  have hrun0 := Go.Lib.run_convert_string_bytes (P := P) w t2 t e ⟨l.toArray⟩ hs ht he
  have hls : (⟨l.toArray⟩ : ByteArray).size = l.length := rfl
  have hrun : (execOp a.eval o).run P w = .ok (.value (.slice (some ⟨w.heap.size, 0, none⟩) l.length (grownCap w l.length 0 e))) (Go.Lib.bytesWorld w e ⟨l.toArray⟩) := by
    rw [hls] at hrun0
    simp [execOp, ho, hv, hrun0]
  obtain ⟨w', hw⟩ : ∃ w', Go.Lib.bytesWorld w e ⟨l.toArray⟩ = w' := ⟨_, rfl⟩
  have hsz : w'.heap.size = w.heap.size + 1 := by rw [← hw]; exact Go.Lib.bytesWorld_size w e _
  have hkk : ∀ b, b < w.heap.size → w'.heap[b]? = w.heap[b]? := fun b hb => by rw [← hw]; exact Go.Lib.bytesWorld_at_old w e _ b hb
  have hcell : ∀ j (hj : j < l.length), w'.cell? ⟨w.heap.size, j, none⟩ = some (.int .u8 (l[j].toNat : Int)) := by
    intro j hj
    rw [← hw]
    have := Go.Lib.bytesWorld_cell w e ⟨l.toArray⟩ j hj
    rw [this]
    simp [List.getD, hj]
  have hfl : w'.os = w.os ∧ w'.tape = w.tape ∧ w'.output = w.output := by rw [← hw]; unfold Go.Lib.bytesWorld World.freeze; rw [if_neg (by decide)]; exact ⟨rfl, rfl, rfl⟩
  have st : Step σ.length σ ρ w σ ρ w' := ⟨hfl.1, hfl.2.1, hfl.2.2, by omega, fun b hb _ => hkk b hb, fun b hb => .inl hb, Nat.le_refl _, Nat.le_refl _, fun o ho => .refl _ _ (by simp; omega), rfl⟩
  have hr' : Rel σ ρ w' := by
    refine ⟨fun o ob h => ?_, hr.inj, fun b hb => Nat.lt_of_lt_of_le (hr.fol b hb) (by omega), hr.dis⟩
    have hO := hr.obj _ _ h
    cases hl : ob.live with
    | false => cases ob <;> simp [Ob.live] at hl; trivial
    | true => exact hO.carry st (fun b hb' => hkk b (hr.blk_lt _ _ _ h hl hb'))
  unfold Oper.wp
  rw [hrun, Oper.upon_value, hw]
  refine hn' _ _ _ _ _ hK hr' ?_ st
  simp only [VR]
  refine ⟨some ⟨w.heap.size, 0, none⟩, grownCap w l.length 0 e, 1, by rw [List.length_map], by rw [List.length_map]; exact grownCap_ge w _ _ _, grownCap_le_maxLen w _ _ _ (by simp only [maxLen]; omega), by simp, by simp, by intro y hy; simp only [List.mem_map] at hy; obtain ⟨_, _, rfl⟩ := hy; rfl, fun _ => ⟨w.heap.size, 0, rfl, by omega, ?_, ?_⟩⟩
  · intro hB
    rcases (Bset.mset hB) with ⟨o2, ob2, q1, q2, q3⟩ | q
    · have := hr.blk_lt _ _ _ q1 q2 q3
      omega
    · have := hr.fol _ q
      omega
  · refine PVss_of _ _ _ ?_
    refine PVs_of _ (l.map fun x => Value.int .u8 x.toNat) _ _ ?_ ?_ (fun j u hj => ?_)
    · exact PVl_bytes l
    · intro v hv
      simp only [List.mem_map] at hv
      obtain ⟨y, _, rfl⟩ := hv
      rfl
    · rw [Nat.zero_add]
      rw [List.getElem?_map] at hj
      cases hg : l[j]? with
      | none => rw [hg] at hj; cases hj
      | some y =>
        obtain ⟨hjl, hy⟩ := List.getElem?_eq_some_iff.1 hg
        rw [hg] at hj
        simp only [Option.map_some, Option.some.injEq] at hj
        rw [hcell j hjl, hy, ← hj]
theorem n_bytes {P : Program} {N : Nat} {o : Oper} {Γ : Env} {σ : Sto} {K : AV → Sto → Prop} {t t2 e : Nat} {x : Operand} {l : List UInt8} (ho : o.op = .convert t2 t x) (hs : P.underlying t2 = some .string) (ht : P.underlying t = some (.slice e)) (he : P.underlying e = some (.int .u8))
    (hx : ev Γ x = .lit (.string ⟨l.toArray⟩)) (hl : l.length ≤ 9223372036854775807) (hK : K (.sl false false (l.map byteA)) σ) : SOp P N o Γ σ K := sop_bytes ho hs ht he hx hl hK
end Go.Lf

