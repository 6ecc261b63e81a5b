import Derived.Test.YtohbfcmmpaikhaaDoorZ03
import Derived.Test.YtohbfcmmpaikhaaDoorLc
import Derived.Test.YtohbfcmmpaikhaaDoorTy
set_option linter.unusedVariables false
set_option linter.unusedSimpArgs false
namespace Go.Proofs.YtohbfcmmpaikhaaDoor
open Go Go.Lf Go.Proofs
attribute [local irreducible] Lf.rg Lf.ro Lf.PWp Lf.SOp Lf.ACall Lf.Scoped Lf.dg Lf.dw
set_option maxRecDepth 20000
set_option maxHeartbeats 4000000
def bkB : List AV := bkA (b2 31 0 257 31 31)
def ordB : List Nat := ordN 31
def fstI (n : Nat) : Int := codeN n * 2
def bseI (n : Nat) : Int := ((ordN n).length : Int)
theorem ordB_len : ordB.length = 257 := ordN_31
theorem bkB_0 : bkB[0]? = some (bl true) := by unfold bkB bkA; rfl
theorem bkB_code {s : Nat} (hs : s < 257) : bkB[1 + s]? = some (i64 (csI s)) := by
 have hb := szI_bd (s := (s : Int)) (by omega) (by omega)
 have e : bkB = [bl true] ++ ((codesL 31 0).map nA ++ (.row 1 257 :: ((firstL 31).map nA ++ ((cntL 257).map nA ++ (baseL 31).map nA)))) := by unfold bkB bkA b2; simp
 rw [e, List.getElem?_append_right (by simp), show 1 + s - ([bl true] : List AV).length = s from by simp, List.getElem?_append_left (by simp [codesL]; omega), List.getElem?_map]
 have hc : (codesL 31 0)[s]? = some (csI s) := by
  unfold codesL
  rw [List.getElem?_map, List.getElem?_range hs, Option.map_some, if_pos (.inl (by omega))]
 rw [hc]; rfl
theorem bkB_ord : bkB[258]? = some (.row 1 257) := bk_o_at (b2_wf 31 0 257 31 31)
theorem bkB_first {n : Nat} (h1 : 1 ≤ n) (hn : n ≤ 30) : bkB[259 + n]? = some (i64 (fstI n)) := by
 have e : bkB = (bl true :: ((codesL 31 0).map nA ++ [.row 1 257])) ++ ((firstL 31).map nA ++ ((cntL 257).map nA ++ (baseL 31).map nA)) := by unfold bkB bkA b2; simp
 have hl : (bl true :: ((codesL 31 0).map nA ++ [AV.row 1 257])).length = 259 := by simp [codesL]
 rw [e, List.getElem?_append_right (by omega), hl, show 259 + n - 259 = n from by omega, List.getElem?_append_left (by simp [firstL]; omega), List.getElem?_map]
 have hc : (firstL 31)[n]? = some (fstI n) := by
  unfold firstL
  rw [List.getElem?_map, List.getElem?_range (by omega), Option.map_some, if_pos ⟨h1, by omega⟩]; rfl
 rw [hc]; rfl
theorem bkB_count {n : Nat} (hn : n ≤ 30) : bkB[290 + n]? = some (i64 (cntN 257 n)) := by
 refine bk_count_at (b2_wf 31 0 257 31 31) ?_
 show (cntL 257)[n]? = _
 unfold cntL
 rw [List.getElem?_map, List.getElem?_range (by omega)]; rfl
theorem bkB_base {n : Nat} (h1 : 1 ≤ n) (hn : n ≤ 30) : bkB[321 + n]? = some (i64 (bseI n)) := by
 have e : bkB = (bl true :: ((codesL 31 0).map nA ++ .row 1 257 :: ((firstL 31).map nA ++ (cntL 257).map nA))) ++ (baseL 31).map nA := by unfold bkB bkA b2; simp
 have hl : (bl true :: ((codesL 31 0).map nA ++ .row 1 257 :: ((firstL 31).map nA ++ (cntL 257).map nA))).length = 321 := by simp [codesL, firstL, cntL]
 rw [e, List.getElem?_append_right (by omega), hl, show 321 + n - 321 = n from by omega, List.getElem?_map]
 have hc : (baseL 31)[n]? = some (bseI n) := by
  unfold baseL
  rw [List.getElem?_map, List.getElem?_range (by omega), Option.map_some, if_pos ⟨h1, by omega⟩]; rfl
 rw [hc]; rfl
@[go_sem] theorem fz_bkB {σ : Sto} : fzl [0, 1] σ bkB = bkB := fz_b2 31 0 257 31 31
theorem cbook : AEq Tryd.prog 95 [] [] (.ptr 0 0) [.box bkB, .row 257 3 1 (ordB.map natA)] := cmake
def findY (c n : Int) : Bool := decide (1 ≤ n ∧ n ≤ 30 ∧ fstI n.toNat ≤ c ∧ c - fstI n.toNat < cntN 257 n.toNat)
def findS (c n : Int) : Int := (ordB.getD (bseI n.toNat + (c - fstI n.toNat)).toNat 0 : Nat)
theorem tab_bd : ∀ n : Fin 31, 0 ≤ fstI n.val ∧ fstI n.val ≤ 4294967296 ∧ 0 ≤ bseI n.val ∧ 0 ≤ cntN 257 n.val ∧ bseI n.val + cntN 257 n.val ≤ 257 := by decide +kernel
theorem rnl_all (f : Nat → Nat) : ∀ xs, rnl f xs = xs.map (rn f)
 | [] => rfl
 | x :: xs => by rw [rnl, rnl_all f xs]; rfl
theorem scpl_all (n : Nat) : ∀ xs, scpl n xs = xs.all (scp n)
 | [] => rfl
 | x :: xs => by rw [scpl, scpl_all n xs]; rfl
theorem nbl_all : ∀ xs, nbl xs = xs.all nb
 | [] => rfl
 | x :: xs => by rw [nbl, nbl_all xs]; rfl
@[go_sem] theorem rnl_bkB (L : Nat) : rnl (ix [0, 1] L) bkB = bkB := by
 rw [rnl_all]
 unfold bkB bkA b2
 have h : ∀ l : List Int, (l.map nA).map (rn (ix [0, 1] L)) = l.map nA := by
  intro l; rw [List.map_map]; exact List.map_congr_left (fun _ _ => rfl)
 simp only [List.map_cons, List.map_append, h]
 rfl
theorem scpl_bkB : scpl 2 bkB = true := by
 rw [scpl_all]
 unfold bkB bkA b2
 have h : ∀ l : List Int, (l.map nA).all (scp 2) = true := by
  intro l; rw [List.all_map]; exact List.all_eq_true.2 (fun _ _ => rfl)
 simp only [List.all_cons, List.all_append, h]
 rfl
@[go_sem] theorem nbl_bkB : nbl bkB = true := by
 rw [nbl_all]
 unfold bkB bkA b2
 have h : ∀ l : List Int, (l.map nA).all nb = true := by
  intro l; rw [List.all_map]; exact List.all_eq_true.2 (fun _ _ => rfl)
 simp only [List.all_cons, List.all_append, h]
 rfl
theorem sub_bk (σ : Sto) : SubOk [0, 1] [.box bkB, .row 257 3 1 (ordB.map natA)] (.box bkB :: .row 257 3 1 (ordB.map natA) :: σ) := by
 refine SubOk.mk' (by decide) ⟨?_, scpl_bkB, rfl, purl_nat ordB, trivial⟩
 show some (Ob.box bkB) = some (Ob.box (rnl _ bkB))
 rw [rnl_bkB]
theorem okP_bk : ([.box bkB, .row 257 3 1 (ordB.map natA)] : Sto).all okP = true := by
 have h1 := nbl_bkB
 have h2 := purl_nat ordB
 simp only [List.all_cons, List.all_nil, okP, h1, h2, Bool.and_self]
attribute [local irreducible] bkB cntN ordB fstI bseI csI
theorem bhas (s : Int) : AEq Tryd.prog 124 [.ptr 0 0, i64 s] [.box bkB, .row 257 3 1 (ordB.map natA)] (bl (decide (0 ≤ s) && decide (s ≤ 256))) [.box bkB, .row 257 3 1 (ordB.map natA)] := by
 have h0 := bkB_0
 refine acall_body Tryd.func124 rfl Tryd.ntmps124 (by simp) (fun hsc => ?_); simp only [Lf.enter, Nat.reduceAdd]; clear hsc
 have hU := @h0
 repeat' (first | (guard_target =~ PWp _ _ _ _ _ _ _; first | (refine pwp_seq_k (fun K hK => ?_)) | (refine pwp_rg_then ?_) | (refine pwp_ret ?_)) | (guard_target =~ rg _ _ _ _ _ _ _; first | (guard_target =~ rg _ _ _ (⟨_, .move _, _, _, _, some _⟩ :: _) _ _ _; first | (refine rg_gtp rfl (h := ?_)) | (refine rg_gq rfl (h := ?_))) | (guard_target =~ rg _ _ _ (⟨_, .binOp _ _ _ _ _, _, _, _, some _⟩ :: _) _ _ _; first | (refine rg_gtp rfl (h := ?_)) | (refine rg_gq rfl (h := ?_))) | (guard_target =~ rg _ _ _ (⟨_, .load _ _, _, _, _, some _⟩ :: _) _ _ _; first | (refine rg_gtp rfl (h := ?_)) | (refine rg_gq rfl (h := ?_))) | (guard_target =~ rg _ _ _ (⟨_, .fieldAddr _ _ _, _, _, _, some _⟩ :: _) _ _ _; first | (refine rg_gtp rfl (h := ?_)) | (refine rg_gq rfl (h := ?_))) | (guard_target =~ rg _ _ _ (⟨_, .nilCheck _, _, _, _, some _⟩ :: _) _ _ _; first | (refine rg_gtp rfl (h := ?_)) | (refine rg_gq rfl (h := ?_))) | (guard_target =~ rg _ _ _ [] _ _ _; first | (refine rg_end ?_)) | (refine rg_a rfl (h := ?_)) | (refine rg_v rfl (h := ?_))) | (guard_target =~ (_ ∨ _) ∧ _; first | ((refine end_d [0, 1] (by rw [Tryd.results124, Lf.res1]) (ale_1 ?_) ?_) <;> (try (first | exact ale_eq (by with_reducible rfl) | exact ale_full | exact ale_sl (fun _ => rfl) | exact ale_sl (by simp) | exact ale_junk | exact ale_eq rfl | exact stq (by with_reducible rfl) | exact stq (by rfl) | exact stq (by simp (disch := omega) only [go_sem, seval, ↓reduceIte, hU]))))) | (refine hK _ _ ?_; clear hK K))
theorem bcode (s : Nat) (h1 : s < 257) : AEq Tryd.prog 104 [.ptr 0 0, i64 (s : Int)] [.box bkB, .row 257 3 1 (ordB.map natA)] (.tu [i64 (csI s), i64 (szI (s : Int))]) [.box bkB, .row 257 3 1 (ordB.map natA)] := by
 have hc : bkB[1 + s * 1]? = some (i64 (csI s)) := by rw [Nat.mul_one]; exact bkB_code h1
 have h2 : (s : Int) ≤ 256 := by omega
 refine acall_body Tryd.func104 rfl Tryd.ntmps104 (by simp) (fun hsc => ?_); simp only [Lf.enter, Nat.reduceAdd]; clear hsc
 have hU := @hc
 repeat' (first | (guard_target =~ PWp _ _ _ _ _ _ _; first | (refine pwp_draw_ord (id := 3) [0, 1, 2, 3, 4, 5, 6, 7, 8, 9] [] mixed (by kernel_rfl) (by kernel_rfl) ?_) | (refine pwp_seq_k (fun K hK => ?_)) | (refine pwp_rg_then ?_) | (refine pwp_ret ?_) | (refine pwp_skip ?_) | ((refine pwp_cond_d (fun hcd => ?_) (fun hcd => ?_)) <;> (try simp only [hcP] at hcd) <;> (try (exfalso; first | omega | exact absurd hcd (by assumption) | exact absurd (by assumption) hcd)))) | (guard_target =~ rg _ _ _ _ _ _ _; first | (guard_target =~ rg _ _ _ [] _ _ _; first | (refine rg_end ?_)) | (refine rg_a rfl (h := ?_)) | (refine rg_v rfl (h := ?_)) | (refine rg_s rfl ?_)) | (guard_target =~ SOp _ _ _ _ _ _; first | (guard_target =~ SOp _ _ ⟨_, .call ⟨.value (.func 124), _, _⟩, _, _, _, none⟩ _ _ _; first | (refine n_call (f := 124) rfl Tryd.call124 (h := AEq.sub' [0, 1] (by refine ⟨?_, ?_, trivial⟩ <;> (first | exact arg_lit | exact arg_rn (by rfl) (by rfl))) (by exact sub_bk _) (bhas _) (ho := by exact okP_bk) (hq := ?_))))) | (guard_target =~ dw _ _ _ _ _ _ _ _ _ _; first | ((first | guard_target =~ dw _ _ _ _ _ (0 :: _) _ _ _ _ | guard_target =~ dw _ _ _ _ _ (1 :: _) _ _ _ _ | guard_target =~ dw _ _ _ _ _ (6 :: _) _ _ _ _); first | (refine dw_p rfl rfl (h := (fun τ => ro_v rfl (h := ro_end ⟨rfl, rfl⟩))) (hk := ?_)) | (refine dw_c rfl rfl (h := ro_v rfl (h := ro_end ⟨rfl, rfl⟩)) (hk := ?_))) | (guard_target =~ dw _ _ _ _ _ (2 :: _) _ _ _ _; first | (refine dw_p rfl rfl (h := (fun τ => ro_v rfl (h := ro_end ⟨rfl, rfl⟩))) (hk := ?_)) | (refine dw_c rfl rfl (h := ro_v rfl (h := ro_end ⟨rfl, rfl⟩)) (hk := ?_))) | (guard_target =~ dw _ _ _ _ _ (3 :: _) _ _ _ _; first | (refine dw_p rfl rfl (h := (fun τ => ro_v rfl (h := ro_end ⟨rfl, rfl⟩))) (hk := ?_)) | (refine dw_c rfl rfl (h := ro_v rfl (h := ro_end ⟨rfl, rfl⟩)) (hk := ?_))) | (guard_target =~ dw _ _ _ _ _ (4 :: _) _ _ _ _; first | (refine dw_c rfl rfl (h := ro_s (h := n_index_arr rfl (hK := ro_end ⟨rfl, rfl⟩))) (hk := ?_))) | (guard_target =~ dw _ _ _ _ _ (5 :: _) _ _ _ _; first | (refine dw_p rfl rfl (h := (fun τ => ro_v rfl (h := ro_end ⟨rfl, rfl⟩))) (hk := ?_)) | (refine dw_c rfl rfl (h := ro_v rfl (h := ro_end ⟨rfl, rfl⟩)) (hk := ?_))) | (guard_target =~ dw _ _ _ _ _ (7 :: _) _ _ _ _; first | (refine dw_p rfl rfl (h := (fun τ => ro_s (h := n_call (f := 121) rfl Tryd.call121 (h := AEq.pure' (by first | ((repeat' (first | exact trivial | (first | exact arg_lit | exact arg_sl id id | exact arg_nil | exact arg_sl (by simp) id | exact arg_sl (by simp) (fun _ => rfl) | exact arg_row_m (by rfl) (by rfl) (fun _ => rfl) | exact arg_vw_m (by rfl) (by rfl) (fun _ => rfl) | exact arg_rn (by rfl) (by rfl) | exact arg_junk | exact arg_row_mm (by rfl) (by rfl) (fun _ => rfl)) | refine ⟨?_, ?_⟩)); done) | fail) (csize _ (by first | assumption | omega) (by first | assumption | omega)) (hq := ro_end ⟨rfl, rfl⟩))))) (hk := ?_))) | ((first | guard_target =~ dw _ _ _ _ _ (8 :: _) _ _ _ _ | guard_target =~ dw _ _ _ _ _ (9 :: _) _ _ _ _); first | (refine dw_p rfl rfl (h := (fun τ => ro_a rfl (h := ro_end ⟨rfl, rfl⟩))) (hk := ?_))) | (guard_target =~ dw _ _ _ _ _ [] _ _ _ _; first | (refine dw_nil ?_))) | (guard_target =~ (_ ∨ _) ∧ _; first | ((refine end_d [0, 1] (by rw [Tryd.results104, Lf.res2]) (ale_2 ?_ ?_) ?_) <;> (try (first | exact ale_eq (by with_reducible rfl) | exact ale_full | exact ale_sl (fun _ => rfl) | exact ale_sl (by simp) | exact ale_junk | exact ale_eq rfl | exact stq (by with_reducible rfl) | exact stq (by rfl) | exact stq (by simp (disch := omega) only [go_sem, seval, ↓reduceIte, hU]))))) | (refine hK _ _ ?_; clear hK K))
end Go.Proofs.YtohbfcmmpaikhaaDoor

set_option linter.unusedVariables false
set_option linter.unusedSimpArgs false
namespace Go.Proofs.YtohbfcmmpaikhaaDoor
open Go Go.Lf Go.Proofs
attribute [local irreducible] Lf.rg Lf.ro Lf.PWp Lf.SOp Lf.ACall Lf.Scoped Lf.dg Lf.dw
set_option maxRecDepth 20000
set_option maxHeartbeats 4000000
theorem findY_n {c n : Int} (h : ¬ (1 ≤ n ∧ n ≤ 30 ∧ fstI n.toNat ≤ c ∧ c - fstI n.toNat < cntN 257 n.toNat)) : findY c n = false := decide_eq_false h
theorem findY_y {c n : Int} (h : 1 ≤ n ∧ n ≤ 30 ∧ fstI n.toNat ≤ c ∧ c - fstI n.toNat < cntN 257 n.toNat) : findY c n = true := decide_eq_true h
def findR (c n : Int) : Int := if findY c n = true then findS c n else 0
attribute [local irreducible] bkB cntN ordB fstI bseI csI
theorem bfind (c n : Int) (h0 : 0 ≤ c) (h1 : c ≤ 4294967296) : AEq Tryd.prog 98 [.ptr 0 0, i64 c, i64 n] [.box bkB, .row 257 3 1 (ordB.map natA)] (.tu [i64 (findR c n), bl (findY c n)]) [.box bkB, .row 257 3 1 (ordB.map natA)] := by
 by_cases hn : 1 ≤ n ∧ n ≤ 30
 ·obtain ⟨hn1, hn2⟩ := hn
  obtain ⟨m, rfl⟩ : ∃ m : Nat, n = m := ⟨n.toNat, by omega⟩
  have hm1 : 1 ≤ m := by omega
  have hm2 : m ≤ 30 := by omega
  obtain ⟨t1, t2, t3, t4, t5⟩ := tab_bd ⟨m, by omega⟩
  dsimp only at t1 t2 t3 t4 t5
  have hf : bkB[259 + m * 1]? = some (i64 (fstI m)) := by rw [Nat.mul_one]; exact bkB_first hm1 hm2
  have hcn : bkB[290 + m * 1]? = some (i64 (cntN 257 m)) := by rw [Nat.mul_one]; exact bkB_count hm2
  have hbs : bkB[321 + m * 1]? = some (i64 (bseI m)) := by rw [Nat.mul_one]; exact bkB_base hm1 hm2
  have ho := bkB_ord
  have hol := ordB_len
  by_cases hc1 : c < fstI m
  ·have hY := findY_n (c := c) (n := (m : Int)) (by rw [Int.toNat_natCast]; omega)
   have hR : findR c m = 0 := by unfold findR; rw [hY]; rfl
   rw [hY, hR]
   refine acall_body Tryd.func98 rfl Tryd.ntmps98 (by simp) (fun hsc => ?_); simp only [Lf.enter, Nat.reduceAdd]; clear hsc
   have hU := And.intro @hf ( And.intro @hcn ( And.intro @hbs (@ho)))
   repeat' (first | (guard_target =~ PWp _ _ _ _ _ _ _; first | (refine pwp_seq_k (fun K hK => ?_)) | (refine pwp_rg_then ?_) | (refine pwp_ret ?_) | (refine pwp_skip ?_) | ((refine pwp_cond_d (fun hcd => ?_) (fun hcd => ?_)) <;> (try simp only [hcP] at hcd) <;> (try (exfalso; first | omega | exact absurd hcd (by assumption) | exact absurd (by assumption) hcd)))) | (guard_target =~ rg _ _ _ _ _ _ _; first | (guard_target =~ rg _ _ _ (⟨_, .move _, _, _, _, some _⟩ :: _) _ _ _; first | (refine rg_gtp rfl (h := ?_)) | (refine rg_gq rfl (h := ?_))) | (guard_target =~ rg _ _ _ (⟨_, .binOp _ _ _ _ _, _, _, _, some _⟩ :: _) _ _ _; first | (refine rg_gtp rfl (h := ?_)) | (refine rg_gq rfl (h := ?_))) | (guard_target =~ rg _ _ _ [] _ _ _; first | (refine rg_end ?_)) | (refine rg_a rfl (h := ?_)) | (refine rg_v rfl (h := ?_)) | (refine rg_s rfl ?_)) | (guard_target =~ SOp _ _ _ _ _ _; first | (guard_target =~ SOp _ _ ⟨_, .indexAddr _ _ _, _, _, _, none⟩ _ _ _; first | (refine n_index_arr rfl (hK := ?_))) | (guard_target =~ SOp _ _ ⟨_, .call ⟨.value (.func 124), _, _⟩, _, _, _, none⟩ _ _ _; first | (refine n_call (f := 124) rfl Tryd.call124 (h := AEq.sub' [0, 1] (by refine ⟨?_, ?_, trivial⟩ <;> (first | exact arg_lit | exact arg_rn (by rfl) (by rfl))) (by exact sub_bk _) (bhas _) (ho := by exact okP_bk) (hq := ?_))))) | (guard_target =~ (_ ∨ _) ∧ _; first | ((refine end_d [0, 1] (by rw [Tryd.results98, Lf.res2]) (ale_2 ?_ ?_) ?_) <;> (try (first | exact ale_eq (by with_reducible rfl) | exact ale_full | exact ale_sl (fun _ => rfl) | exact ale_sl (by simp) | exact ale_junk | exact ale_eq rfl | exact stq (by with_reducible rfl) | exact stq (by rfl) | exact stq (by simp (disch := omega) only [go_sem, seval, ↓reduceIte, hU]))))) | (refine hK _ _ ?_; clear hK K))
  by_cases hc2 : c - fstI m < cntN 257 m
  ·have hY := findY_y (c := c) (n := (m : Int)) (by rw [Int.toNat_natCast]; omega)
   obtain ⟨i, hi⟩ : ∃ i : Nat, bseI m + (c - fstI m) = i := ⟨(bseI m + (c - fstI m)).toNat, by omega⟩
   have hil : i < ordB.length := by rw [hol]; omega
   obtain ⟨s, hs⟩ : ∃ s, ordB[i]? = some s := ⟨ordB[i], List.getElem?_eq_getElem hil⟩
   have hR : findR c m = (s : Int) := by
    unfold findR findS
    rw [if_pos hY, Int.toNat_natCast, hi, Int.toNat_natCast, List.getD_eq_getElem?_getD, hs]; rfl
   rw [hY, hR]
   have hm3 : (List.map natA ordB)[i]? = some (natA s) := by rw [List.getElem?_map, hs]; rfl
   refine acall_body Tryd.func98 rfl Tryd.ntmps98 (by simp) (fun hsc => ?_); simp only [Lf.enter, Nat.reduceAdd]; clear hsc
   have hU := And.intro @hf ( And.intro @hcn ( And.intro @hbs ( And.intro @ho ( And.intro @hi ( And.intro @hs (@hm3))))))
   repeat' (first | (guard_target =~ PWp _ _ _ _ _ _ _; first | (refine pwp_seq_k (fun K hK => ?_)) | (refine pwp_rg_then ?_) | (refine pwp_draw mixed (by kernel_rfl) ?_) | (refine pwp_ret ?_) | (refine pwp_skip ?_) | ((refine pwp_cond_d (fun hcd => ?_) (fun hcd => ?_)) <;> (try simp only [hcP] at hcd) <;> (try (exfalso; first | omega | exact absurd hcd (by assumption) | exact absurd (by assumption) hcd)))) | (guard_target =~ rg _ _ _ _ _ _ _; first | (guard_target =~ rg _ _ _ (⟨_, .move _, _, _, _, some _⟩ :: _) _ _ _; first | (refine rg_gtp rfl (h := ?_)) | (refine rg_gq rfl (h := ?_))) | (guard_target =~ rg _ _ _ (⟨_, .binOp _ _ _ _ _, _, _, _, some _⟩ :: _) _ _ _; first | (refine rg_gtp rfl (h := ?_)) | (refine rg_gq rfl (h := ?_))) | (guard_target =~ rg _ _ _ [] _ _ _; first | (refine rg_end ?_)) | (refine rg_a rfl (h := ?_)) | (refine rg_v rfl (h := ?_)) | (refine rg_s rfl ?_)) | (guard_target =~ SOp _ _ _ _ _ _; first | (guard_target =~ SOp _ _ ⟨_, .indexAddr _ _ _, _, _, _, none⟩ _ _ _; first | (refine n_index_arr rfl (hK := ?_))) | (guard_target =~ SOp _ _ ⟨_, .call ⟨.value (.func 124), _, _⟩, _, _, _, none⟩ _ _ _; first | (refine n_call (f := 124) rfl Tryd.call124 (h := AEq.sub' [0, 1] (by refine ⟨?_, ?_, trivial⟩ <;> (first | exact arg_lit | exact arg_rn (by rfl) (by rfl))) (by exact sub_bk _) (bhas _) (ho := by exact okP_bk) (hq := ?_))))) | (guard_target =~ dg _ _ _ _ _ _ _; first | (guard_target =~ dg _ _ _ (⟨_, .move _, _, _, _, none⟩ :: _) _ _ _; first | (refine dg_v rfl (hk := ?_))) | (guard_target =~ dg _ _ _ (⟨_, .assign _, _, _, _, none⟩ :: _) _ _ _; first | (refine dg_a rfl (hk := ?_))) | (guard_target =~ dg _ _ _ (⟨_, .load _ _, _, _, _, none⟩ :: _) _ _ _; first | (refine dg_v rfl (hk := ?_))) | (guard_target =~ dg _ _ _ (⟨_, .indexAddr _ _ _, _, _, _, none⟩ :: _) _ _ _; first | (refine dg_c (x := _) (h := ro_s (h := n_index_row rfl (hK := ro_end ⟨rfl, rfl⟩))) (hk := ?_)) | (refine dg_c (x := _) (h := ro_s (h := n_index_arr rfl (hK := ro_end ⟨rfl, rfl⟩))) (hk := ?_))) | (guard_target =~ dg _ _ _ (⟨_, .nilCheck _, _, _, _, none⟩ :: _) _ _ _; first | (refine dg_v rfl (hk := ?_))) | (guard_target =~ dg _ _ _ (⟨_, .fieldAddr _ _ _, _, _, _, none⟩ :: _) _ _ _; first | (refine dg_v rfl (hk := ?_))) | (guard_target =~ dg _ _ _ (⟨_, .binOp _ _ _ _ _, _, _, _, none⟩ :: _) _ _ _; first | (refine dg_v rfl (hk := ?_))) | (guard_target =~ dg _ _ _ (⟨_, .pick _ _ _, _, _, _, none⟩ :: _) _ _ _; first | (refine dg_v rfl (hk := ?_))) | (guard_target =~ dg _ _ _ (⟨_, .unOp _ _ _, _, _, _, none⟩ :: _) _ _ _; first | (refine dg_v rfl (hk := ?_))) | (guard_target =~ dg _ _ _ [] _ _ _; first | (refine dg_nil ?_))) | (guard_target =~ (_ ∨ _) ∧ _; first | ((refine end_d [0, 1] (by rw [Tryd.results98, Lf.res2]) (ale_2 ?_ ?_) ?_) <;> (try (first | exact ale_eq (by with_reducible rfl) | exact ale_full | exact ale_sl (fun _ => rfl) | exact ale_sl (by simp) | exact ale_junk | exact ale_eq rfl | exact stq (by with_reducible rfl) | exact stq (by rfl) | exact stq (by simp (disch := omega) only [go_sem, seval, ↓reduceIte, hU]))))) | (refine hK _ _ ?_; clear hK K))
  ·have hY := findY_n (c := c) (n := (m : Int)) (by rw [Int.toNat_natCast]; omega)
   have hR : findR c m = 0 := by unfold findR; rw [hY]; rfl
   rw [hY, hR]
   refine acall_body Tryd.func98 rfl Tryd.ntmps98 (by simp) (fun hsc => ?_); simp only [Lf.enter, Nat.reduceAdd]; clear hsc
   have hU := And.intro @hf ( And.intro @hcn ( And.intro @hbs (@ho)))
   repeat' (first | (guard_target =~ PWp _ _ _ _ _ _ _; first | (refine pwp_seq_k (fun K hK => ?_)) | (refine pwp_rg_then ?_) | (refine pwp_ret ?_) | (refine pwp_skip ?_) | ((refine pwp_cond_d (fun hcd => ?_) (fun hcd => ?_)) <;> (try simp only [hcP] at hcd) <;> (try (exfalso; first | omega | exact absurd hcd (by assumption) | exact absurd (by assumption) hcd)))) | (guard_target =~ rg _ _ _ _ _ _ _; first | (guard_target =~ rg _ _ _ (⟨_, .move _, _, _, _, some _⟩ :: _) _ _ _; first | (refine rg_gtp rfl (h := ?_)) | (refine rg_gq rfl (h := ?_))) | (guard_target =~ rg _ _ _ (⟨_, .binOp _ _ _ _ _, _, _, _, some _⟩ :: _) _ _ _; first | (refine rg_gtp rfl (h := ?_)) | (refine rg_gq rfl (h := ?_))) | (guard_target =~ rg _ _ _ [] _ _ _; first | (refine rg_end ?_)) | (refine rg_a rfl (h := ?_)) | (refine rg_v rfl (h := ?_)) | (refine rg_s rfl ?_)) | (guard_target =~ SOp _ _ _ _ _ _; first | (guard_target =~ SOp _ _ ⟨_, .indexAddr _ _ _, _, _, _, none⟩ _ _ _; first | (refine n_index_arr rfl (hK := ?_))) | (guard_target =~ SOp _ _ ⟨_, .call ⟨.value (.func 124), _, _⟩, _, _, _, none⟩ _ _ _; first | (refine n_call (f := 124) rfl Tryd.call124 (h := AEq.sub' [0, 1] (by refine ⟨?_, ?_, trivial⟩ <;> (first | exact arg_lit | exact arg_rn (by rfl) (by rfl))) (by exact sub_bk _) (bhas _) (ho := by exact okP_bk) (hq := ?_))))) | (guard_target =~ (_ ∨ _) ∧ _; first | ((refine end_d [0, 1] (by rw [Tryd.results98, Lf.res2]) (ale_2 ?_ ?_) ?_) <;> (try (first | exact ale_eq (by with_reducible rfl) | exact ale_full | exact ale_sl (fun _ => rfl) | exact ale_sl (by simp) | exact ale_junk | exact ale_eq rfl | exact stq (by with_reducible rfl) | exact stq (by rfl) | exact stq (by simp (disch := omega) only [go_sem, seval, ↓reduceIte, hU]))))) | (refine hK _ _ ?_; clear hK K))
 ·have hY := findY_n (c := c) (n := n) (by omega)
  have hR : findR c n = 0 := by unfold findR; rw [hY]; rfl
  rw [hY, hR]
  refine acall_body Tryd.func98 rfl Tryd.ntmps98 (by simp) (fun hsc => ?_); simp only [Lf.enter, Nat.reduceAdd]; clear hsc
  have hU := True.intro
  repeat' (first | (guard_target =~ PWp _ _ _ _ _ _ _; first | (refine pwp_seq_k (fun K hK => ?_)) | (refine pwp_rg_then ?_) | (refine pwp_ret ?_) | ((refine pwp_cond_d (fun hcd => ?_) (fun hcd => ?_)) <;> (try simp only [hcP] at hcd) <;> (try (exfalso; first | omega | exact absurd hcd (by assumption) | exact absurd (by assumption) hcd)))) | (guard_target =~ rg _ _ _ _ _ _ _; first | (guard_target =~ rg _ _ _ (⟨_, .move _, _, _, _, some _⟩ :: _) _ _ _; first | (refine rg_gtp rfl (h := ?_)) | (refine rg_gq rfl (h := ?_))) | (guard_target =~ rg _ _ _ (⟨_, .binOp _ _ _ _ _, _, _, _, some _⟩ :: _) _ _ _; first | (refine rg_gtp rfl (h := ?_)) | (refine rg_gq rfl (h := ?_))) | (guard_target =~ rg _ _ _ [] _ _ _; first | (refine rg_end ?_)) | (refine rg_a rfl (h := ?_)) | (refine rg_v rfl (h := ?_)) | (refine rg_s rfl ?_)) | (guard_target =~ SOp _ _ _ _ _ _; first | (guard_target =~ SOp _ _ ⟨_, .call ⟨.value (.func 124), _, _⟩, _, _, _, none⟩ _ _ _; first | (refine n_call (f := 124) rfl Tryd.call124 (h := AEq.sub' [0, 1] (by refine ⟨?_, ?_, trivial⟩ <;> (first | exact arg_lit | exact arg_rn (by rfl) (by rfl))) (by exact sub_bk _) (bhas _) (ho := by exact okP_bk) (hq := ?_))))) | (guard_target =~ (_ ∨ _) ∧ _; first | ((refine end_d [0, 1] (by rw [Tryd.results98, Lf.res2]) (ale_2 ?_ ?_) ?_) <;> (try (first | exact ale_eq (by with_reducible rfl) | exact ale_full | exact ale_sl (fun _ => rfl) | exact ale_sl (by simp) | exact ale_junk | exact ale_eq rfl | exact stq (by with_reducible rfl) | exact stq (by rfl) | exact stq (by simp (disch := omega) only [go_sem, seval, ↓reduceIte, hU]))))) | (refine hK _ _ ?_; clear hK K))
end Go.Proofs.YtohbfcmmpaikhaaDoor

set_option linter.unusedVariables false
set_option linter.unusedSimpArgs false
namespace Go.Proofs.YtohbfcmmpaikhaaDoor
open Go Go.Lf Go.Proofs
attribute [local irreducible] Lf.rg Lf.ro Lf.PWp Lf.SOp Lf.ACall Lf.Scoped Lf.dg Lf.dw
set_option maxRecDepth 20000
set_option maxHeartbeats 4000000
end Go.Proofs.YtohbfcmmpaikhaaDoor

set_option linter.unusedVariables false
set_option linter.unusedSimpArgs false
namespace Go.Proofs.YtohbfcmmpaikhaaDoor
open Go Go.Lf Go.Proofs
attribute [local irreducible] Lf.rg Lf.ro Lf.PWp Lf.SOp Lf.ACall Lf.Scoped Lf.dg Lf.dw
set_option maxRecDepth 20000
set_option maxHeartbeats 4000000
def tR0 : List Int := [13, 23, 28, 28, 28, 28, 28, 28, 28, 24, 30, 28, 28, 30, 28, 28]
def tR1 : List Int := [28, 28, 28, 28, 28, 28, 30, 28, 28, 28, 28, 28, 28, 28, 28, 28]
def tR2 : List Int := [6, 10, 10, 12, 13, 6, 8, 11, 10, 10, 8, 11, 8, 6, 6, 6]
def tR3 : List Int := [5, 5, 5, 6, 6, 6, 6, 6, 6, 6, 7, 8, 15, 6, 12, 10]
def tR4 : List Int := [13, 6, 7, 7, 7, 7, 7, 7, 7, 7, 7, 7, 7, 7, 7, 7]
def tR5 : List Int := [7, 7, 7, 7, 7, 7, 7, 7, 8, 7, 8, 13, 19, 13, 14, 6]
def tR6 : List Int := [15, 5, 6, 5, 6, 5, 6, 6, 6, 5, 7, 7, 6, 6, 6, 5]
def tR7 : List Int := [6, 7, 6, 5, 5, 6, 7, 7, 7, 7, 7, 15, 11, 14, 13, 28]
def tR8 : List Int := [20, 22, 20, 20, 22, 22, 22, 23, 22, 23, 23, 23, 23, 23, 24, 23]
def tR9 : List Int := [24, 24, 22, 23, 24, 23, 23, 23, 23, 21, 22, 23, 22, 23, 23, 24]
def tR10 : List Int := [22, 21, 20, 22, 22, 23, 23, 21, 23, 22, 22, 24, 21, 22, 23, 23]
def tR11 : List Int := [21, 21, 22, 21, 23, 22, 23, 23, 20, 22, 22, 22, 23, 22, 22, 23]
def tR12 : List Int := [26, 26, 20, 19, 22, 23, 22, 25, 26, 26, 26, 27, 27, 26, 24, 25]
def tR13 : List Int := [19, 21, 26, 27, 27, 26, 27, 24, 21, 21, 26, 26, 28, 27, 27, 27]
def tR14 : List Int := [20, 24, 20, 21, 22, 21, 21, 23, 22, 22, 25, 25, 24, 24, 26, 23]
def tR15 : List Int := [26, 27, 26, 26, 27, 27, 27, 27, 27, 28, 27, 27, 27, 27, 27, 26]
def tR16 : List Int := [30]
def rowL : Nat → List Int
 | 0 => tR0
 | 1 => tR1
 | 2 => tR2
 | 3 => tR3
 | 4 => tR4
 | 5 => tR5
 | 6 => tR6
 | 7 => tR7
 | 8 => tR8
 | 9 => tR9
 | 10 => tR10
 | 11 => tR11
 | 12 => tR12
 | 13 => tR13
 | 14 => tR14
 | 15 => tR15
 | _ => tR16
def lensT : List Int := (List.range 257).map fun s : Nat => szI (s : Int)
attribute [local irreducible] rowL szI lensT symK ordN cntN codeN
end Go.Proofs.YtohbfcmmpaikhaaDoor

set_option linter.unusedVariables false
set_option linter.unusedSimpArgs false
namespace Go.Proofs.YtohbfcmmpaikhaaDoor
open Go Go.Lf Go.Proofs
attribute [local irreducible] Lf.rg Lf.ro Lf.PWp Lf.SOp Lf.ACall Lf.Scoped Lf.dg Lf.dw
set_option maxRecDepth 20000
set_option maxHeartbeats 4000000
def symT : List Nat := [48, 49, 50, 97, 99, 101, 105, 111, 115, 116, 32, 37, 45, 46, 47, 51, 52, 53, 54, 55, 56, 57, 61, 65, 95, 98, 100, 102, 103, 104, 108, 109, 110, 112, 114, 117, 58, 66, 67, 68, 69, 70, 71, 72, 73, 74, 75, 76, 77, 78, 79, 80, 81, 82, 83, 84, 85, 86, 87, 89, 106, 107, 113, 118, 119, 120, 121, 122, 38, 42, 44, 59, 88, 90, 33, 34, 40, 41, 63, 39, 43, 124, 35, 62, 0, 36, 64, 91, 93, 126, 94, 125, 60, 96, 123, 92, 195, 208, 128, 130, 131, 162, 184, 194, 224, 226, 153, 161, 167, 172, 176, 177, 179, 209, 216, 217, 227, 229, 230, 129, 132, 133, 134, 136, 146, 154, 156, 160, 163, 164, 169, 170, 173, 178, 181, 185, 186, 187, 189, 190, 196, 198, 228, 232, 233, 1, 135, 137, 138, 139, 140, 141, 143, 147, 149, 150, 151, 152, 155, 157, 158, 165, 166, 168, 174, 175, 180, 182, 183, 188, 191, 197, 231, 239, 9, 142, 144, 145, 148, 159, 171, 206, 215, 225, 236, 237, 199, 207, 234, 235, 192, 193, 200, 201, 202, 205, 210, 213, 218, 219, 238, 240, 242, 243, 255, 203, 204, 211, 212, 214, 221, 222, 223, 241, 244, 245, 246, 247, 248, 250, 251, 252, 253, 254, 2, 3, 4, 5, 6, 7, 8, 11, 12, 14, 15, 16, 17, 18, 19, 20, 21, 23, 24, 25, 26, 27, 28, 29, 30, 31, 127, 220, 249, 10, 13, 22, 256]
def lenO : List Nat := [5, 5, 5, 5, 5, 5, 5, 5, 5, 5, 6, 6, 6, 6, 6, 6, 6, 6, 6, 6, 6, 6, 6, 6, 6, 6, 6, 6, 6, 6, 6, 6, 6, 6, 6, 6, 7, 7, 7, 7, 7, 7, 7, 7, 7, 7, 7, 7, 7, 7, 7, 7, 7, 7, 7, 7, 7, 7, 7, 7, 7, 7, 7, 7, 7, 7, 7, 7, 8, 8, 8, 8, 8, 8, 10, 10, 10, 10, 10, 11, 11, 11, 12, 12, 13, 13, 13, 13, 13, 13, 14, 14, 15, 15, 15, 19, 19, 19, 20, 20, 20, 20, 20, 20, 20, 20, 21, 21, 21, 21, 21, 21, 21, 21, 21, 21, 21, 21, 21, 22, 22, 22, 22, 22, 22, 22, 22, 22, 22, 22, 22, 22, 22, 22, 22, 22, 22, 22, 22, 22, 22, 22, 22, 22, 22, 23, 23, 23, 23, 23, 23, 23, 23, 23, 23, 23, 23, 23, 23, 23, 23, 23, 23, 23, 23, 23, 23, 23, 23, 23, 23, 23, 23, 23, 24, 24, 24, 24, 24, 24, 24, 24, 24, 24, 24, 24, 25, 25, 25, 25, 26, 26, 26, 26, 26, 26, 26, 26, 26, 26, 26, 26, 26, 26, 26, 27, 27, 27, 27, 27, 27, 27, 27, 27, 27, 27, 27, 27, 27, 27, 27, 27, 27, 27, 28, 28, 28, 28, 28, 28, 28, 28, 28, 28, 28, 28, 28, 28, 28, 28, 28, 28, 28, 28, 28, 28, 28, 28, 28, 28, 28, 28, 28, 30, 30, 30, 30]
def codO : List Int := [0, 1, 2, 3, 4, 5, 6, 7, 8, 9, 20, 21, 22, 23, 24, 25, 26, 27, 28, 29, 30, 31, 32, 33, 34, 35, 36, 37, 38, 39, 40, 41, 42, 43, 44, 45, 92, 93, 94, 95, 96, 97, 98, 99, 100, 101, 102, 103, 104, 105, 106, 107, 108, 109, 110, 111, 112, 113, 114, 115, 116, 117, 118, 119, 120, 121, 122, 123, 248, 249, 250, 251, 252, 253, 1016, 1017, 1018, 1019, 1020, 2042, 2043, 2044, 4090, 4091, 8184, 8185, 8186, 8187, 8188, 8189, 16380, 16381, 32764, 32765, 32766, 524272, 524273, 524274, 1048550, 1048551, 1048552, 1048553, 1048554, 1048555, 1048556, 1048557, 2097116, 2097117, 2097118, 2097119, 2097120, 2097121, 2097122, 2097123, 2097124, 2097125, 2097126, 2097127, 2097128, 4194258, 4194259, 4194260, 4194261, 4194262, 4194263, 4194264, 4194265, 4194266, 4194267, 4194268, 4194269, 4194270, 4194271, 4194272, 4194273, 4194274, 4194275, 4194276, 4194277, 4194278, 4194279, 4194280, 4194281, 4194282, 4194283, 8388568, 8388569, 8388570, 8388571, 8388572, 8388573, 8388574, 8388575, 8388576, 8388577, 8388578, 8388579, 8388580, 8388581, 8388582, 8388583, 8388584, 8388585, 8388586, 8388587, 8388588, 8388589, 8388590, 8388591, 8388592, 8388593, 8388594, 8388595, 8388596, 16777194, 16777195, 16777196, 16777197, 16777198, 16777199, 16777200, 16777201, 16777202, 16777203, 16777204, 16777205, 33554412, 33554413, 33554414, 33554415, 67108832, 67108833, 67108834, 67108835, 67108836, 67108837, 67108838, 67108839, 67108840, 67108841, 67108842, 67108843, 67108844, 67108845, 67108846, 134217694, 134217695, 134217696, 134217697, 134217698, 134217699, 134217700, 134217701, 134217702, 134217703, 134217704, 134217705, 134217706, 134217707, 134217708, 134217709, 134217710, 134217711, 134217712, 268435426, 268435427, 268435428, 268435429, 268435430, 268435431, 268435432, 268435433, 268435434, 268435435, 268435436, 268435437, 268435438, 268435439, 268435440, 268435441, 268435442, 268435443, 268435444, 268435445, 268435446, 268435447, 268435448, 268435449, 268435450, 268435451, 268435452, 268435453, 268435454, 1073741820, 1073741821, 1073741822, 1073741823]
theorem symT_is : ordN 31 = symT := by decide +kernel
theorem symT_len : symT.length = 257 := by decide +kernel
theorem symT_lt : ∀ s ∈ symT, s < 257 := by decide +kernel
theorem lenO_is : symT.map (fun s : Nat => szI (s : Int)) = lenO.map (fun n : Nat => (n : Int)) := by decide +kernel
theorem codO_is : symT.map csI = codO := by decide +kernel
def outL : Nat → List Int
 | 0 => List.replicate 257 0
 | i + 1 => (outL i).set (symT.getD i 0) (codO.getD i 0)
def cdB : Nat → Int
 | 0 => 0
 | i + 1 => codO.getD i 0
def codesT : List Int := (List.range 257).map csI
theorem lenO_len : lenO.length = 257 := by decide +kernel
theorem sym_at {i : Nat} (h : i < 257) : ∃ s, symT[i]? = some s ∧ s < 257 ∧ symT.getD i 0 = s ∧ szI (s : Int) = (lenO.getD i 0 : Nat) := by
 have hl : i < symT.length := by rw [symT_len]; exact h
 refine ⟨symT[i], List.getElem?_eq_getElem hl, symT_lt _ (List.getElem_mem hl), ?_, ?_⟩
 ·rw [List.getD_eq_getElem?_getD, List.getElem?_eq_getElem hl]; rfl
 ·have e := congrArg (fun l : List Int => l[i]?) lenO_is
  have hl2 : i < lenO.length := by rw [lenO_len]; exact h
  rw [List.getElem?_map, List.getElem?_map, List.getElem?_eq_getElem hl, List.getElem?_eq_getElem hl2] at e
  rw [List.getD_eq_getElem?_getD, List.getElem?_eq_getElem hl2]
  exact Option.some.inj e
attribute [local irreducible] szI lensT symT codO lenO outL codesT csI cdB
end Go.Proofs.YtohbfcmmpaikhaaDoor

set_option linter.unusedVariables false
set_option linter.unusedSimpArgs false
namespace Go.Proofs.YtohbfcmmpaikhaaDoor
open Go Go.Lf Go.Proofs
attribute [local irreducible] Lf.rg Lf.ro Lf.PWp Lf.SOp Lf.ACall Lf.Scoped Lf.dg Lf.dw
set_option maxRecDepth 20000
set_option maxHeartbeats 4000000
attribute [go_sem] nbl_bkB
@[go_sem] theorem rnl_bk0 : rnl (ix [] 0) bkB = bkB := by
 rw [rnl_all]
 unfold bkB bkA b2
 have h : ∀ l : List Int, (l.map nA).map (rn (ix [] 0)) = l.map nA := by
  intro l; rw [List.map_map]; exact List.map_congr_left (fun _ _ => rfl)
 simp only [List.map_cons, List.map_append, h]
 rfl
def encS (L : List Int) (x : UInt8) : List Int := rpL L (csI x.toNat) (szI (x.toNat : Int))
def encL (b : List UInt8) : List Int := b.foldl encS []
theorem encL_snoc (b : List UInt8) (x : UInt8) : encL (b ++ [x]) = encS (encL b) x := by unfold encL; rw [List.foldl_append]; rfl
theorem rpL_len (L : List Int) (v n : Int) : L.length ≤ (rpL L v n).length ∧ (rpL L v n).length ≤ L.length + 32 := by
 unfold rpL
 split
 ·rename_i h
  rw [List.length_append, msb_len]
  unfold rpE at h
  split at h
  ·cases h
  ·omega
 ·omega
theorem encL_len (b : List UInt8) : (encL b).length ≤ 32 * b.length := by
 have key : ∀ (b : List UInt8) (L : List Int), (b.foldl encS L).length ≤ L.length + 32 * b.length := by
  intro b
  induction b with
  | nil => intro L; simp
  | cons x b ih =>
   intro L
   have h1 := ih (encS L x)
   have h2 := (rpL_len L (csI x.toNat) (szI (x.toNat : Int))).2
   rw [List.foldl_cons, List.length_cons]
   unfold encS at h1 ⊢
   omega
 have := key b []
 unfold encL
 simpa using this
theorem ksnoc {b : List UInt8} {i : Nat} {x : UInt8} (h : b[i]? = some x) : encL (b.take (i + 1)) = encS (encL (b.take i)) x := by
 rw [take_snoc h]; exact encL_snoc _ _
def bitK (b : List UInt8) : Int := b.foldl (fun n x => n + szI (x.toNat : Int)) 0
theorem szI_b (x : UInt8) : 0 ≤ szI (x.toNat : Int) ∧ szI (x.toNat : Int) ≤ 30 := by
 have := x.toNat_lt
 have hb := szI_bd (s := (x.toNat : Int)) (by omega) (by omega)
 omega
theorem encL_0 : encL [] = [] := rfl
theorem rowB_0 : rowB [] = [] := rfl
attribute [local irreducible] bkB cntN ordB fstI bseI csI szI rpL rowB encL bitK
theorem hencode (f q : Bool) (b : List UInt8) (hb : b.length ≤ 100000) : AEq Tryd.prog 77 [.sl f q (b.map byteA)] [] (.sl false false ((rowB (encL b)).map byteA)) [] := by
 have hr0 := rnl_bk0
 refine acall_body Tryd.func77 rfl Tryd.ntmps77 (by simp) (fun hsc => ?_); simp only [Lf.enter, Nat.reduceAdd]; clear hsc
 have hU := @hr0
 repeat' (first | (guard_target =~ PWp _ _ _ _ _ _ _; first | (refine pwp_seq_k (fun K hK => ?_)) | (refine pwp_block ?_) | (refine pwp_rg_then ?_)) | (guard_target =~ rg _ _ _ _ _ _ _; first | (guard_target =~ rg _ _ _ [] _ _ _; first | (refine rg_end ?_)) | (refine rg_a rfl (h := ?_)) | (refine rg_v rfl (h := ?_)) | (refine rg_s rfl ?_)) | (guard_target =~ SOp _ _ _ _ _ _; first | (guard_target =~ SOp _ _ ⟨_, .call ⟨.value (.func 95), _, _⟩, _, _, _, none⟩ _ _ _; first | (refine n_call (f := 95) rfl Tryd.call95 (h := AEq.sub' [] (hc := cbook) (hq := ?_)))) | (guard_target =~ SOp _ _ ⟨_, .alloc _, _, _, _, none⟩ _ _ _; first | (refine n_alloc rfl (by first | exact zv3 | exact zv4 | exact zv5 | exact zv22 | exact zv28 | exact zv53 | exact zv148 | exact zv158 | exact zv168 | exact zv169 | exact zv171 | fail) (hK := ?_)))) | (refine hK _ _ ?_; clear hK K))
 refine pwp_rowc (σ2 := [.box bkB, .row 257 3 1 (ordB.map natA), .box [.row 3 0, i64 0], .row 0 5 1 []]) 2 0 5 1 (by decide) rfl rfl rfl ?_
 refine pwp_loop_e [6, 10, 11, 12, 13, 14, 15, 16, 17, 18, 19, 20, 21] (fun i : Nat => [(10, i64 i)]) (fun i => [.box bkB, .row 257 3 1 (ordB.map natA), .box [.row 3 (rowB (encL (b.take i))).length, i64 (encL (b.take i)).length], .row (rowB (encL (b.take i))).length 5 1 ((rowB (encL (b.take i))).map byteA)]) (fun i => i ≤ b.length) (fun i => b.length - i) 0 (Nat.zero_le _) ?_ (by rw [List.take_zero, encL_0, rowB_0]; rfl) ?_
 ·have hU := True.intro
  (refine ⟨⟨_, (by (try simp (disch := omega) only [go_sem, seval, ↓reduceIte, hU]) <;> rfl), ?_⟩, trivial⟩ <;> (try (first | exact ale_eq (by with_reducible rfl) | exact ale_full | exact ale_sl (fun _ => rfl) | exact ale_sl (by simp) | exact ale_junk | exact ale_eq rfl)))
 ·rintro i hi
  simp only [mask, List.map_cons, List.map_nil, List.cons_append, List.nil_append]
  by_cases hlt : i < b.length
  ·obtain ⟨x, hx⟩ := ex_at hlt
   have hbs : rpL (encL (b.take i)) (csI x.toNat) (szI (x.toNat : Int)) = encL (b.take (i + 1)) := (ksnoc hx).symm
   have hel := encL_len (b.take i)
   have htl : (b.take i).length = i := by rw [List.length_take]; omega
   have hxl := x.toNat_lt
   have hU := @hbs
   repeat' (first | (guard_target =~ PWp _ _ _ _ _ _ _; first | (refine pwp_seq_k (fun K hK => ?_)) | (refine pwp_block ?_) | (refine pwp_rg_then ?_) | (refine pwp_rg ?_) | (refine pwp_skip ?_) | ((refine pwp_cond_d (fun hcd => ?_) (fun hcd => ?_)) <;> (try simp only [hcP] at hcd) <;> (try (exfalso; first | omega | exact absurd hcd (by assumption) | exact absurd (by assumption) hcd)))) | (guard_target =~ rg _ _ _ _ _ _ _; first | (guard_target =~ rg _ _ _ [] _ _ _; first | (refine rg_end ?_)) | (refine rg_a rfl (h := ?_)) | (refine rg_x rfl (hy := rfl) (h := ?_)) | (refine rg_v rfl (h := ?_)) | (refine rg_s rfl ?_)) | (guard_target =~ SOp _ _ _ _ _ _; first | (guard_target =~ SOp _ _ ⟨_, .call ⟨.value (.func 104), _, _⟩, _, _, _, none⟩ _ _ _; first | (refine n_call (f := 104) rfl Tryd.call104 (h := AEq.sub' [0, 1] (by refine ⟨?_, ?_, trivial⟩ <;> (first | exact arg_lit | exact arg_rn (by rfl) (by rfl))) (by exact sub_bk _) (bcode _ (by omega)) (ho := by exact okP_bk) (hq := ?_)))) | (guard_target =~ SOp _ _ ⟨_, .call ⟨.value (.func 103), _, _⟩, _, _, _, none⟩ _ _ _; first | (refine n_call (f := 103) rfl Tryd.call103 (h := AEq.sub' [_, _] (hc := rw_put _ _ _ (by omega)) (hq := ?_)))) | (guard_target =~ SOp _ _ ⟨_, .indexAddr _ _ _, _, _, _, none⟩ _ _ _; first | (refine n_index rfl (hK := ?_)))) | (refine hK _ _ ?_; clear hK K))
   refine ⟨i + 1, by omega, by omega, ?_, (by repeat' (first | exact agr_refl | refine agr_cons (by rfl) ?_)), (by first | rfl | (simp (disch := omega) only [go_sem, seval, ↓reduceIte, hU]; done) | (simp (disch := omega) only [go_sem, seval, ↓reduceIte, hU]; rfl))⟩
   (refine ⟨⟨_, (by (try simp (disch := omega) only [go_sem, seval, ↓reduceIte, hU]) <;> rfl), ?_⟩, trivial⟩ <;> (try (first | exact ale_eq (by with_reducible rfl) | exact ale_full | exact ale_sl (fun _ => rfl) | exact ale_sl (by simp) | exact ale_junk | exact ale_eq rfl)))
  ·have hib : i = b.length := by omega
   subst hib
   have hel := encL_len b
   have hrl := rowB_len (encL b)
   have htk : b.take b.length = b := List.take_length
   rw [htk]
   have hU := True.intro
   repeat' (first | (guard_target =~ PWp _ _ _ _ _ _ _; first | (refine pwp_seq_k (fun K hK => ?_)) | (refine pwp_rg_then ?_) | (refine pwp_ret ?_) | (refine pwp_exit ?_) | ((refine pwp_cond_d (fun hcd => ?_) (fun hcd => ?_)) <;> (try simp only [hcP] at hcd) <;> (try (exfalso; first | omega | exact absurd hcd (by assumption) | exact absurd (by assumption) hcd)))) | (guard_target =~ rg _ _ _ _ _ _ _; first | (guard_target =~ rg _ _ _ [] _ _ _; first | (refine rg_end ?_)) | (refine rg_a rfl (h := ?_)) | (refine rg_v rfl (h := ?_)) | (refine rg_s rfl ?_)) | (guard_target =~ SOp _ _ _ _ _ _; first | (guard_target =~ SOp _ _ ⟨_, .call ⟨.value (.func 105), _, _⟩, _, _, _, none⟩ _ _ _; first | (refine n_call (f := 105) rfl Tryd.call105 (h := AEq.sub' [_, _] (hc := rw_bytes _ _ (by omega)) (hq := ?_))))) | (guard_target =~ (_ ∨ _) ∧ _; first | ((refine end_d [] (by rw [Tryd.results77, Lf.res1]) (ale_1 ?_) ?_) <;> (try (first | exact ale_eq (by with_reducible rfl) | exact ale_full | exact ale_sl (fun _ => rfl) | exact ale_sl (by simp) | exact ale_junk | exact ale_eq rfl | exact stq (by with_reducible rfl) | exact stq (by rfl) | exact stq (by simp (disch := omega) only [go_sem, seval, ↓reduceIte, hU]))))) | (refine hK _ _ ?_; clear hK K) | (apply_assumption (exfalso := false) (symm := false)))
end Go.Proofs.YtohbfcmmpaikhaaDoor

