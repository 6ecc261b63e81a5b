import Derived.Test.YtohbfcmmpaikhaaDoorK07
import Derived.Test.YtohbfcmmpaikhaaDoorLc
set_option linter.unusedVariables false
set_option linter.unusedSimpArgs false
namespace Go.Proofs.YtohbfcmmpaikhaaDoor
open Go Go.Lf Go.Proofs
attribute [local irreducible] Lf.rg Lf.ro Lf.PWp Lf.SOp Lf.ACall Lf.Scoped Lf.dg Lf.dw
set_option maxRecDepth 20000
set_option maxHeartbeats 4000000
def bkB : List AV := bkA (b2 31 0 257 31 31)
def ordB : List Nat := ordN 31
def fstI (n : Nat) : Int := codeN n * 2
def bseI (n : Nat) : Int := ((ordN n).length : Int)
theorem ordB_len : ordB.length = 257 := ordN_31
theorem bkB_0 : bkB[0]? = some (bl true) := by unfold bkB bkA; rfl
theorem bkB_code {s : Nat} (hs : s < 257) : bkB[1 + s]? = some (i64 (csI s)) := by
  have hb := szI_bd (s := (s : Int)) (by omega) (by omega)
  have e : bkB = [bl true] ++ ((codesL 31 0).map nA ++ (.row 1 257 :: ((firstL 31).map nA ++ ((cntL 257).map nA ++ (baseL 31).map nA)))) := by unfold bkB bkA b2; simp
  rw [e, List.getElem?_append_right (by simp), show 1 + s - ([bl true] : List AV).length = s from by simp, List.getElem?_append_left (by simp [codesL]; omega), List.getElem?_map]
  have hc : (codesL 31 0)[s]? = some (csI s) := by
    unfold codesL
    rw [List.getElem?_map, List.getElem?_range hs, Option.map_some, if_pos (.inl (by omega))]
  rw [hc]; rfl
theorem bkB_ord : bkB[258]? = some (.row 1 257) := bk_o_at (b2_wf 31 0 257 31 31)
theorem bkB_first {n : Nat} (h1 : 1 ≤ n) (hn : n ≤ 30) : bkB[259 + n]? = some (i64 (fstI n)) := by
  have e : bkB = (bl true :: ((codesL 31 0).map nA ++ [.row 1 257])) ++ ((firstL 31).map nA ++ ((cntL 257).map nA ++ (baseL 31).map nA)) := by unfold bkB bkA b2; simp
  have hl : (bl true :: ((codesL 31 0).map nA ++ [AV.row 1 257])).length = 259 := by simp [codesL]
  rw [e, List.getElem?_append_right (by omega), hl, show 259 + n - 259 = n from by omega, List.getElem?_append_left (by simp [firstL]; omega), List.getElem?_map]
  have hc : (firstL 31)[n]? = some (fstI n) := by
    unfold firstL
    rw [List.getElem?_map, List.getElem?_range (by omega), Option.map_some, if_pos ⟨h1, by omega⟩]; rfl
  rw [hc]; rfl
theorem bkB_count {n : Nat} (hn : n ≤ 30) : bkB[290 + n]? = some (i64 (cntN 257 n)) := by
  refine bk_count_at (b2_wf 31 0 257 31 31) ?_
  show (cntL 257)[n]? = _
  unfold cntL
  rw [List.getElem?_map, List.getElem?_range (by omega)]; rfl
theorem bkB_base {n : Nat} (h1 : 1 ≤ n) (hn : n ≤ 30) : bkB[321 + n]? = some (i64 (bseI n)) := by
  have e : bkB = (bl true :: ((codesL 31 0).map nA ++ .row 1 257 :: ((firstL 31).map nA ++ (cntL 257).map nA))) ++ (baseL 31).map nA := by unfold bkB bkA b2; simp
  have hl : (bl true :: ((codesL 31 0).map nA ++ .row 1 257 :: ((firstL 31).map nA ++ (cntL 257).map nA))).length = 321 := by simp [codesL, firstL, cntL]
  rw [e, List.getElem?_append_right (by omega), hl, show 321 + n - 321 = n from by omega, List.getElem?_map]
  have hc : (baseL 31)[n]? = some (bseI n) := by
    unfold baseL
    rw [List.getElem?_map, List.getElem?_range (by omega), Option.map_some, if_pos ⟨h1, by omega⟩]; rfl
  rw [hc]; rfl
@[go_sem] theorem fz_bkB {σ : Sto} : fzl [0, 1] σ bkB = bkB := fz_b2 31 0 257 31 31
theorem cbook : AEq Tryd.prog 95 [] [] (.ptr 0 0) [.box bkB, .row 257 3 1 (ordB.map natA)] := cmake
def findY (c n : Int) : Bool := decide (1 ≤ n ∧ n ≤ 30 ∧ fstI n.toNat ≤ c ∧ c - fstI n.toNat < cntN 257 n.toNat)
def findS (c n : Int) : Int := (ordB.getD (bseI n.toNat + (c - fstI n.toNat)).toNat 0 : Nat)
theorem tab_bd : ∀ n : Fin 31, 0 ≤ fstI n.val ∧ fstI n.val ≤ 4294967296 ∧ 0 ≤ bseI n.val ∧ 0 ≤ cntN 257 n.val ∧ bseI n.val + cntN 257 n.val ≤ 257 := by decide +kernel
theorem rnl_all (f : Nat → Nat) : ∀ xs, rnl f xs = xs.map (rn f)
  | [] => rfl
  | x :: xs => by rw [rnl, rnl_all f xs]; rfl
theorem scpl_all (n : Nat) : ∀ xs, scpl n xs = xs.all (scp n)
  | [] => rfl
  | x :: xs => by rw [scpl, scpl_all n xs]; rfl
theorem nbl_all : ∀ xs, nbl xs = xs.all nb
  | [] => rfl
  | x :: xs => by rw [nbl, nbl_all xs]; rfl
@[go_sem] theorem rnl_bkB (L : Nat) : rnl (ix [0, 1] L) bkB = bkB := by
  rw [rnl_all]
  unfold bkB bkA b2
  have h : ∀ l : List Int, (l.map nA).map (rn (ix [0, 1] L)) = l.map nA := by
    intro l; rw [List.map_map]; exact List.map_congr_left (fun _ _ => rfl)
  simp only [List.map_cons, List.map_append, h]
  rfl
theorem scpl_bkB : scpl 2 bkB = true := by
  rw [scpl_all]
  unfold bkB bkA b2
  have h : ∀ l : List Int, (l.map nA).all (scp 2) = true := by
    intro l; rw [List.all_map]; exact List.all_eq_true.2 (fun _ _ => rfl)
  simp only [List.all_cons, List.all_append, h]
  rfl
@[go_sem] theorem nbl_bkB : nbl bkB = true := by
  rw [nbl_all]
  unfold bkB bkA b2
  have h : ∀ l : List Int, (l.map nA).all nb = true := by
    intro l; rw [List.all_map]; exact List.all_eq_true.2 (fun _ _ => rfl)
  simp only [List.all_cons, List.all_append, h]
  rfl
theorem sub_bk (σ : Sto) : SubOk [0, 1] [.box bkB, .row 257 3 1 (ordB.map natA)] (.box bkB :: .row 257 3 1 (ordB.map natA) :: σ) := by
  refine SubOk.mk' (by decide) ⟨?_, scpl_bkB, rfl, purl_nat ordB, trivial⟩
  show some (Ob.box bkB) = some (Ob.box (rnl _ bkB))
  rw [rnl_bkB]
theorem okP_bk : ([.box bkB, .row 257 3 1 (ordB.map natA)] : Sto).all okP = true := by
  have h1 := nbl_bkB
  have h2 := purl_nat ordB
  simp only [List.all_cons, List.all_nil, okP, h1, h2, Bool.and_self]
attribute [local irreducible] bkB cntN ordB fstI bseI csI
theorem bhas (s : Int) : AEq Tryd.prog 124 [.ptr 0 0, i64 s] [.box bkB, .row 257 3 1 (ordB.map natA)] (bl (decide (0 ≤ s) && decide (s ≤ 256))) [.box bkB, .row 257 3 1 (ordB.map natA)] := by
  have h0 := bkB_0
  refine acall_body Tryd.func124 rfl Tryd.ntmps124 (by simp) (fun hsc => ?_); simp only [Lf.enter, Nat.reduceAdd]; clear hsc
  have hU := @h0
  repeat' (first | (guard_target =~ PWp _ _ _ _ _ _ _; first | (refine pwp_seq_k (fun K hK => ?_)) | (refine pwp_rg_then ?_) | (refine pwp_ret ?_)) | (guard_target =~ rg _ _ _ _ _ _ _; first | (guard_target =~ rg _ _ _ (⟨_, .move _, _, _, _, some _⟩ :: _) _ _ _; first | (refine rg_gtp rfl (h := ?_)) | (refine rg_gq rfl (h := ?_))) | (guard_target =~ rg _ _ _ (⟨_, .binOp _ _ _ _ _, _, _, _, some _⟩ :: _) _ _ _; first | (refine rg_gtp rfl (h := ?_)) | (refine rg_gq rfl (h := ?_))) | (guard_target =~ rg _ _ _ (⟨_, .load _ _, _, _, _, some _⟩ :: _) _ _ _; first | (refine rg_gtp rfl (h := ?_)) | (refine rg_gq rfl (h := ?_))) | (guard_target =~ rg _ _ _ (⟨_, .nilCheck _, _, _, _, some _⟩ :: _) _ _ _; first | (refine rg_gtp rfl (h := ?_)) | (refine rg_gq rfl (h := ?_))) | (guard_target =~ rg _ _ _ (⟨_, .fieldAddr _ _ _, _, _, _, some _⟩ :: _) _ _ _; first | (refine rg_gtp rfl (h := ?_)) | (refine rg_gq rfl (h := ?_))) | (guard_target =~ rg _ _ _ [] _ _ _; first | (refine rg_end ?_)) | (refine rg_a rfl (h := ?_)) | (refine rg_v rfl (h := ?_))) | (guard_target =~ (_ ∨ _) ∧ _; first | ((refine end_d [0, 1] (by rw [Tryd.results124, Lf.res1]) (ale_1 ?_) ?_) <;> (try (first | exact ale_eq (by with_reducible rfl) | exact ale_full | exact ale_sl (fun _ => rfl) | exact ale_sl (by simp) | exact ale_junk | exact ale_eq rfl | exact stq (by with_reducible rfl) | exact stq (by rfl) | exact stq (by simp (disch := omega) only [go_sem, seval, ↓reduceIte, hU]))))) | (refine hK _ _ ?_; clear hK K))
theorem bcode (s : Nat) (h1 : s < 257) : AEq Tryd.prog 104 [.ptr 0 0, i64 (s : Int)] [.box bkB, .row 257 3 1 (ordB.map natA)] (.tu [i64 (csI s), i64 (szI (s : Int))]) [.box bkB, .row 257 3 1 (ordB.map natA)] := by
  have hc : bkB[1 + s * 1]? = some (i64 (csI s)) := by rw [Nat.mul_one]; exact bkB_code h1
  have h2 : (s : Int) ≤ 256 := by omega
  refine acall_body Tryd.func104 rfl Tryd.ntmps104 (by simp) (fun hsc => ?_); simp only [Lf.enter, Nat.reduceAdd]; clear hsc
  have hU := @hc
  repeat' (first | (guard_target =~ PWp _ _ _ _ _ _ _; first | (refine pwp_draw_ord (id := 3) [0, 1, 2, 3, 4, 5, 6, 7, 8, 9] [] mixed (by kernel_rfl) (by kernel_rfl) ?_) | (refine pwp_seq_k (fun K hK => ?_)) | (refine pwp_rg_then ?_) | (refine pwp_ret ?_) | (refine pwp_skip ?_) | ((refine pwp_cond_d (fun hcd => ?_) (fun hcd => ?_)) <;> (try simp only [hcP] at hcd) <;> (try (exfalso; first | omega | exact absurd hcd (by assumption) | exact absurd (by assumption) hcd)))) | (guard_target =~ rg _ _ _ _ _ _ _; first | (guard_target =~ rg _ _ _ [] _ _ _; first | (refine rg_end ?_)) | (refine rg_a rfl (h := ?_)) | (refine rg_v rfl (h := ?_)) | (refine rg_s rfl ?_)) | (guard_target =~ SOp _ _ _ _ _ _; first | (guard_target =~ SOp _ _ ⟨_, .call ⟨.value (.func 124), _, _⟩, _, _, _, none⟩ _ _ _; first | (refine n_call (f := 124) rfl Tryd.call124 (h := AEq.sub' [0, 1] (by refine ⟨?_, ?_, trivial⟩ <;> (first | exact arg_lit | exact arg_rn (by rfl) (by rfl))) (by exact sub_bk _) (bhas _) (ho := by exact okP_bk) (hq := ?_))))) | (guard_target =~ dw _ _ _ _ _ _ _ _ _ _; first | ((first | guard_target =~ dw _ _ _ _ _ (0 :: _) _ _ _ _ | guard_target =~ dw _ _ _ _ _ (1 :: _) _ _ _ _ | guard_target =~ dw _ _ _ _ _ (6 :: _) _ _ _ _); first | (refine dw_p rfl rfl (h := (fun τ => ro_v rfl (h := ro_end ⟨rfl, rfl⟩))) (hk := ?_)) | (refine dw_c rfl rfl (h := ro_v rfl (h := ro_end ⟨rfl, rfl⟩)) (hk := ?_))) | (guard_target =~ dw _ _ _ _ _ (2 :: _) _ _ _ _; first | (refine dw_p rfl rfl (h := (fun τ => ro_v rfl (h := ro_end ⟨rfl, rfl⟩))) (hk := ?_)) | (refine dw_c rfl rfl (h := ro_v rfl (h := ro_end ⟨rfl, rfl⟩)) (hk := ?_))) | (guard_target =~ dw _ _ _ _ _ (3 :: _) _ _ _ _; first | (refine dw_p rfl rfl (h := (fun τ => ro_v rfl (h := ro_end ⟨rfl, rfl⟩))) (hk := ?_)) | (refine dw_c rfl rfl (h := ro_v rfl (h := ro_end ⟨rfl, rfl⟩)) (hk := ?_))) | (guard_target =~ dw _ _ _ _ _ (4 :: _) _ _ _ _; first | (refine dw_c rfl rfl (h := ro_s (h := n_index_arr rfl (hK := ro_end ⟨rfl, rfl⟩))) (hk := ?_))) | (guard_target =~ dw _ _ _ _ _ (5 :: _) _ _ _ _; first | (refine dw_p rfl rfl (h := (fun τ => ro_v rfl (h := ro_end ⟨rfl, rfl⟩))) (hk := ?_)) | (refine dw_c rfl rfl (h := ro_v rfl (h := ro_end ⟨rfl, rfl⟩)) (hk := ?_))) | (guard_target =~ dw _ _ _ _ _ (7 :: _) _ _ _ _; first | (refine dw_p rfl rfl (h := (fun τ => ro_s (h := n_call (f := 121) rfl Tryd.call121 (h := AEq.pure' (by first | ((repeat' (first | exact trivial | (first | exact arg_lit | exact arg_sl id id | exact arg_nil | exact arg_sl (by simp) id | exact arg_sl (by simp) (fun _ => rfl) | exact arg_row_m (by rfl) (by rfl) (fun _ => rfl) | exact arg_vw_m (by rfl) (by rfl) (fun _ => rfl) | exact arg_rn (by rfl) (by rfl) | exact arg_junk | exact arg_row_mm (by rfl) (by rfl) (fun _ => rfl)) | refine ⟨?_, ?_⟩)); done) | fail) (csize _ (by first | assumption | omega) (by first | assumption | omega)) (hq := ro_end ⟨rfl, rfl⟩))))) (hk := ?_))) | ((first | guard_target =~ dw _ _ _ _ _ (8 :: _) _ _ _ _ | guard_target =~ dw _ _ _ _ _ (9 :: _) _ _ _ _); first | (refine dw_p rfl rfl (h := (fun τ => ro_a rfl (h := ro_end ⟨rfl, rfl⟩))) (hk := ?_))) | (guard_target =~ dw _ _ _ _ _ [] _ _ _ _; first | (refine dw_nil ?_))) | (guard_target =~ (_ ∨ _) ∧ _; first | ((refine end_d [0, 1] (by rw [Tryd.results104, Lf.res2]) (ale_2 ?_ ?_) ?_) <;> (try (first | exact ale_eq (by with_reducible rfl) | exact ale_full | exact ale_sl (fun _ => rfl) | exact ale_sl (by simp) | exact ale_junk | exact ale_eq rfl | exact stq (by with_reducible rfl) | exact stq (by rfl) | exact stq (by simp (disch := omega) only [go_sem, seval, ↓reduceIte, hU]))))) | (refine hK _ _ ?_; clear hK K))
end Go.Proofs.YtohbfcmmpaikhaaDoor
