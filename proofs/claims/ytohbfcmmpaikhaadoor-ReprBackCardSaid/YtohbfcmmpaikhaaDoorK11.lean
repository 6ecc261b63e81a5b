import Derived.Test.YtohbfcmmpaikhaaDoorK10
import Derived.Test.YtohbfcmmpaikhaaDoorLc
set_option linter.unusedVariables false
set_option linter.unusedSimpArgs false
namespace Go.Proofs.YtohbfcmmpaikhaaDoor
open Go Go.Lf Go.Proofs
attribute [local irreducible] Lf.rg Lf.ro Lf.PWp Lf.SOp Lf.ACall Lf.Scoped Lf.dg Lf.dw
set_option maxRecDepth 20000
set_option maxHeartbeats 4000000
def symT : List Nat := [48, 49, 50, 97, 99, 101, 105, 111, 115, 116, 32, 37, 45, 46, 47, 51, 52, 53, 54, 55, 56, 57, 61, 65, 95, 98, 100, 102, 103, 104, 108, 109, 110, 112, 114, 117, 58, 66, 67, 68, 69, 70, 71, 72, 73, 74, 75, 76, 77, 78, 79, 80, 81, 82, 83, 84, 85, 86, 87, 89, 106, 107, 113, 118, 119, 120, 121, 122, 38, 42, 44, 59, 88, 90, 33, 34, 40, 41, 63, 39, 43, 124, 35, 62, 0, 36, 64, 91, 93, 126, 94, 125, 60, 96, 123, 92, 195, 208, 128, 130, 131, 162, 184, 194, 224, 226, 153, 161, 167, 172, 176, 177, 179, 209, 216, 217, 227, 229, 230, 129, 132, 133, 134, 136, 146, 154, 156, 160, 163, 164, 169, 170, 173, 178, 181, 185, 186, 187, 189, 190, 196, 198, 228, 232, 233, 1, 135, 137, 138, 139, 140, 141, 143, 147, 149, 150, 151, 152, 155, 157, 158, 165, 166, 168, 174, 175, 180, 182, 183, 188, 191, 197, 231, 239, 9, 142, 144, 145, 148, 159, 171, 206, 215, 225, 236, 237, 199, 207, 234, 235, 192, 193, 200, 201, 202, 205, 210, 213, 218, 219, 238, 240, 242, 243, 255, 203, 204, 211, 212, 214, 221, 222, 223, 241, 244, 245, 246, 247, 248, 250, 251, 252, 253, 254, 2, 3, 4, 5, 6, 7, 8, 11, 12, 14, 15, 16, 17, 18, 19, 20, 21, 23, 24, 25, 26, 27, 28, 29, 30, 31, 127, 220, 249, 10, 13, 22, 256]
def lenO : List Nat := [5, 5, 5, 5, 5, 5, 5, 5, 5, 5, 6, 6, 6, 6, 6, 6, 6, 6, 6, 6, 6, 6, 6, 6, 6, 6, 6, 6, 6, 6, 6, 6, 6, 6, 6, 6, 7, 7, 7, 7, 7, 7, 7, 7, 7, 7, 7, 7, 7, 7, 7, 7, 7, 7, 7, 7, 7, 7, 7, 7, 7, 7, 7, 7, 7, 7, 7, 7, 8, 8, 8, 8, 8, 8, 10, 10, 10, 10, 10, 11, 11, 11, 12, 12, 13, 13, 13, 13, 13, 13, 14, 14, 15, 15, 15, 19, 19, 19, 20, 20, 20, 20, 20, 20, 20, 20, 21, 21, 21, 21, 21, 21, 21, 21, 21, 21, 21, 21, 21, 22, 22, 22, 22, 22, 22, 22, 22, 22, 22, 22, 22, 22, 22, 22, 22, 22, 22, 22, 22, 22, 22, 22, 22, 22, 22, 23, 23, 23, 23, 23, 23, 23, 23, 23, 23, 23, 23, 23, 23, 23, 23, 23, 23, 23, 23, 23, 23, 23, 23, 23, 23, 23, 23, 23, 24, 24, 24, 24, 24, 24, 24, 24, 24, 24, 24, 24, 25, 25, 25, 25, 26, 26, 26, 26, 26, 26, 26, 26, 26, 26, 26, 26, 26, 26, 26, 27, 27, 27, 27, 27, 27, 27, 27, 27, 27, 27, 27, 27, 27, 27, 27, 27, 27, 27, 28, 28, 28, 28, 28, 28, 28, 28, 28, 28, 28, 28, 28, 28, 28, 28, 28, 28, 28, 28, 28, 28, 28, 28, 28, 28, 28, 28, 28, 30, 30, 30, 30]
def codO : List Int := [0, 1, 2, 3, 4, 5, 6, 7, 8, 9, 20, 21, 22, 23, 24, 25, 26, 27, 28, 29, 30, 31, 32, 33, 34, 35, 36, 37, 38, 39, 40, 41, 42, 43, 44, 45, 92, 93, 94, 95, 96, 97, 98, 99, 100, 101, 102, 103, 104, 105, 106, 107, 108, 109, 110, 111, 112, 113, 114, 115, 116, 117, 118, 119, 120, 121, 122, 123, 248, 249, 250, 251, 252, 253, 1016, 1017, 1018, 1019, 1020, 2042, 2043, 2044, 4090, 4091, 8184, 8185, 8186, 8187, 8188, 8189, 16380, 16381, 32764, 32765, 32766, 524272, 524273, 524274, 1048550, 1048551, 1048552, 1048553, 1048554, 1048555, 1048556, 1048557, 2097116, 2097117, 2097118, 2097119, 2097120, 2097121, 2097122, 2097123, 2097124, 2097125, 2097126, 2097127, 2097128, 4194258, 4194259, 4194260, 4194261, 4194262, 4194263, 4194264, 4194265, 4194266, 4194267, 4194268, 4194269, 4194270, 4194271, 4194272, 4194273, 4194274, 4194275, 4194276, 4194277, 4194278, 4194279, 4194280, 4194281, 4194282, 4194283, 8388568, 8388569, 8388570, 8388571, 8388572, 8388573, 8388574, 8388575, 8388576, 8388577, 8388578, 8388579, 8388580, 8388581, 8388582, 8388583, 8388584, 8388585, 8388586, 8388587, 8388588, 8388589, 8388590, 8388591, 8388592, 8388593, 8388594, 8388595, 8388596, 16777194, 16777195, 16777196, 16777197, 16777198, 16777199, 16777200, 16777201, 16777202, 16777203, 16777204, 16777205, 33554412, 33554413, 33554414, 33554415, 67108832, 67108833, 67108834, 67108835, 67108836, 67108837, 67108838, 67108839, 67108840, 67108841, 67108842, 67108843, 67108844, 67108845, 67108846, 134217694, 134217695, 134217696, 134217697, 134217698, 134217699, 134217700, 134217701, 134217702, 134217703, 134217704, 134217705, 134217706, 134217707, 134217708, 134217709, 134217710, 134217711, 134217712, 268435426, 268435427, 268435428, 268435429, 268435430, 268435431, 268435432, 268435433, 268435434, 268435435, 268435436, 268435437, 268435438, 268435439, 268435440, 268435441, 268435442, 268435443, 268435444, 268435445, 268435446, 268435447, 268435448, 268435449, 268435450, 268435451, 268435452, 268435453, 268435454, 1073741820, 1073741821, 1073741822, 1073741823]
theorem symT_is : ordN 31 = symT := by decide +kernel
theorem symT_len : symT.length = 257 := by decide +kernel
theorem symT_lt : ∀ s ∈ symT, s < 257 := by decide +kernel
theorem lenO_is : symT.map (fun s : Nat => szI (s : Int)) = lenO.map (fun n : Nat => (n : Int)) := by decide +kernel
theorem codO_is : symT.map csI = codO := by decide +kernel
def outL : Nat → List Int
  | 0 => List.replicate 257 0
  | i + 1 => (outL i).set (symT.getD i 0) (codO.getD i 0)
def cdB : Nat → Int
  | 0 => 0
  | i + 1 => codO.getD i 0
theorem cdB_0 : cdB 0 = 0 := rfl
theorem cdB_s (i : Nat) : cdB (i + 1) = codO.getD i 0 := rfl
def codesT : List Int := (List.range 257).map csI
theorem outL_all : outL 257 = codesT := by decide +kernel
theorem outL_len : ∀ i, (outL i).length = 257
  | 0 => by simp [outL]
  | i + 1 => by rw [outL, List.length_set, outL_len i]
theorem lenO_up : ∀ i : Fin 256, lenO.getD i.val 0 ≤ lenO.getD (i.val + 1) 0 ∧ lenO.getD (i.val + 1) 0 ≤ 30 := by decide +kernel
theorem codO_up : ∀ i : Fin 256, codO.getD (i.val + 1) 0 = (codO.getD i.val 0 + 1) * 2 ^ (lenO.getD (i.val + 1) 0 - lenO.getD i.val 0) := by decide +kernel
theorem codO_bd : ∀ i : Fin 257, 0 ≤ codO.getD i.val 0 ∧ codO.getD i.val 0 ≤ 1073741823 := by decide +kernel
theorem codO_0 : codO.getD 0 0 = 0 := by decide +kernel
theorem lenO_len : lenO.length = 257 := by decide +kernel
theorem sym_at {i : Nat} (h : i < 257) : ∃ s, symT[i]? = some s ∧ s < 257 ∧ symT.getD i 0 = s ∧ szI (s : Int) = (lenO.getD i 0 : Nat) := by
  have hl : i < symT.length := by rw [symT_len]; exact h
  refine ⟨symT[i], List.getElem?_eq_getElem hl, symT_lt _ (List.getElem_mem hl), ?_, ?_⟩
  · rw [List.getD_eq_getElem?_getD, List.getElem?_eq_getElem hl]; rfl
  · have e := congrArg (fun l : List Int => l[i]?) lenO_is
    have hl2 : i < lenO.length := by rw [lenO_len]; exact h
    rw [List.getElem?_map, List.getElem?_map, List.getElem?_eq_getElem hl, List.getElem?_eq_getElem hl2] at e
    rw [List.getD_eq_getElem?_getD, List.getElem?_eq_getElem hl2]
    exact Option.some.inj e
theorem pow_bd : ∀ k : Fin 32, (1 : Int) ≤ 2 ^ k.val ∧ (2 : Int) ^ k.val ≤ 2147483648 := by decide +kernel
theorem zb_bd {x y z : Int} {c a n : Nat} (h : (x + 1) * 2 ^ (n - a) = z) (hup : y = (x + 1) * 2 ^ (c - a)) (hy : 0 ≤ y ∧ y ≤ 1073741823) (hx : 0 ≤ x) (h1 : a ≤ n) (h2 : n ≤ c) : 0 ≤ z ∧ z ≤ 2147483648 := by
  have p1 : (1 : Int) ≤ 2 ^ (n - a) := Int.pow_pos (by decide)
  have p2 : (1 : Int) ≤ 2 ^ (c - n) := Int.pow_pos (by decide)
  have e : (2 : Int) ^ (c - a) = 2 ^ (n - a) * 2 ^ (c - n) := by rw [← Int.pow_add]; congr 1; omega
  have hz0 : 0 ≤ z := by rw [← h]; exact Int.mul_nonneg (by omega) (by omega)
  rw [e, ← Int.mul_assoc, h] at hup
  have : z * 1 ≤ z * 2 ^ (c - n) := Int.mul_le_mul_of_nonneg_left p2 hz0
  omega
theorem rorder2 : AEq Tryd.prog 125 [] [] (.sl false false (symT.map natA)) [] := by
  have h := rorder
  rw [symT_is] at h
  exact h
attribute [local irreducible] szI lensT symT codO lenO outL codesT csI cdB
theorem rcodes : AEq Tryd.prog 100 [] [] (.sl false false (codesT.map intA)) [] := by
  have hsl := symT_len
  have hll := lensT_len
  have hz : List.replicate 257 [AV.lit (.int .i64 0)] = List.map intA (outL 0) := by with_unfolding_all rfl
  refine acall_body Tryd.func100 rfl Tryd.ntmps100 (by simp) (fun hsc => ?_); simp only [Lf.enter, Nat.reduceAdd]; clear hsc
  have hU := @hz
  repeat' (first | (guard_target =~ PWp _ _ _ _ _ _ _; first | (refine pwp_seq_k (fun K hK => ?_)) | (refine pwp_block ?_) | (refine pwp_rg_then ?_)) | (guard_target =~ rg _ _ _ _ _ _ _; first | (guard_target =~ rg _ _ _ [] _ _ _; first | (refine rg_end ?_)) | (refine rg_a rfl (h := ?_)) | (refine rg_s rfl ?_)) | (guard_target =~ SOp _ _ _ _ _ _; first | (guard_target =~ SOp _ _ ⟨_, .makeSlice _ _ _, _, _, _, none⟩ _ _ _; first | (refine n_make rfl (he := by first | exact eo3 | exact eo4 | exact eo53 | fail) (hK := ?_))) | (guard_target =~ SOp _ _ ⟨_, .call ⟨.value (.func 125), _, _⟩, _, _, _, none⟩ _ _ _; first | (refine n_call (f := 125) rfl Tryd.call125 (h := AEq.pure' (by first | ((repeat' (first | exact trivial | (first | exact arg_lit | exact arg_sl id id | exact arg_nil | exact arg_sl (by simp) id | exact arg_sl (by simp) (fun _ => rfl) | exact arg_row_m (by rfl) (by rfl) (fun _ => rfl) | exact arg_vw_m (by rfl) (by rfl) (fun _ => rfl) | exact arg_rn (by rfl) (by rfl) | exact arg_junk | exact arg_row_mm (by rfl) (by rfl) (fun _ => rfl)) | refine ⟨?_, ?_⟩)); done) | fail) rorder2 (hq := ?_)))) | (guard_target =~ SOp _ _ ⟨_, .call ⟨.value (.func 101), _, _⟩, _, _, _, none⟩ _ _ _; first | (refine n_call (f := 101) rfl Tryd.call101 (h := AEq.pure' (by first | ((repeat' (first | exact trivial | (first | exact arg_lit | exact arg_sl id id | exact arg_nil | exact arg_sl (by simp) id | exact arg_sl (by simp) (fun _ => rfl) | exact arg_row_m (by rfl) (by rfl) (fun _ => rfl) | exact arg_vw_m (by rfl) (by rfl) (fun _ => rfl) | exact arg_rn (by rfl) (by rfl) | exact arg_junk | exact arg_row_mm (by rfl) (by rfl) (fun _ => rfl)) | refine ⟨?_, ?_⟩)); done) | fail) rlengths (hq := ?_))))) | (refine hK _ _ ?_; clear hK K))
  refine pwp_loop_e [4, 5, 6, 10, 11, 12, 13, 14, 15, 16, 17, 18, 19, 20, 21, 22, 23, 24, 25, 26, 27, 28, 29, 30, 31, 32, 33, 34, 35, 36, 37, 38, 39, 40, 41, 42, 43, 44, 45, 46, 47] (fun i : Nat => [(5, i64 i), (4, i64 (cdB i))]) (fun i => [.row 0 3 1 ((outL i).map intA)]) (fun i => i ≤ 257) (fun i => 257 - i) 0 (Nat.zero_le _) ?_ ?_ ?_
  · have hU := True.intro
    (refine ⟨⟨_, (by (try simp (disch := omega) only [go_sem, seval, ↓reduceIte, hU]) <;> rfl), ?_⟩, ⟨_, (by (try simp (disch := omega) only [go_sem, seval, ↓reduceIte, hU]) <;> rfl), ?_⟩, trivial⟩ <;> (try (first | exact ale_eq (by with_reducible rfl) | exact ale_full | exact ale_sl (fun _ => rfl) | exact ale_sl (by simp) | exact ale_junk | exact ale_eq rfl)))
    all_goals exact ale_i cdB_0.symm
  · first | rfl | (rw [← hz]; rfl) | trace_state
  · rintro i hi
    simp only [mask, List.map_cons, List.map_nil, List.cons_append, List.nil_append]
    by_cases hlt : i < 257
    · obtain ⟨s, hs, hs1, hs2, hs3⟩ := sym_at hlt
      have hsz := lensT_at hs1
      have hol := outL_len i
      have hob := codO_bd ⟨i, hlt⟩
      dsimp only at hob
      obtain ⟨v0, hv0⟩ : ∃ v0, (outL i)[s]? = some v0 := ⟨(outL i)[s], List.getElem?_eq_getElem (by omega)⟩
      have hset : (List.map intA (outL i)).set s [AV.lit (.int .i64 (codO.getD i 0))] = List.map intA (outL (i + 1)) := by
        rw [outL, hs2, List.map_set]; rfl
      cases i with
      | zero =>
        have hc0 := codO_0
        rw [hc0] at hset
        have hcd0 := cdB_0
        have hU := And.intro @hset ( And.intro @hv0 (@hcd0))
        repeat' (first | (guard_target =~ PWp _ _ _ _ _ _ _; first | (refine pwp_seq_k (fun K hK => ?_)) | (refine pwp_block ?_) | (refine pwp_rg_then ?_) | (refine pwp_rg ?_) | (refine pwp_skip ?_) | ((refine pwp_cond_d (fun hcd => ?_) (fun hcd => ?_)) <;> (try simp only [hcP] at hcd) <;> (try (exfalso; first | omega | exact absurd hcd (by assumption) | exact absurd (by assumption) hcd)))) | (guard_target =~ rg _ _ _ _ _ _ _; first | (guard_target =~ rg _ _ _ [] _ _ _; first | (refine rg_end ?_)) | (refine rg_a rfl (h := ?_)) | (refine rg_v rfl (h := ?_)) | (refine rg_s rfl ?_) | (refine rg_n rfl ?_)) | (guard_target =~ SOp _ _ _ _ _ _; first | (guard_target =~ SOp _ _ ⟨_, .indexAddr _ _ _, _, _, _, none⟩ _ _ _; first | (refine n_index rfl (hK := ?_)) | (refine n_index_row rfl (hK := ?_))) | (guard_target =~ SOp _ _ ⟨_, .store _ _ _, _, _, _, none⟩ _ _ _; first | (refine n_store_ep rfl (hK := ?_)))) | (refine hK _ _ ?_; clear hK K))
        refine ⟨1, by omega, by omega, ?_, (by repeat' (first | exact agr_refl | refine agr_cons (by rfl) ?_)), (by first | rfl | (simp (disch := omega) only [go_sem, seval, ↓reduceIte, hU]; done) | (simp (disch := omega) only [go_sem, seval, ↓reduceIte, hU]; rfl))⟩
        (refine ⟨⟨_, (by (try simp (disch := omega) only [go_sem, seval, ↓reduceIte, hU]) <;> rfl), ?_⟩, ⟨_, (by (try simp (disch := omega) only [go_sem, seval, ↓reduceIte, hU]) <;> rfl), ?_⟩, trivial⟩ <;> (try (first | exact ale_eq (by with_reducible rfl) | exact ale_full | exact ale_sl (fun _ => rfl) | exact ale_sl (by simp) | exact ale_junk | exact ale_eq rfl)))
        all_goals exact ale_i (by rw [show cdB 1 = codO.getD 0 0 from cdB_s 0, hc0])
      | succ j =>
        have he : (((j + 1 : Nat) : Int) - 1) = (j : Int) := by omega
        obtain ⟨s', hs', hs1', hs2', hs3'⟩ := sym_at (i := j) (by omega)
        have hsz' := lensT_at hs1'
        have hcd0 := cdB_s j
        obtain ⟨u1, u2⟩ := lenO_up ⟨j, by omega⟩
        have hup := codO_up ⟨j, by omega⟩
        have hobj := codO_bd ⟨j, by omega⟩
        dsimp only at u1 u2 hup hobj
        obtain ⟨a, ha⟩ : ∃ a, lenO.getD j 0 = a := ⟨_, rfl⟩
        obtain ⟨c, hc⟩ : ∃ c, lenO.getD (j + 1) 0 = c := ⟨_, rfl⟩
        rw [ha, hc] at hup
        rw [ha] at u1 hs3'
        rw [hc] at u1 u2 hs3
        have hU := And.intro @he ( And.intro @hs3 ( And.intro @hs3' (@hcd0)))
        repeat' (first | (guard_target =~ PWp _ _ _ _ _ _ _; first | (refine pwp_seq_k (fun K hK => ?_)) | (refine pwp_block ?_) | (refine pwp_rg_then ?_) | (refine pwp_skip ?_) | ((refine pwp_cond_d (fun hcd => ?_) (fun hcd => ?_)) <;> (try simp only [hcP] at hcd) <;> (try (exfalso; first | omega | exact absurd hcd (by assumption) | exact absurd (by assumption) hcd)))) | (guard_target =~ rg _ _ _ _ _ _ _; first | (guard_target =~ rg _ _ _ [] _ _ _; first | (refine rg_end ?_)) | (refine rg_a rfl (h := ?_)) | (refine rg_v rfl (h := ?_)) | (refine rg_s rfl ?_)) | (guard_target =~ SOp _ _ _ _ _ _; first | (guard_target =~ SOp _ _ ⟨_, .indexAddr _ _ _, _, _, _, none⟩ _ _ _; first | (refine n_index rfl (hK := ?_)))) | (refine hK _ _ ?_; clear hK K))
        refine pwp_loop_e [4, 6, 28, 29, 30, 31, 32, 33, 34, 35, 36, 37, 38, 39, 40] (fun n : Nat => [(6, i64 n), (4, i64 ((codO.getD j 0 + 1) * 2 ^ (n - a)))]) (fun _ => [.row 0 3 1 ((outL (j + 1)).map intA)]) (fun n => a ≤ n ∧ n ≤ c) (fun n => c - n) a ⟨Nat.le_refl _, u1⟩ ?_ rfl ?_
        · (refine ⟨⟨_, (by (try simp (disch := omega) only [go_sem, seval, ↓reduceIte, hU]) <;> rfl), ?_⟩, ⟨_, (by (try simp (disch := omega) only [go_sem, seval, ↓reduceIte, hU]) <;> rfl), ?_⟩, trivial⟩ <;> (try (first | exact ale_eq (by with_reducible rfl) | exact ale_full | exact ale_sl (fun _ => rfl) | exact ale_sl (by simp) | exact ale_junk | exact ale_eq rfl)))
          all_goals exact ale_i (by rw [Nat.sub_self]; simp)
        · rintro n ⟨hn1, hn2⟩
          simp only [mask, List.map_cons, List.map_nil, List.cons_append, List.nil_append]
          have hpn := pow_bd ⟨n - a, by omega⟩
          dsimp only at hpn
          by_cases hlt2 : n < c
          · have hpw : (2 : Int) ^ (n + 1 - a) = 2 ^ (n - a) * 2 := by rw [show n + 1 - a = (n - a) + 1 from by omega, Int.pow_succ]
            have hpc : (2 : Int) ^ (c - a) = 2 ^ (n - a) * 2 ^ (c - n) := by rw [← Int.pow_add]; congr 1; omega
            obtain ⟨z, hz2⟩ : ∃ z, (codO.getD j 0 + 1) * 2 ^ (n - a) = z := ⟨_, rfl⟩
            have hzb : 0 ≤ z ∧ z ≤ 2147483648 := zb_bd (c := c) (a := a) (n := n) hz2 hup hob hobj.1 hn1 hn2
            have hU := And.intro @hz2 ( And.intro @hs3 (@he))
            repeat' (first | (guard_target =~ PWp _ _ _ _ _ _ _; first | (refine pwp_seq_k (fun K hK => ?_)) | (refine pwp_block ?_) | (refine pwp_rg_then ?_) | (refine pwp_rg ?_) | (refine pwp_skip ?_) | ((refine pwp_cond_d (fun hcd => ?_) (fun hcd => ?_)) <;> (try simp only [hcP] at hcd) <;> (try (exfalso; first | omega | exact absurd hcd (by assumption) | exact absurd (by assumption) hcd)))) | (guard_target =~ rg _ _ _ _ _ _ _; first | (guard_target =~ rg _ _ _ [] _ _ _; first | (refine rg_end ?_)) | (refine rg_a rfl (h := ?_)) | (refine rg_v rfl (h := ?_)) | (refine rg_s rfl ?_)) | (guard_target =~ SOp _ _ _ _ _ _; first | (guard_target =~ SOp _ _ ⟨_, .indexAddr _ _ _, _, _, _, none⟩ _ _ _; first | (refine n_index rfl (hK := ?_)))) | (refine hK _ _ ?_; clear hK K))
            refine ⟨n + 1, ⟨by omega, by omega⟩, by omega, ?_, (by repeat' (first | exact agr_refl | refine agr_cons (by rfl) ?_)), (by first | rfl | (simp (disch := omega) only [go_sem, seval, ↓reduceIte, hU]; done) | (simp (disch := omega) only [go_sem, seval, ↓reduceIte, hU]; rfl))⟩
            (refine ⟨⟨_, (by (try simp (disch := omega) only [go_sem, seval, ↓reduceIte, hU]) <;> rfl), ?_⟩, ⟨_, (by (try simp (disch := omega) only [go_sem, seval, ↓reduceIte, hU]) <;> rfl), ?_⟩, trivial⟩ <;> (try (first | exact ale_eq (by with_reducible rfl) | exact ale_full | exact ale_sl (fun _ => rfl) | exact ale_sl (by simp) | exact ale_junk | exact ale_eq rfl)))
            all_goals exact ale_i (by rw [hpw, ← Int.mul_assoc, hz2]; omega)
          · have hnc : n = c := by omega
            subst hnc
            have hco : (codO.getD j 0 + 1) * 2 ^ (n - a) = codO.getD (j + 1) 0 := hup.symm
            have hU := And.intro @hco ( And.intro @hs3 ( And.intro @he ( And.intro @hset (@hv0))))
            repeat' (first | (guard_target =~ PWp _ _ _ _ _ _ _; first | (refine pwp_seq_k (fun K hK => ?_)) | (refine pwp_rg_then ?_) | (refine pwp_rg ?_) | (refine pwp_exit ?_) | ((refine pwp_cond_d (fun hcd => ?_) (fun hcd => ?_)) <;> (try simp only [hcP] at hcd) <;> (try (exfalso; first | omega | exact absurd hcd (by assumption) | exact absurd (by assumption) hcd)))) | (guard_target =~ rg _ _ _ _ _ _ _; first | (guard_target =~ rg _ _ _ [] _ _ _; first | (refine rg_end ?_)) | (refine rg_a rfl (h := ?_)) | (refine rg_v rfl (h := ?_)) | (refine rg_s rfl ?_) | (refine rg_n rfl ?_)) | (guard_target =~ SOp _ _ _ _ _ _; first | (guard_target =~ SOp _ _ ⟨_, .indexAddr _ _ _, _, _, _, none⟩ _ _ _; first | (refine n_index rfl (hK := ?_)) | (refine n_index_row rfl (hK := ?_))) | (guard_target =~ SOp _ _ ⟨_, .store _ _ _, _, _, _, none⟩ _ _ _; first | (refine n_store_ep rfl (hK := ?_)))) | (refine hK _ _ ?_; clear hK K) | (apply_assumption (exfalso := false) (symm := false)))
            refine ⟨j + 1 + 1, by omega, by omega, ?_, (by repeat' (first | exact agr_refl | refine agr_cons (by rfl) ?_)), (by first | rfl | (simp (disch := omega) only [go_sem, seval, ↓reduceIte, hU]; done) | (simp (disch := omega) only [go_sem, seval, ↓reduceIte, hU]; rfl))⟩
            (refine ⟨⟨_, (by (try simp (disch := omega) only [go_sem, seval, ↓reduceIte, hU]) <;> rfl), ?_⟩, ⟨_, (by (try simp (disch := omega) only [go_sem, seval, ↓reduceIte, hU]) <;> rfl), ?_⟩, trivial⟩ <;> (try (first | exact ale_eq (by with_reducible rfl) | exact ale_full | exact ale_sl (fun _ => rfl) | exact ale_sl (by simp) | exact ale_junk | exact ale_eq rfl)))
            all_goals exact ale_i (cdB_s (j + 1)).symm
    · have hi7 : i = 257 := by omega
      subst hi7
      have hall := outL_all
      have hU := @hall
      repeat' (first | (guard_target =~ PWp _ _ _ _ _ _ _; first | (refine pwp_seq_k (fun K hK => ?_)) | (refine pwp_rg_then ?_) | (refine pwp_ret ?_) | (refine pwp_exit ?_) | ((refine pwp_cond_d (fun hcd => ?_) (fun hcd => ?_)) <;> (try simp only [hcP] at hcd) <;> (try (exfalso; first | omega | exact absurd hcd (by assumption) | exact absurd (by assumption) hcd)))) | (guard_target =~ rg _ _ _ _ _ _ _; first | (guard_target =~ rg _ _ _ [] _ _ _; first | (refine rg_end ?_)) | (refine rg_a rfl (h := ?_)) | (refine rg_v rfl (h := ?_))) | (guard_target =~ (_ ∨ _) ∧ _; first | ((refine end_d [] (by rw [Tryd.results100, Lf.res1]) (ale_1 ?_) ?_) <;> (try (first | exact ale_eq (by with_reducible rfl) | exact ale_full | exact ale_sl (fun _ => rfl) | exact ale_sl (by simp) | exact ale_junk | exact ale_eq rfl | exact stq (by with_reducible rfl) | exact stq (by rfl) | exact stq (by simp (disch := omega) only [go_sem, seval, ↓reduceIte, hU]))))) | (refine hK _ _ ?_; clear hK K) | (apply_assumption (exfalso := false) (symm := false)))
      all_goals trace_state
end Go.Proofs.YtohbfcmmpaikhaaDoor
