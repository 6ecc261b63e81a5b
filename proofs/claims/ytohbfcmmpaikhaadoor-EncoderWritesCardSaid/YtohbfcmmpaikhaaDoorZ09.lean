import Derived.Test.YtohbfcmmpaikhaaDoorZ07
import Derived.Test.YtohbfcmmpaikhaaDoorLc
import Derived.Test.YtohbfcmmpaikhaaDoorZ08
import Derived.Test.YtohbfcmmpaikhaaDoorZ05
import Derived.Test.YtohbfcmmpaikhaaDoorZ01
import Derived.Laws.Strings
set_option linter.unusedVariables false
set_option linter.unusedSimpArgs false
namespace Go.Proofs.YtohbfcmmpaikhaaDoor
open Go Go.Lf Go.Proofs
attribute [local irreducible] Lf.rg Lf.ro Lf.PWp Lf.SOp Lf.ACall Lf.Scoped Lf.dg Lf.dw
set_option maxRecDepth 20000
set_option maxHeartbeats 4000000
structure Rp where
 (k i : Int) (nm : List UInt8) (ns : Bool) (vl : List UInt8) (vs : Bool) (sz n e : Int)
def rpNo (e : Int) : Rp := ⟨0, 0, [], false, [], false, 0, 0, e⟩
def rgV (b : List UInt8) (k i : Int) (nm : List UInt8) (ns : Bool) (a : Nat) : Rp :=
 if (slG (b.drop a) (b.length : Int)).2.2.2 ≠ 0 then rpNo (slG (b.drop a) (b.length : Int)).2.2.2
 else ⟨k, i, nm, ns, (slG (b.drop a) (b.length : Int)).1, (slG (b.drop a) (b.length : Int)).2.1, 0, (a : Int) + (slG (b.drop a) (b.length : Int)).2.2.1, 0⟩
def rgN (b : List UInt8) (k : Int) (a : Nat) : Rp :=
 if (slG (b.drop a) (b.length : Int)).2.2.2 ≠ 0 then rpNo (slG (b.drop a) (b.length : Int)).2.2.2
 else rgV b k 0 (slG (b.drop a) (b.length : Int)).1 (slG (b.drop a) (b.length : Int)).2.1 (a + (slG (b.drop a) (b.length : Int)).2.2.1.toNat)
def rgK (b : List UInt8) (k : Int) (p : Int × Int × Int) : Rp :=
 if p.2.2 ≠ 0 then rpNo p.2.2
 else if k = 5 then ⟨5, 0, [], false, [], false, p.1, p.2.1, 0⟩
 else if k = 1 then (if p.1 = 0 then rpNo 12 else ⟨1, p.1, [], false, [], false, 0, p.2.1, 0⟩)
 else if p.1 = 0 then rgN b k p.2.1.toNat
 else rgV b k p.1 [] false p.2.1.toNat
def rgM (b : List UInt8) : Rp := match b[0]? with
 | none => rpNo 3
 | some x => rgK b (kindM x.toNat) (pgG b (biI (kindM x.toNat)))
attribute [local irreducible] pgG slG kindM frI biI txB
end Go.Proofs.YtohbfcmmpaikhaaDoor

set_option linter.unusedVariables false
set_option linter.unusedSimpArgs false
namespace Go.Proofs.YtohbfcmmpaikhaaDoor
open Go Go.Lf Go.Proofs
attribute [local irreducible] Lf.rg Lf.ro Lf.PWp Lf.SOp Lf.ACall Lf.Scoped Lf.dg Lf.dw
set_option maxRecDepth 20000
set_option maxHeartbeats 4000000
attribute [local irreducible] pgG slG kindM frI biI txB
end Go.Proofs.YtohbfcmmpaikhaaDoor

set_option linter.unusedVariables false
set_option linter.unusedSimpArgs false
namespace Go.Proofs.YtohbfcmmpaikhaaDoor
open Go Go.Lf Go.Proofs
attribute [local irreducible] Lf.rg Lf.ro Lf.PWp Lf.SOp Lf.ACall Lf.Scoped Lf.dg
set_option maxRecDepth 20000
set_option maxHeartbeats 4000000
end Go.Proofs.YtohbfcmmpaikhaaDoor

set_option linter.unusedVariables false
set_option linter.unusedSimpArgs false
namespace Go.Proofs.YtohbfcmmpaikhaaDoor
open Go Go.Lf Go.Proofs
attribute [local irreducible] Lf.rg Lf.ro Lf.PWp Lf.SOp Lf.ACall Lf.Scoped Lf.dg Lf.dw
set_option maxRecDepth 20000
set_option maxHeartbeats 4000000
def stTab : List (ByteArray × ByteArray) := [(⟨#[58, 97, 117, 116, 104, 111, 114, 105, 116, 121]⟩, ⟨#[]⟩), (⟨#[58, 109, 101, 116, 104, 111, 100]⟩, ⟨#[71, 69, 84]⟩), (⟨#[58, 109, 101, 116, 104, 111, 100]⟩, ⟨#[80, 79, 83, 84]⟩), (⟨#[58, 112, 97, 116, 104]⟩, ⟨#[47]⟩), (⟨#[58, 112, 97, 116, 104]⟩, ⟨#[47, 105, 110, 100, 101, 120, 46, 104, 116, 109, 108]⟩), (⟨#[58, 115, 99, 104, 101, 109, 101]⟩, ⟨#[104, 116, 116, 112]⟩), (⟨#[58, 115, 99, 104, 101, 109, 101]⟩, ⟨#[104, 116, 116, 112, 115]⟩), (⟨#[58, 115, 116, 97, 116, 117, 115]⟩, ⟨#[50, 48, 48]⟩), (⟨#[58, 115, 116, 97, 116, 117, 115]⟩, ⟨#[50, 48, 52]⟩), (⟨#[58, 115, 116, 97, 116, 117, 115]⟩, ⟨#[50, 48, 54]⟩), (⟨#[58, 115, 116, 97, 116, 117, 115]⟩, ⟨#[51, 48, 52]⟩), (⟨#[58, 115, 116, 97, 116, 117, 115]⟩, ⟨#[52, 48, 48]⟩), (⟨#[58, 115, 116, 97, 116, 117, 115]⟩, ⟨#[52, 48, 52]⟩), (⟨#[58, 115, 116, 97, 116, 117, 115]⟩, ⟨#[53, 48, 48]⟩), (⟨#[97, 99, 99, 101, 112, 116, 45, 99, 104, 97, 114, 115, 101, 116]⟩, ⟨#[]⟩), (⟨#[97, 99, 99, 101, 112, 116, 45, 101, 110, 99, 111, 100, 105, 110, 103]⟩, ⟨#[103, 122, 105, 112, 44, 32, 100, 101, 102, 108, 97, 116, 101]⟩), (⟨#[97, 99, 99, 101, 112, 116, 45, 108, 97, 110, 103, 117, 97, 103, 101]⟩, ⟨#[]⟩), (⟨#[97, 99, 99, 101, 112, 116, 45, 114, 97, 110, 103, 101, 115]⟩, ⟨#[]⟩), (⟨#[97, 99, 99, 101, 112, 116]⟩, ⟨#[]⟩), (⟨#[97, 99, 99, 101, 115, 115, 45, 99, 111, 110, 116, 114, 111, 108, 45, 97, 108, 108, 111, 119, 45, 111, 114, 105, 103, 105, 110]⟩, ⟨#[]⟩), (⟨#[97, 103, 101]⟩, ⟨#[]⟩), (⟨#[97, 108, 108, 111, 119]⟩, ⟨#[]⟩), (⟨#[97, 117, 116, 104, 111, 114, 105, 122, 97, 116, 105, 111, 110]⟩, ⟨#[]⟩), (⟨#[99, 97, 99, 104, 101, 45, 99, 111, 110, 116, 114, 111, 108]⟩, ⟨#[]⟩), (⟨#[99, 111, 110, 116, 101, 110, 116, 45, 100, 105, 115, 112, 111, 115, 105, 116, 105, 111, 110]⟩, ⟨#[]⟩), (⟨#[99, 111, 110, 116, 101, 110, 116, 45, 101, 110, 99, 111, 100, 105, 110, 103]⟩, ⟨#[]⟩), (⟨#[99, 111, 110, 116, 101, 110, 116, 45, 108, 97, 110, 103, 117, 97, 103, 101]⟩, ⟨#[]⟩), (⟨#[99, 111, 110, 116, 101, 110, 116, 45, 108, 101, 110, 103, 116, 104]⟩, ⟨#[]⟩), (⟨#[99, 111, 110, 116, 101, 110, 116, 45, 108, 111, 99, 97, 116, 105, 111, 110]⟩, ⟨#[]⟩), (⟨#[99, 111, 110, 116, 101, 110, 116, 45, 114, 97, 110, 103, 101]⟩, ⟨#[]⟩), (⟨#[99, 111, 110, 116, 101, 110, 116, 45, 116, 121, 112, 101]⟩, ⟨#[]⟩), (⟨#[99, 111, 111, 107, 105, 101]⟩, ⟨#[]⟩), (⟨#[100, 97, 116, 101]⟩, ⟨#[]⟩), (⟨#[101, 116, 97, 103]⟩, ⟨#[]⟩), (⟨#[101, 120, 112, 101, 99, 116]⟩, ⟨#[]⟩), (⟨#[101, 120, 112, 105, 114, 101, 115]⟩, ⟨#[]⟩), (⟨#[102, 114, 111, 109]⟩, ⟨#[]⟩), (⟨#[104, 111, 115, 116]⟩, ⟨#[]⟩), (⟨#[105, 102, 45, 109, 97, 116, 99, 104]⟩, ⟨#[]⟩), (⟨#[105, 102, 45, 109, 111, 100, 105, 102, 105, 101, 100, 45, 115, 105, 110, 99, 101]⟩, ⟨#[]⟩), (⟨#[105, 102, 45, 110, 111, 110, 101, 45, 109, 97, 116, 99, 104]⟩, ⟨#[]⟩), (⟨#[105, 102, 45, 114, 97, 110, 103, 101]⟩, ⟨#[]⟩), (⟨#[105, 102, 45, 117, 110, 109, 111, 100, 105, 102, 105, 101, 100, 45, 115, 105, 110, 99, 101]⟩, ⟨#[]⟩), (⟨#[108, 97, 115, 116, 45, 109, 111, 100, 105, 102, 105, 101, 100]⟩, ⟨#[]⟩), (⟨#[108, 105, 110, 107]⟩, ⟨#[]⟩), (⟨#[108, 111, 99, 97, 116, 105, 111, 110]⟩, ⟨#[]⟩), (⟨#[109, 97, 120, 45, 102, 111, 114, 119, 97, 114, 100, 115]⟩, ⟨#[]⟩), (⟨#[112, 114, 111, 120, 121, 45, 97, 117, 116, 104, 101, 110, 116, 105, 99, 97, 116, 101]⟩, ⟨#[]⟩), (⟨#[112, 114, 111, 120, 121, 45, 97, 117, 116, 104, 111, 114, 105, 122, 97, 116, 105, 111, 110]⟩, ⟨#[]⟩), (⟨#[114, 97, 110, 103, 101]⟩, ⟨#[]⟩), (⟨#[114, 101, 102, 101, 114, 101, 114]⟩, ⟨#[]⟩), (⟨#[114, 101, 102, 114, 101, 115, 104]⟩, ⟨#[]⟩), (⟨#[114, 101, 116, 114, 121, 45, 97, 102, 116, 101, 114]⟩, ⟨#[]⟩), (⟨#[115, 101, 114, 118, 101, 114]⟩, ⟨#[]⟩), (⟨#[115, 101, 116, 45, 99, 111, 111, 107, 105, 101]⟩, ⟨#[]⟩), (⟨#[115, 116, 114, 105, 99, 116, 45, 116, 114, 97, 110, 115, 112, 111, 114, 116, 45, 115, 101, 99, 117, 114, 105, 116, 121]⟩, ⟨#[]⟩), (⟨#[116, 114, 97, 110, 115, 102, 101, 114, 45, 101, 110, 99, 111, 100, 105, 110, 103]⟩, ⟨#[]⟩), (⟨#[117, 115, 101, 114, 45, 97, 103, 101, 110, 116]⟩, ⟨#[]⟩), (⟨#[118, 97, 114, 121]⟩, ⟨#[]⟩), (⟨#[118, 105, 97]⟩, ⟨#[]⟩), (⟨#[119, 119, 119, 45, 97, 117, 116, 104, 101, 110, 116, 105, 99, 97, 116, 101]⟩, ⟨#[]⟩)]
def stAt (i : Int) : ByteArray × ByteArray := if 1 ≤ i then stTab.getD (i.toNat - 1) (⟨#[]⟩, ⟨#[]⟩) else (⟨#[]⟩, ⟨#[]⟩)
@[go_sem] def fieldA (f : ByteArray × ByteArray) : List AV := [.lit (.string f.1), .lit (.string f.2), bl false]
abbrev comA : List AV := (stTab.take 14).flatMap fun p => [str p.1, str p.2]
abbrev plaA : List AV := (stTab.drop 14).map fun p => str p.1
theorem rn_com (f : Nat → Nat) : rnl f comA = comA := rfl
theorem rn_pla (f : Nat → Nat) : rnl f plaA = plaA := rfl
theorem stTab_len : stTab.length = 61 := rfl
theorem stAt_get (i : Int) (h : 1 ≤ i ∧ i ≤ 61) : ∃ h2 : i.toNat - 1 < stTab.length, stAt i = stTab[i.toNat - 1] := by
 refine ⟨by rw [stTab_len]; omega, ?_⟩
 unfold stAt
 rw [if_pos h.1, List.getD_eq_getElem?_getD, List.getElem?_eq_getElem (by rw [stTab_len]; omega)]; rfl
theorem stAt_out (i : Int) (h : i < 1 ∨ 61 < i) : stAt i = (⟨#[]⟩, ⟨#[]⟩) := by
 unfold stAt
 split
 ·rw [List.getD_eq_getElem?_getD, List.getElem?_eq_none (by rw [stTab_len]; omega)]; rfl
 ·rfl
theorem st_all (p : ByteArray × ByteArray → Bool) (h : stTab.all p = true) (i : Int) (hi : 1 ≤ i ∧ i ≤ 61) : p (stAt i) = true := by
 obtain ⟨h2, e⟩ := stAt_get i hi
 rw [e]
 exact List.all_eq_true.1 h _ (List.getElem_mem h2)
theorem st_all15 (p : ByteArray × ByteArray → Bool) (h : (stTab.drop 14).all p = true) (i : Int) (hi : 15 ≤ i ∧ i ≤ 61) : p (stAt i) = true := by
 obtain ⟨h2, e⟩ := stAt_get i ⟨by omega, hi.2⟩
 rw [e]
 refine List.all_eq_true.1 h _ ?_
 rw [List.mem_iff_getElem?]
 refine ⟨i.toNat - 15, ?_⟩
 rw [List.getElem?_drop, List.getElem?_eq_some_iff]
 refine ⟨by rw [stTab_len]; omega, ?_⟩
 congr 1
 omega
theorem st_name_ne (i : Int) (hi : 1 ≤ i ∧ i ≤ 61) : (stAt i).1 ≠ ⟨#[]⟩ := by
 have := st_all (fun f => decide (f.1 ≠ ⟨#[]⟩)) (by decide) i hi
 simpa using this
theorem st_gz (i : Int) (hi : 15 ≤ i ∧ i ≤ 61) (h : (stAt i).1 = ⟨#[97, 99, 99, 101, 112, 116, 45, 101, 110, 99, 111, 100, 105, 110, 103]⟩) : (stAt i).2 = ⟨#[103, 122, 105, 112, 44, 32, 100, 101, 102, 108, 97, 116, 101]⟩ := by
 have := st_all15 (fun f => decide (f.1 = ⟨#[97, 99, 99, 101, 112, 116, 45, 101, 110, 99, 111, 100, 105, 110, 103]⟩ → f.2 = ⟨#[103, 122, 105, 112, 44, 32, 100, 101, 102, 108, 97, 116, 101]⟩)) (by decide) i hi
 exact of_decide_eq_true this h
theorem st_ngz (i : Int) (hi : 15 ≤ i ∧ i ≤ 61) (h : ¬ (stAt i).1 = ⟨#[97, 99, 99, 101, 112, 116, 45, 101, 110, 99, 111, 100, 105, 110, 103]⟩) : (stAt i).2 = ⟨#[]⟩ := by
 have := st_all15 (fun f => decide (¬ f.1 = ⟨#[97, 99, 99, 101, 112, 116, 45, 101, 110, 99, 111, 100, 105, 110, 103]⟩ → f.2 = ⟨#[]⟩)) (by decide) i hi
 exact of_decide_eq_true this h
theorem aix_plain (i : Int) (h : 15 ≤ i ∧ i ≤ 61) : plaA[(i - 1 - 14).toNat * 1]? = some (str (stAt i).1) := by
 obtain ⟨h2, e⟩ := stAt_get i ⟨by omega, by omega⟩
 have hj : 14 + (i - 1 - 14).toNat * 1 = i.toNat - 1 := by omega
 rw [List.getElem?_map, List.getElem?_drop, hj, List.getElem?_eq_getElem h2, e]
 rfl
theorem aix_common (i : Int) (h : 1 ≤ i ∧ i ≤ 14) : List.take 2 (List.drop ((i - 1).toNat * 2) comA) = [str (stAt i).1, str (stAt i).2] := by
 have hi : i = 1 ∨ i = 2 ∨ i = 3 ∨ i = 4 ∨ i = 5 ∨ i = 6 ∨ i = 7 ∨ i = 8 ∨ i = 9 ∨ i = 10 ∨ i = 11 ∨ i = 12 ∨ i = 13 ∨ i = 14 := by omega
 rcases hi with rfl | rfl | rfl | rfl | rfl | rfl | rfl | rfl | rfl | rfl | rfl | rfl | rfl | rfl <;> rfl
@[go_sem] theorem sbeq (a b : ByteArray) : (a.toList == b.toList) = decide (a = b) := by
 obtain ⟨⟨a⟩⟩ := a; obtain ⟨⟨b⟩⟩ := b
 rw [ByteArray.toList_eq, ByteArray.toList_eq]
 by_cases h : a = b <;> simp [h]
theorem com_len : comA.length = 28 := rfl
theorem st_common : AEq Tryd.prog 129 [] [] (.ag comA) [] := by
 refine acall_body Tryd.func129 rfl Tryd.ntmps129 (by simp) (fun hsc => ?_); simp only [Lf.enter, Nat.reduceAdd]; clear hsc
 have hU := True.intro
 repeat' (first | (guard_target =~ PWp _ _ _ _ _ _ _; first | (refine pwp_seq_k (fun K hK => ?_)) | (refine pwp_rg_then ?_) | (refine pwp_ret ?_)) | (guard_target =~ rg _ _ _ _ _ _ _; first | (guard_target =~ rg _ _ _ [] _ _ _; first | (refine rg_end ?_)) | (refine rg_s rfl ?_) | (refine rg_n rfl ?_)) | (guard_target =~ SOp _ _ _ _ _ _; first | (guard_target =~ SOp _ _ ⟨_, .build _ _, _, _, _, none⟩ _ _ _; first | (refine n_build rfl (by first | exact bd176 | exact bd177 | fail) (hK := ?_))) | (guard_target =~ SOp _ _ ⟨_, .alloc _, _, _, _, none⟩ _ _ _; first | (refine n_alloc rfl (by first | exact zv9 | exact zv176 | exact zv177 | fail) (hK := ?_))) | (guard_target =~ SOp _ _ ⟨_, .store _ _ _, _, _, _, none⟩ _ _ _; first | (refine n_store rfl (hK := ?_)))) | (guard_target =~ (_ ∨ _) ∧ _; first | ((refine end_q [] (by first | exact .inr rfl | exact .inl rfl | fail) (by rfl) (by rw [Tryd.results129, Lf.resM1]; (try simp (disch := omega) only [Lf.resOne, go_sem, seval, ↓reduceIte, hU]); rfl) sT sT (ale_1 ?_) ?_) <;> (try (first | exact aleT | exact stq (by with_reducible rfl) | exact stq (by rfl) | exact stq (by simp (disch := omega) only [go_sem, seval, ↓reduceIte, hU]))))) | (refine hK _ _ ?_; clear hK K))
theorem st_plain : AEq Tryd.prog 130 [] [] (.ag plaA) [] := by
 refine acall_body Tryd.func130 rfl Tryd.ntmps130 (by simp) (fun hsc => ?_); simp only [Lf.enter, Nat.reduceAdd]; clear hsc
 have hU := True.intro
 repeat' (first | (guard_target =~ PWp _ _ _ _ _ _ _; first | (refine pwp_seq_k (fun K hK => ?_)) | (refine pwp_rg_then ?_) | (refine pwp_ret ?_)) | (guard_target =~ rg _ _ _ _ _ _ _; first | (guard_target =~ rg _ _ _ [] _ _ _; first | (refine rg_end ?_)) | (refine rg_s rfl ?_) | (refine rg_n rfl ?_)) | (guard_target =~ SOp _ _ _ _ _ _; first | (guard_target =~ SOp _ _ ⟨_, .build _ _, _, _, _, none⟩ _ _ _; first | (refine n_build rfl (by first | exact bd179 | fail) (hK := ?_))) | (guard_target =~ SOp _ _ ⟨_, .alloc _, _, _, _, none⟩ _ _ _; first | (refine n_alloc rfl (by first | exact zv9 | exact zv179 | fail) (hK := ?_))) | (guard_target =~ SOp _ _ ⟨_, .store _ _ _, _, _, _, none⟩ _ _ _; first | (refine n_store rfl (hK := ?_)))) | (guard_target =~ (_ ∨ _) ∧ _; first | ((refine end_q [] (by first | exact .inr rfl | exact .inl rfl | fail) (by rfl) (by rw [Tryd.results130, Lf.resM1]; (try simp (disch := omega) only [Lf.resOne, go_sem, seval, ↓reduceIte, hU]); rfl) sT sT (ale_1 ?_) ?_) <;> (try (first | exact aleT | exact stq (by with_reducible rfl) | exact stq (by rfl) | exact stq (by simp (disch := omega) only [go_sem, seval, ↓reduceIte, hU]))))) | (refine hK _ _ ?_; clear hK K))
theorem st_at_some (i : Int) (h : 1 ≤ i ∧ i ≤ 61) : AEq Tryd.prog 109 [i64 i] [] (.tu [.ag (fieldA (stAt i)), bl true]) [] := by
 refine acall_body Tryd.func109 rfl Tryd.ntmps109 (by simp) (fun hsc => ?_); simp only [Lf.enter, Nat.reduceAdd]; clear hsc
 repeat' (first | (guard_target =~ PWp _ _ _ _ _ _ _; first | (refine pwp_seq_k (fun K hK => ?_)) | (refine pwp_block ?_) | (refine pwp_rg_then ?_) | (refine pwp_ret ?_) | (refine pwp_skip ?_) | ((refine pwp_cond (by (try simp (disch := omega) only [go_sem, seval, ↓reduceIte, rn_com, rn_pla, aix_plain, aix_common, com_len, if_pos]) <;> rfl) (fun hcd => ?_) (fun hcd => ?_)) <;> (try simp only [hcP] at hcd) <;> (try exact cdT))) | (guard_target =~ rg _ _ _ _ _ _ _; first | (guard_target =~ rg _ _ _ (⟨_, .move _, _, _, _, none⟩ :: _) _ _ _; first | (refine rg_v rfl (by (try simp (disch := omega) only [go_sem, seval, ↓reduceIte, rn_com, rn_pla, aix_plain, aix_common, com_len, if_pos]) <;> rfl) ?_)) | (guard_target =~ rg _ _ _ (⟨_, .binOp _ _ _ _ _, _, _, _, none⟩ :: _) _ _ _; first | (refine rg_v rfl (by (try simp (disch := omega) only [go_sem, seval, ↓reduceIte, rn_com, rn_pla, aix_plain, aix_common, com_len, if_pos]) <;> rfl) ?_) | (refine rg_s rfl ?_) | (refine rg_n rfl ?_)) | (guard_target =~ rg _ _ _ (⟨_, .assign _, _, _, _, none⟩ :: _) _ _ _; first | (refine rg_a rfl (by (try simp (disch := omega) only [go_sem, seval, ↓reduceIte, rn_com, rn_pla, aix_plain, aix_common, com_len, if_pos]) <;> rfl) ?_)) | (guard_target =~ rg _ _ _ (⟨_, .load _ _, _, _, _, none⟩ :: _) _ _ _; first | (refine rg_v rfl (by (try simp (disch := omega) only [go_sem, seval, ↓reduceIte, rn_com, rn_pla, aix_plain, aix_common, com_len, if_pos]) <;> rfl) ?_)) | (guard_target =~ rg _ _ _ (⟨_, .index _ _ _, _, _, _, none⟩ :: _) _ _ _; first | (refine rg_v rfl (by (try simp (disch := omega) only [go_sem, seval, ↓reduceIte, rn_com, rn_pla, aix_plain, aix_common, com_len, if_pos]) <;> rfl) ?_)) | (guard_target =~ rg _ _ _ (⟨_, .fieldAddr _ _ _, _, _, _, none⟩ :: _) _ _ _; first | (refine rg_v rfl (by (try simp (disch := omega) only [go_sem, seval, ↓reduceIte, rn_com, rn_pla, aix_plain, aix_common, com_len, if_pos]) <;> rfl) ?_)) | (guard_target =~ rg _ _ _ (⟨_, .move _, _, _, _, some _⟩ :: _) _ _ _; first | (refine rg_gq rfl (by simp only [go_sem, seval, ↓reduceIte, rn_com, rn_pla, aix_plain, aix_common, com_len, if_pos] <;> rfl) (by first | (simp only [go_sem, seval, ↓reduceIte, rn_com, rn_pla, aix_plain, aix_common, com_len, if_pos]; done) | (simp only [go_sem, seval, ↓reduceIte, rn_com, rn_pla, aix_plain, aix_common, com_len, if_pos]; rfl) | rfl) (by (try simp (disch := omega) only [go_sem, seval, ↓reduceIte, rn_com, rn_pla, aix_plain, aix_common, com_len, if_pos]) <;> rfl) ?_)) | (guard_target =~ rg _ _ _ (⟨_, .pick _ _ _, _, _, _, none⟩ :: _) _ _ _; first | (refine rg_v rfl (by (try simp (disch := omega) only [go_sem, seval, ↓reduceIte, rn_com, rn_pla, aix_plain, aix_common, com_len, if_pos]) <;> rfl) ?_)) | (guard_target =~ rg _ _ _ (⟨_, .binOp _ _ _ _ _, _, _, _, some _⟩ :: _) _ _ _; first | (refine rg_gq rfl (by simp only [go_sem, seval, ↓reduceIte, rn_com, rn_pla, aix_plain, aix_common, com_len, if_pos] <;> rfl) (by first | (simp only [go_sem, seval, ↓reduceIte, rn_com, rn_pla, aix_plain, aix_common, com_len, if_pos]; done) | (simp only [go_sem, seval, ↓reduceIte, rn_com, rn_pla, aix_plain, aix_common, com_len, if_pos]; rfl) | rfl) (by (try simp (disch := omega) only [go_sem, seval, ↓reduceIte, rn_com, rn_pla, aix_plain, aix_common, com_len, if_pos]) <;> rfl) ?_)) | (guard_target =~ rg _ _ _ [] _ _ _; first | (refine rg_end ?_)) | (refine rg_s rfl ?_) | (refine rg_n rfl ?_)) | (guard_target =~ SOp _ _ _ _ _ _; first | (guard_target =~ SOp _ _ ⟨_, .store _ _ _, _, _, _, none⟩ _ _ _; first | (refine n_store rfl (by (try simp (disch := omega) only [go_sem, seval, ↓reduceIte, rn_com, rn_pla, aix_plain, aix_common, com_len, if_pos]) <;> rfl) (by (try simp (disch := omega) only [go_sem, seval, ↓reduceIte, rn_com, rn_pla, aix_plain, aix_common, com_len, if_pos]) <;> rfl) (by first | (simp (disch := omega) only [go_sem, seval, ↓reduceIte, rn_com, rn_pla, aix_plain, aix_common, com_len, if_pos]; done) | rfl) (by (try simp (disch := omega) only [go_sem, seval, ↓reduceIte, rn_com, rn_pla, aix_plain, aix_common, com_len, if_pos]) <;> rfl) (by (try simp (disch := omega) only [go_sem, seval, ↓reduceIte, rn_com, rn_pla, aix_plain, aix_common, com_len, if_pos]) <;> rfl) (by first | (simp (disch := omega) only [go_sem, seval, ↓reduceIte, rn_com, rn_pla, aix_plain, aix_common, com_len, if_pos]; done) | rfl) (by first | (simp (disch := omega) only [go_sem, seval, ↓reduceIte, rn_com, rn_pla, aix_plain, aix_common, com_len, if_pos]; done) | rfl) (by first | (simp (disch := omega) only [go_sem, seval, ↓reduceIte, rn_com, rn_pla, aix_plain, aix_common, com_len, if_pos]; done) | rfl) (by (try simp (disch := omega) only [go_sem, seval, ↓reduceIte, rn_com, rn_pla, aix_plain, aix_common, com_len, if_pos]) <;> rfl) (by (try simp (disch := omega) only [go_sem, seval, ↓reduceIte, rn_com, rn_pla, aix_plain, aix_common, com_len, if_pos]) <;> rfl) ?_)) | (guard_target =~ SOp _ _ ⟨_, .call ⟨.value (.func 129), _, _⟩, _, _, _, none⟩ _ _ _; first | (refine n_call (f := 129) rfl Tryd.call129 (by (try simp (disch := omega) only [go_sem, seval, ↓reduceIte, rn_com, rn_pla, aix_plain, aix_common, com_len, if_pos]) <;> rfl) (AEq.pure' agT st_common (by first | (simp (disch := omega) only [go_sem, seval, ↓reduceIte, rn_com, rn_pla, aix_plain, aix_common, com_len, if_pos]; done) | rfl) (by (try simp (disch := omega) only [go_sem, seval, ↓reduceIte, rn_com, rn_pla, aix_plain, aix_common, com_len, if_pos]) <;> rfl) ?_))) | (guard_target =~ SOp _ _ ⟨_, .build _ _, _, _, _, none⟩ _ _ _; first | (refine n_build rfl (by first | exact bd67 | exact bd176 | exact bd177 | exact bd179 | fail) (by (try simp (disch := omega) only [go_sem, seval, ↓reduceIte, rn_com, rn_pla, aix_plain, aix_common, com_len, if_pos]) <;> rfl) (by (try simp (disch := omega) only [go_sem, seval, ↓reduceIte, rn_com, rn_pla, aix_plain, aix_common, com_len, if_pos]) <;> rfl) (by (try simp (disch := omega) only [go_sem, seval, ↓reduceIte, rn_com, rn_pla, aix_plain, aix_common, com_len, if_pos]) <;> rfl) (by first | (simp (disch := omega) only [go_sem, seval, ↓reduceIte, rn_com, rn_pla, aix_plain, aix_common, com_len, if_pos]; done) | rfl) ?_)) | (guard_target =~ SOp _ _ ⟨_, .alloc _, _, _, _, none⟩ _ _ _; first | (refine n_alloc rfl (by first | exact zv3 | exact zv4 | exact zv9 | exact zv67 | exact zv176 | exact zv177 | exact zv179 | fail) (by first | (simp (disch := omega) only [go_sem, seval, ↓reduceIte, rn_com, rn_pla, aix_plain, aix_common, com_len, if_pos]; done) | rfl) (by (try simp (disch := omega) only [go_sem, seval, ↓reduceIte, rn_com, rn_pla, aix_plain, aix_common, com_len, if_pos]) <;> rfl) (by (try simp (disch := omega) only [go_sem, seval, ↓reduceIte, rn_com, rn_pla, aix_plain, aix_common, com_len, if_pos]) <;> rfl) (by (try simp (disch := omega) only [go_sem, seval, ↓reduceIte, rn_com, rn_pla, aix_plain, aix_common, com_len, if_pos]) <;> rfl) ?_)) | (guard_target =~ SOp _ _ ⟨_, .indexAddr _ _ _, _, _, _, none⟩ _ _ _; first | (refine n_index_arr rfl (by (try simp (disch := omega) only [go_sem, seval, ↓reduceIte, rn_com, rn_pla, aix_plain, aix_common, com_len, if_pos]) <;> rfl) (by first | (simp (disch := omega) only [go_sem, seval, ↓reduceIte, rn_com, rn_pla, aix_plain, aix_common, com_len, if_pos]; done) | rfl) (by (try simp (disch := omega) only [go_sem, seval, ↓reduceIte, rn_com, rn_pla, aix_plain, aix_common, com_len, if_pos]) <;> rfl) (by first | (simp (disch := omega) only [go_sem, seval, ↓reduceIte, rn_com, rn_pla, aix_plain, aix_common, com_len, if_pos]; done) | rfl) (by (try simp (disch := omega) only [go_sem, seval, ↓reduceIte, rn_com, rn_pla, aix_plain, aix_common, com_len, if_pos]) <;> rfl) (by (try simp only [List.length_map, List.length_append, List.length_cons, List.length_nil, List.length_replicate, List.length_take, List.length_drop, List.length_set]); omega) (by (try simp (disch := omega) only [go_sem, seval, ↓reduceIte, rn_com, rn_pla, aix_plain, aix_common, com_len, if_pos]) <;> rfl) (by (try simp only [List.length_map, List.length_append, List.length_cons, List.length_nil, List.length_replicate, List.length_take, List.length_drop, List.length_set]); omega) (by (try simp (disch := omega) only [go_sem, seval, ↓reduceIte, rn_com, rn_pla, aix_plain, aix_common, com_len, if_pos]) <;> rfl) (by simp (disch := omega) only [aidx, go_sem, seval, ↓reduceIte, rn_com, rn_pla, aix_plain, aix_common, com_len, if_pos]; rfl) ?_)) | (guard_target =~ SOp _ _ ⟨_, .call ⟨.value (.func 130), _, _⟩, _, _, _, none⟩ _ _ _; first | (refine n_call (f := 130) rfl Tryd.call130 (by (try simp (disch := omega) only [go_sem, seval, ↓reduceIte, rn_com, rn_pla, aix_plain, aix_common, com_len, if_pos]) <;> rfl) (AEq.pure' agT st_plain (by first | (simp (disch := omega) only [go_sem, seval, ↓reduceIte, rn_com, rn_pla, aix_plain, aix_common, com_len, if_pos]; done) | rfl) (by (try simp (disch := omega) only [go_sem, seval, ↓reduceIte, rn_com, rn_pla, aix_plain, aix_common, com_len, if_pos]) <;> rfl) ?_)))) | (guard_target =~ (_ ∨ _) ∧ _; first | ((refine end_q [] (by first | exact .inr rfl | exact .inl rfl | fail) (by rfl) (by rw [Tryd.results109]; exact Lf.resM2 (by (try simp (disch := omega) only [Lf.resOne, go_sem, seval, ↓reduceIte, rn_com, rn_pla, aix_plain, aix_common, com_len, if_pos]); rfl) (by (try simp (disch := omega) only [Lf.resOne, go_sem, seval, ↓reduceIte, rn_com, rn_pla, aix_plain, aix_common, com_len, if_pos]); rfl)) (by (try simp (disch := omega) only [go_sem, seval, ↓reduceIte, rn_com, rn_pla, aix_plain, aix_common, com_len, if_pos]) <;> rfl) (by (try simp (disch := omega) only [go_sem, seval, ↓reduceIte, rn_com, rn_pla, aix_plain, aix_common, com_len, if_pos]) <;> rfl) (ale_2 ?_ ?_) ?_) <;> (try (first | exact aleT | exact stq (by with_reducible rfl) | exact stq (by rfl) | exact stq (by simp (disch := omega) only [go_sem, seval, ↓reduceIte, rn_com, rn_pla, aix_plain, aix_common, com_len, if_pos]))))) | (refine hK _ _ ?_; clear hK K))
 ·exact ale_eq (by simp only [fieldA]; rw [st_gz i (by omega) hcd])
 ·exact ale_eq (by simp only [fieldA]; rw [st_ngz i (by omega) hcd])
end Go.Proofs.YtohbfcmmpaikhaaDoor

