import Derived.Test.YtohbfcmmpaikhaaDoorZ12
import Derived.Test.YtohbfcmmpaikhaaDoorZ10
import Derived.Test.YtohbfcmmpaikhaaDoorZ06
import Derived.Test.YtohbfcmmpaikhaaDoorZ01
import Derived.Test.YtohbfcmmpaikhaaDoorLc
import Derived.Laws.Strings
set_option linter.unusedVariables false
set_option linter.unusedSimpArgs false
namespace Go.Proofs.YtohbfcmmpaikhaaDoor
open Go Go.Lf Go.Proofs
attribute [local irreducible] Lf.rg Lf.ro Lf.PWp Lf.SOp Lf.ACall Lf.Scoped Lf.dg
set_option maxRecDepth 20000
set_option maxHeartbeats 4000000
theorem sl_back2 (s : Bool) (l z : List UInt8) (most : Int) (h : ((slB s l).length : Int) ≤ most) (hl : l.length ≤ 100000) : slG (slP s l ++ z) most = (l, s, ((slP s l).length : Int), 0) := by
 have hb := slB_len s l
 have hf0 : 0 ≤ slF s ∧ slF s ≤ 255 := by cases s <;> decide
 have hp := pfxP_len (slF s) 7 ((slB s l).length : Int)
 have hg := pg_back (f := slF s) (c := 7) (n := ((slB s l).length : Int)) (slB s l ++ z) (by decide) (by decide) hf0.1 hf0.2 (slF_mod s) (by omega) (by omega)
 rw [← List.append_assoc] at hg
 obtain ⟨x, r, hx, hx1, hx2⟩ := pfx_first (f := slF s) (c := 7) (n := ((slB s l).length : Int)) (by decide) (by decide) hf0.1 hf0.2 (slF_mod s) (by omega)
 have h7 : pwI 7 = 128 := pwI_7
 rw [h7] at hx2
 have hx0 : (slP s l ++ z)[0]? = some x := by unfold slP; rw [hx]; rfl
 have e : slP s l = pfxP (slF s) 7 ((slB s l).length : Int) ++ slB s l := rfl
 rw [← e] at hg
 have hlen : (slP s l ++ z).length = (pfxP (slF s) 7 ((slB s l).length : Int)).length + (slB s l).length + z.length := by rw [e, List.length_append, List.length_append]
 have hlen2 : (slP s l).length = (pfxP (slF s) 7 ((slB s l).length : Int)).length + (slB s l).length := by rw [e, List.length_append]
 have hcut : cutB (slP s l ++ z) (pfxP (slF s) 7 ((slB s l).length : Int)).length (slB s l).length = slB s l := by
  unfold cutB
  rw [e, List.append_assoc, List.drop_left, List.take_left]
 have hh := hiB_eq hx0
 have g1 : (pgG (slP s l ++ z) 7).2.2 = 0 := by rw [hg]
 have g2 : (pgG (slP s l ++ z) 7).2.1 = ((pfxP (slF s) 7 ((slB s l).length : Int)).length : Int) := by rw [hg]
 have g3 : (pgG (slP s l ++ z) 7).1 = ((slB s l).length : Int) := by rw [hg]
 have g4 : ¬ max most 0 < (pgG (slP s l ++ z) 7).1 := by rw [g3]; omega
 have g5 : ¬ ((slP s l ++ z).length : Int) - (pgG (slP s l ++ z) 7).2.1 < (pgG (slP s l ++ z) 7).1 := by rw [g2, g3, hlen]; omega
 have hln : ((pfxP (slF s) 7 ((slB s l).length : Int)).length : Int) + ((slB s l).length : Int) = ((slP s l).length : Int) := by rw [hlen2]; omega
 cases s with
 | false =>
  have hs : hiB (slP false l ++ z) = false := by rw [hh]; have : slF false = 0 := rfl; rw [this] at hx2; simp; omega
  rw [slG_lit g1 g4 g5 g2 g3 hs, hcut, hln]; rfl
 | true =>
  have hs : hiB (slP true l ++ z) = true := by rw [hh]; have : slF true = 128 := rfl; rw [this] at hx1; simp; omega
  have hd : huM (bitsL (slB true l)) 0 0 [] = (l, 0) := hu_back l
  rw [slG_cod g1 g4 g5 g2 g3 hs (by rw [hcut, hd]), hcut, hd, hln]
theorem pfx_kind {k n : Int} (z : List UInt8) (hk : k = 1 ∨ k = 2 ∨ k = 3 ∨ k = 4 ∨ k = 5) (hn0 : 0 ≤ n) (hn1 : n ≤ 2147483647) : ∃ x : UInt8, (pfxP (frI k) (biI k) n ++ z)[0]? = some x ∧ kindM x.toNat = k ∧ pgG (pfxP (frI k) (biI k) n ++ z) (biI k) = (n, ((pfxP (frI k) (biI k) n).length : Int), 0) := by
 have hb := biI_bd hk
 have hf : 0 ≤ frI k ∧ frI k ≤ 255 ∧ frI k % pwI (biI k) = 0 := by
  rcases hk with rfl | rfl | rfl | rfl | rfl
  all_goals decide
 obtain ⟨x, r, hx, hx1, hx2⟩ := pfx_first (f := frI k) (c := biI k) (n := n) (by omega) (by omega) hf.1 hf.2.1 hf.2.2 hn0
 refine ⟨x, by rw [hx]; rfl, ?_, pg_back z (by omega) (by omega) hf.1 hf.2.1 hf.2.2 hn0 hn1⟩
 have hxl := x.toNat_lt
 rcases hk with rfl | rfl | rfl | rfl | rfl
 ·have e1 : frI 1 = 128 := rfl
  rw [e1] at hx1
  unfold kindM; rw [if_pos hx1]
 ·have e1 : frI 2 = 64 := rfl
  have e2 : pwI (biI 2) = 64 := by decide
  rw [e1] at hx1 hx2; rw [e2] at hx2
  unfold kindM; rw [if_neg (by omega), if_pos (by omega)]
 ·have e1 : frI 3 = 0 := rfl
  have e2 : pwI (biI 3) = 16 := by decide
  rw [e1] at hx1 hx2; rw [e2] at hx2
  unfold kindM; rw [if_neg (by omega), if_neg (by omega), if_neg (by omega), if_neg (by omega)]
 ·have e1 : frI 4 = 16 := rfl
  have e2 : pwI (biI 4) = 16 := by decide
  rw [e1] at hx1 hx2; rw [e2] at hx2
  unfold kindM; rw [if_neg (by omega), if_neg (by omega), if_neg (by omega), if_pos (by omega)]
 ·have e1 : frI 5 = 32 := rfl
  have e2 : pwI (biI 5) = 32 := by decide
  rw [e1] at hx1 hx2; rw [e2] at hx2
  unfold kindM; rw [if_neg (by omega), if_neg (by omega), if_pos (by omega)]
theorem slB_le (s : Bool) (l : List UInt8) : (slB s l).length ≤ (slP s l).length := by
 unfold slP
 rw [List.length_append]; omega
theorem rp_back {k i : Int} {nm : List UInt8} {ns : Bool} {vl : List UInt8} {vs : Bool} {sz : Int} (h : RP k i nm ns vl vs sz) (z : List UInt8) (hnl : nm.length ≤ 100000) (hvl : vl.length ≤ 100000) : rgM (rpB k i nm ns vl vs sz ++ z) = ⟨k, i, nm, ns, vl, vs, sz, ((rpB k i nm ns vl vs sz).length : Int), 0⟩ := by
 rcases rp_cases h with ⟨rfl, rfl, rfl, rfl, rfl, rfl, h5, h6⟩ | ⟨rfl, rfl, rfl, rfl, rfl, rfl, h5, h6⟩ | ⟨hk, rfl, rfl⟩ | ⟨hk, rfl, rfl, rfl, h5, h6⟩
 ·rw [rpB_5]
  obtain ⟨x, hx, hkx, hp⟩ := pfx_kind (k := 5) (n := sz) z (by omega) h5 h6
  rw [show frI 5 = 32 from rfl, show biI 5 = 5 from rfl] at hx hp
  rw [rgM_some hx hkx (show pgG _ (biI 5) = _ from hp), rgK_5]
 ·rw [rpB_1]
  obtain ⟨x, hx, hkx, hp⟩ := pfx_kind (k := 1) (n := i) z (by omega) (by omega) h6
  rw [show frI 1 = 128 from rfl, show biI 1 = 7 from rfl] at hx hp
  rw [rgM_some hx hkx (show pgG _ (biI 1) = _ from hp), rgK_1 (by omega)]
 ·have ht : txB k = true := txB_m (by omega) (by omega) (by omega)
  rw [rpB_t0 nm ns vl vs ht]
  obtain ⟨x, hx, hkx, hp⟩ := pfx_kind (k := k) (n := 0) (slP ns nm ++ (slP vs vl ++ z)) (by omega) (by decide) (by decide)
  have ea : pfxP (frI k) (biI k) 0 ++ slP ns nm ++ slP vs vl ++ z = pfxP (frI k) (biI k) 0 ++ (slP ns nm ++ (slP vs vl ++ z)) := by simp only [List.append_assoc]
  have hlen : (pfxP (frI k) (biI k) 0 ++ (slP ns nm ++ (slP vs vl ++ z))).length = (pfxP (frI k) (biI k) 0).length + ((slP ns nm).length + ((slP vs vl).length + z.length)) := by simp only [List.length_append]
  have hl1 := slB_le ns nm
  have hl2 := slB_le vs vl
  have s1 := sl_back2 ns nm (slP vs vl ++ z) ((pfxP (frI k) (biI k) 0 ++ (slP ns nm ++ (slP vs vl ++ z))).length : Int) (by rw [hlen]; omega) hnl
  have s2 := sl_back2 vs vl z ((pfxP (frI k) (biI k) 0 ++ (slP ns nm ++ (slP vs vl ++ z))).length : Int) (by rw [hlen]; omega) hvl
  have d1 : List.drop (pfxP (frI k) (biI k) 0).length (pfxP (frI k) (biI k) 0 ++ (slP ns nm ++ (slP vs vl ++ z))) = slP ns nm ++ (slP vs vl ++ z) := List.drop_left
  have d2 : List.drop ((pfxP (frI k) (biI k) 0).length + (slP ns nm).length) (pfxP (frI k) (biI k) 0 ++ (slP ns nm ++ (slP vs vl ++ z))) = slP vs vl ++ z := by
   rw [← List.drop_drop, d1, List.drop_left]
  rw [ea, rgM_some hx hkx hp, rgK_n (by omega) (by omega), rgN_ok (by rw [d1]; exact s1), rgV_ok (by rw [d2]; exact s2)]
  simp only [Rp.mk.injEq, true_and, and_true, List.length_append]
  omega
 ·have ht : txB k = true := txB_m (by omega) (by omega) (by omega)
  rw [rpB_ti vl vs ht (by omega)]
  obtain ⟨x, hx, hkx, hp⟩ := pfx_kind (k := k) (n := i) (slP vs vl ++ z) (by omega) (by omega) h6
  have ea : pfxP (frI k) (biI k) i ++ slP vs vl ++ z = pfxP (frI k) (biI k) i ++ (slP vs vl ++ z) := by simp only [List.append_assoc]
  have hlen : (pfxP (frI k) (biI k) i ++ (slP vs vl ++ z)).length = (pfxP (frI k) (biI k) i).length + ((slP vs vl).length + z.length) := by simp only [List.length_append]
  have hl2 := slB_le vs vl
  have s2 := sl_back2 vs vl z ((pfxP (frI k) (biI k) i ++ (slP vs vl ++ z)).length : Int) (by rw [hlen]; omega) hvl
  have d1 : List.drop (pfxP (frI k) (biI k) i).length (pfxP (frI k) (biI k) i ++ (slP vs vl ++ z)) = slP vs vl ++ z := List.drop_left
  rw [ea, rgM_some hx hkx hp, rgK_v (by omega) (by omega) (by omega), rgV_ok (by rw [d1]; exact s2)]
  simp only [Rp.mk.injEq, true_and, and_true, List.length_append]
  omega
theorem pgF_pos (b : List UInt8) : ∀ (k a : Nat) (n : Int), (pgF b k a n).2.2 = 0 → 1 ≤ (pgF b k a n).2.1
 | 0, a, n, h => by rw [pgF_0] at h; exact absurd h (by decide)
 | k + 1, a, n, h => by
  cases hx : b[a + 1]? with
  | none => rw [pgF_none hx] at h; exact absurd h (by decide)
  | some x =>
   by_cases h1 : (x.toNat : Int) < 128
   ·by_cases h3 : 2147483647 < n + (x.toNat : Int) % 128 * pwI (7 * (a : Int))
    ·rw [pgF_big hx h1 h3] at h; exact absurd h (by decide)
    ·rw [pgF_end hx h1 h3]; dsimp only; omega
   ·rw [pgF_more hx h1] at h ⊢
    exact pgF_pos b k (a + 1) _ h
theorem pgG_pos {b : List UInt8} {c : Int} (h : (pgG b c).2.2 = 0) : 1 ≤ (pgG b c).2.1 := by
 cases hx : b[0]? with
 | none => rw [pgG_none hx] at h; exact absurd h (by decide)
 | some x =>
  by_cases h1 : (x.toNat : Int) % pwI c < pwI c - 1
  ·rw [pgG_lt hx h1]; dsimp only; omega
  ·rw [pgG_ge hx h1] at h ⊢; exact pgF_pos b 5 0 _ h
theorem rg_right (b : List UInt8) : ((rgM b).e ≠ 0 ∧ (rgM b).n = 0) ∨ ((rgM b).e = 0 ∧ RP (rgM b).k (rgM b).i (rgM b).nm (rgM b).ns (rgM b).vl (rgM b).vs (rgM b).sz ∧ 0 < (rgM b).n ∧ (rgM b).n ≤ (b.length : Int)) := by
 by_cases hbe : b.length = 0
 ·rw [rgM_none (List.getElem?_eq_none (by omega))]; exact .inl ⟨by decide, rfl⟩
 obtain ⟨x, hx⟩ := ex_at (l := b) (i := 0) (by omega)
 obtain ⟨κ, hkm⟩ : ∃ c, kindM (x.toNat : Int) = c := ⟨_, rfl⟩
 have hκ := kindM_in (x := (x.toNat : Int)) (by omega)
 rw [hkm] at hκ
 have hcb := biI_bd hκ
 have hbd := pgG_bd b (c := biI κ) (by omega) (by omega)
 have hps := pgG_pos (b := b) (c := biI κ)
 obtain ⟨⟨pn, pk, pe⟩, hp⟩ : ∃ p, pgG b (biI κ) = p := ⟨_, rfl⟩
 rw [rgM_some hx hkm hp]
 rw [hp] at hbd hps
 dsimp only at hbd hps
 obtain ⟨a, rfl⟩ : ∃ j : Nat, pk = j := ⟨pk.toNat, by omega⟩
 by_cases hpe : pe = 0
 rotate_left
 ·rw [rgK_e hpe]; exact .inl ⟨hpe, rfl⟩
 subst hpe
 have hps := hps rfl
 by_cases h5 : κ = 5
 ·subst h5
  rw [rgK_5]
  refine .inr ⟨rfl, ?_, by dsimp only; omega, by dsimp only; omega⟩
  dsimp only; unfold RP; simp; omega
 by_cases h1 : κ = 1
 ·subst h1
  by_cases hn0 : pn = 0
  ·subst hn0; rw [rgK_10]; exact .inl ⟨by decide, rfl⟩
  ·rw [rgK_1 hn0]
   refine .inr ⟨rfl, ?_, by dsimp only; omega, by dsimp only; omega⟩
   dsimp only; unfold RP; simp; omega
 have hdl : (List.drop a b).length = b.length - a := List.length_drop
 obtain ⟨⟨t1, s1, k1, e1⟩, hs1⟩ : ∃ p, slG (b.drop a) (b.length : Int) = p := ⟨_, rfl⟩
 have hk1 := slG_bd (b.drop a) (b.length : Int)
 rw [hs1, hdl] at hk1
 dsimp only at hk1
 obtain ⟨a1, rfl⟩ : ∃ j : Nat, k1 = j := ⟨k1.toNat, by omega⟩
 by_cases hn0 : pn = 0
 ·subst hn0
  rw [rgK_n h5 h1]
  by_cases he1 : e1 = 0
  rotate_left
  ·rw [rgN_e hs1 he1]; exact .inl ⟨he1, rfl⟩
  subst he1
  rw [rgN_ok hs1]
  have hdl2 : (List.drop (a + a1) b).length = b.length - (a + a1) := List.length_drop
  obtain ⟨⟨t2, s2, k2, e2⟩, hs2⟩ : ∃ p, slG (b.drop (a + a1)) (b.length : Int) = p := ⟨_, rfl⟩
  have hk2 := slG_bd (b.drop (a + a1)) (b.length : Int)
  rw [hs2, hdl2] at hk2
  dsimp only at hk2
  by_cases he2 : e2 = 0
  ·subst he2
   rw [rgV_ok hs2]
   refine .inr ⟨rfl, ?_, by dsimp only; omega, by dsimp only; omega⟩
   dsimp only; unfold RP; simp; omega
  ·rw [rgV_e hs2 he2]; exact .inl ⟨he2, rfl⟩
 ·rw [rgK_v h5 h1 hn0]
  by_cases he1 : e1 = 0
  ·subst he1
   rw [rgV_ok hs1]
   refine .inr ⟨rfl, ?_, by dsimp only; omega, by dsimp only; omega⟩
   dsimp only; unfold RP; simp; omega
  ·rw [rgV_e hs1 he1]; exact .inl ⟨he1, rfl⟩
end Go.Proofs.YtohbfcmmpaikhaaDoor

set_option linter.unusedVariables false
set_option linter.unusedSimpArgs false
namespace Go.Proofs.YtohbfcmmpaikhaaDoor
open Go Go.Lf Go.Proofs
attribute [local irreducible] Lf.rg Lf.ro Lf.PWp Lf.SOp Lf.ACall Lf.Scoped Lf.dg Lf.dw
set_option maxRecDepth 20000
set_option maxHeartbeats 4000000
def stTab : List (ByteArray × ByteArray) := [(⟨#[58, 97, 117, 116, 104, 111, 114, 105, 116, 121]⟩, ⟨#[]⟩), (⟨#[58, 109, 101, 116, 104, 111, 100]⟩, ⟨#[71, 69, 84]⟩), (⟨#[58, 109, 101, 116, 104, 111, 100]⟩, ⟨#[80, 79, 83, 84]⟩), (⟨#[58, 112, 97, 116, 104]⟩, ⟨#[47]⟩), (⟨#[58, 112, 97, 116, 104]⟩, ⟨#[47, 105, 110, 100, 101, 120, 46, 104, 116, 109, 108]⟩), (⟨#[58, 115, 99, 104, 101, 109, 101]⟩, ⟨#[104, 116, 116, 112]⟩), (⟨#[58, 115, 99, 104, 101, 109, 101]⟩, ⟨#[104, 116, 116, 112, 115]⟩), (⟨#[58, 115, 116, 97, 116, 117, 115]⟩, ⟨#[50, 48, 48]⟩), (⟨#[58, 115, 116, 97, 116, 117, 115]⟩, ⟨#[50, 48, 52]⟩), (⟨#[58, 115, 116, 97, 116, 117, 115]⟩, ⟨#[50, 48, 54]⟩), (⟨#[58, 115, 116, 97, 116, 117, 115]⟩, ⟨#[51, 48, 52]⟩), (⟨#[58, 115, 116, 97, 116, 117, 115]⟩, ⟨#[52, 48, 48]⟩), (⟨#[58, 115, 116, 97, 116, 117, 115]⟩, ⟨#[52, 48, 52]⟩), (⟨#[58, 115, 116, 97, 116, 117, 115]⟩, ⟨#[53, 48, 48]⟩), (⟨#[97, 99, 99, 101, 112, 116, 45, 99, 104, 97, 114, 115, 101, 116]⟩, ⟨#[]⟩), (⟨#[97, 99, 99, 101, 112, 116, 45, 101, 110, 99, 111, 100, 105, 110, 103]⟩, ⟨#[103, 122, 105, 112, 44, 32, 100, 101, 102, 108, 97, 116, 101]⟩), (⟨#[97, 99, 99, 101, 112, 116, 45, 108, 97, 110, 103, 117, 97, 103, 101]⟩, ⟨#[]⟩), (⟨#[97, 99, 99, 101, 112, 116, 45, 114, 97, 110, 103, 101, 115]⟩, ⟨#[]⟩), (⟨#[97, 99, 99, 101, 112, 116]⟩, ⟨#[]⟩), (⟨#[97, 99, 99, 101, 115, 115, 45, 99, 111, 110, 116, 114, 111, 108, 45, 97, 108, 108, 111, 119, 45, 111, 114, 105, 103, 105, 110]⟩, ⟨#[]⟩), (⟨#[97, 103, 101]⟩, ⟨#[]⟩), (⟨#[97, 108, 108, 111, 119]⟩, ⟨#[]⟩), (⟨#[97, 117, 116, 104, 111, 114, 105, 122, 97, 116, 105, 111, 110]⟩, ⟨#[]⟩), (⟨#[99, 97, 99, 104, 101, 45, 99, 111, 110, 116, 114, 111, 108]⟩, ⟨#[]⟩), (⟨#[99, 111, 110, 116, 101, 110, 116, 45, 100, 105, 115, 112, 111, 115, 105, 116, 105, 111, 110]⟩, ⟨#[]⟩), (⟨#[99, 111, 110, 116, 101, 110, 116, 45, 101, 110, 99, 111, 100, 105, 110, 103]⟩, ⟨#[]⟩), (⟨#[99, 111, 110, 116, 101, 110, 116, 45, 108, 97, 110, 103, 117, 97, 103, 101]⟩, ⟨#[]⟩), (⟨#[99, 111, 110, 116, 101, 110, 116, 45, 108, 101, 110, 103, 116, 104]⟩, ⟨#[]⟩), (⟨#[99, 111, 110, 116, 101, 110, 116, 45, 108, 111, 99, 97, 116, 105, 111, 110]⟩, ⟨#[]⟩), (⟨#[99, 111, 110, 116, 101, 110, 116, 45, 114, 97, 110, 103, 101]⟩, ⟨#[]⟩), (⟨#[99, 111, 110, 116, 101, 110, 116, 45, 116, 121, 112, 101]⟩, ⟨#[]⟩), (⟨#[99, 111, 111, 107, 105, 101]⟩, ⟨#[]⟩), (⟨#[100, 97, 116, 101]⟩, ⟨#[]⟩), (⟨#[101, 116, 97, 103]⟩, ⟨#[]⟩), (⟨#[101, 120, 112, 101, 99, 116]⟩, ⟨#[]⟩), (⟨#[101, 120, 112, 105, 114, 101, 115]⟩, ⟨#[]⟩), (⟨#[102, 114, 111, 109]⟩, ⟨#[]⟩), (⟨#[104, 111, 115, 116]⟩, ⟨#[]⟩), (⟨#[105, 102, 45, 109, 97, 116, 99, 104]⟩, ⟨#[]⟩), (⟨#[105, 102, 45, 109, 111, 100, 105, 102, 105, 101, 100, 45, 115, 105, 110, 99, 101]⟩, ⟨#[]⟩), (⟨#[105, 102, 45, 110, 111, 110, 101, 45, 109, 97, 116, 99, 104]⟩, ⟨#[]⟩), (⟨#[105, 102, 45, 114, 97, 110, 103, 101]⟩, ⟨#[]⟩), (⟨#[105, 102, 45, 117, 110, 109, 111, 100, 105, 102, 105, 101, 100, 45, 115, 105, 110, 99, 101]⟩, ⟨#[]⟩), (⟨#[108, 97, 115, 116, 45, 109, 111, 100, 105, 102, 105, 101, 100]⟩, ⟨#[]⟩), (⟨#[108, 105, 110, 107]⟩, ⟨#[]⟩), (⟨#[108, 111, 99, 97, 116, 105, 111, 110]⟩, ⟨#[]⟩), (⟨#[109, 97, 120, 45, 102, 111, 114, 119, 97, 114, 100, 115]⟩, ⟨#[]⟩), (⟨#[112, 114, 111, 120, 121, 45, 97, 117, 116, 104, 101, 110, 116, 105, 99, 97, 116, 101]⟩, ⟨#[]⟩), (⟨#[112, 114, 111, 120, 121, 45, 97, 117, 116, 104, 111, 114, 105, 122, 97, 116, 105, 111, 110]⟩, ⟨#[]⟩), (⟨#[114, 97, 110, 103, 101]⟩, ⟨#[]⟩), (⟨#[114, 101, 102, 101, 114, 101, 114]⟩, ⟨#[]⟩), (⟨#[114, 101, 102, 114, 101, 115, 104]⟩, ⟨#[]⟩), (⟨#[114, 101, 116, 114, 121, 45, 97, 102, 116, 101, 114]⟩, ⟨#[]⟩), (⟨#[115, 101, 114, 118, 101, 114]⟩, ⟨#[]⟩), (⟨#[115, 101, 116, 45, 99, 111, 111, 107, 105, 101]⟩, ⟨#[]⟩), (⟨#[115, 116, 114, 105, 99, 116, 45, 116, 114, 97, 110, 115, 112, 111, 114, 116, 45, 115, 101, 99, 117, 114, 105, 116, 121]⟩, ⟨#[]⟩), (⟨#[116, 114, 97, 110, 115, 102, 101, 114, 45, 101, 110, 99, 111, 100, 105, 110, 103]⟩, ⟨#[]⟩), (⟨#[117, 115, 101, 114, 45, 97, 103, 101, 110, 116]⟩, ⟨#[]⟩), (⟨#[118, 97, 114, 121]⟩, ⟨#[]⟩), (⟨#[118, 105, 97]⟩, ⟨#[]⟩), (⟨#[119, 119, 119, 45, 97, 117, 116, 104, 101, 110, 116, 105, 99, 97, 116, 101]⟩, ⟨#[]⟩)]
def stAt (i : Int) : ByteArray × ByteArray := if 1 ≤ i then stTab.getD (i.toNat - 1) (⟨#[]⟩, ⟨#[]⟩) else (⟨#[]⟩, ⟨#[]⟩)
@[go_sem] def fieldA (f : ByteArray × ByteArray) : List AV := [.lit (.string f.1), .lit (.string f.2), bl false]
abbrev comA : List AV := (stTab.take 14).flatMap fun p => [str p.1, str p.2]
abbrev plaA : List AV := (stTab.drop 14).map fun p => str p.1
theorem rn_com (f : Nat → Nat) : rnl f comA = comA := rfl
theorem rn_pla (f : Nat → Nat) : rnl f plaA = plaA := rfl
theorem stTab_len : stTab.length = 61 := rfl
theorem stAt_get (i : Int) (h : 1 ≤ i ∧ i ≤ 61) : ∃ h2 : i.toNat - 1 < stTab.length, stAt i = stTab[i.toNat - 1] := by
 refine ⟨by rw [stTab_len]; omega, ?_⟩
 unfold stAt
 rw [if_pos h.1, List.getD_eq_getElem?_getD, List.getElem?_eq_getElem (by rw [stTab_len]; omega)]; rfl
theorem st_all15 (p : ByteArray × ByteArray → Bool) (h : (stTab.drop 14).all p = true) (i : Int) (hi : 15 ≤ i ∧ i ≤ 61) : p (stAt i) = true := by
 obtain ⟨h2, e⟩ := stAt_get i ⟨by omega, hi.2⟩
 rw [e]
 refine List.all_eq_true.1 h _ ?_
 rw [List.mem_iff_getElem?]
 refine ⟨i.toNat - 15, ?_⟩
 rw [List.getElem?_drop, List.getElem?_eq_some_iff]
 refine ⟨by rw [stTab_len]; omega, ?_⟩
 congr 1
 omega
theorem st_gz (i : Int) (hi : 15 ≤ i ∧ i ≤ 61) (h : (stAt i).1 = ⟨#[97, 99, 99, 101, 112, 116, 45, 101, 110, 99, 111, 100, 105, 110, 103]⟩) : (stAt i).2 = ⟨#[103, 122, 105, 112, 44, 32, 100, 101, 102, 108, 97, 116, 101]⟩ := by
 have := st_all15 (fun f => decide (f.1 = ⟨#[97, 99, 99, 101, 112, 116, 45, 101, 110, 99, 111, 100, 105, 110, 103]⟩ → f.2 = ⟨#[103, 122, 105, 112, 44, 32, 100, 101, 102, 108, 97, 116, 101]⟩)) (by decide) i hi
 exact of_decide_eq_true this h
theorem st_ngz (i : Int) (hi : 15 ≤ i ∧ i ≤ 61) (h : ¬ (stAt i).1 = ⟨#[97, 99, 99, 101, 112, 116, 45, 101, 110, 99, 111, 100, 105, 110, 103]⟩) : (stAt i).2 = ⟨#[]⟩ := by
 have := st_all15 (fun f => decide (¬ f.1 = ⟨#[97, 99, 99, 101, 112, 116, 45, 101, 110, 99, 111, 100, 105, 110, 103]⟩ → f.2 = ⟨#[]⟩)) (by decide) i hi
 exact of_decide_eq_true this h
theorem aix_plain (i : Int) (h : 15 ≤ i ∧ i ≤ 61) : plaA[(i - 1 - 14).toNat * 1]? = some (str (stAt i).1) := by
 obtain ⟨h2, e⟩ := stAt_get i ⟨by omega, by omega⟩
 have hj : 14 + (i - 1 - 14).toNat * 1 = i.toNat - 1 := by omega
 rw [List.getElem?_map, List.getElem?_drop, hj, List.getElem?_eq_getElem h2, e]
 rfl
theorem aix_common (i : Int) (h : 1 ≤ i ∧ i ≤ 14) : List.take 2 (List.drop ((i - 1).toNat * 2) comA) = [str (stAt i).1, str (stAt i).2] := by
 have hi : i = 1 ∨ i = 2 ∨ i = 3 ∨ i = 4 ∨ i = 5 ∨ i = 6 ∨ i = 7 ∨ i = 8 ∨ i = 9 ∨ i = 10 ∨ i = 11 ∨ i = 12 ∨ i = 13 ∨ i = 14 := by omega
 rcases hi with rfl | rfl | rfl | rfl | rfl | rfl | rfl | rfl | rfl | rfl | rfl | rfl | rfl | rfl <;> rfl
@[go_sem] theorem sbeq (a b : ByteArray) : (a.toList == b.toList) = decide (a = b) := by
 obtain ⟨⟨a⟩⟩ := a; obtain ⟨⟨b⟩⟩ := b
 rw [ByteArray.toList_eq, ByteArray.toList_eq]
 by_cases h : a = b <;> simp [h]
theorem com_len : comA.length = 28 := rfl
theorem st_common : AEq Tryd.prog 129 [] [] (.ag comA) [] := by
 refine acall_body Tryd.func129 rfl Tryd.ntmps129 (by simp) (fun hsc => ?_); simp only [Lf.enter, Nat.reduceAdd]; clear hsc
 have hU := True.intro
 repeat' (first | (guard_target =~ PWp _ _ _ _ _ _ _; first | (refine pwp_seq_k (fun K hK => ?_)) | (refine pwp_rg_then ?_) | (refine pwp_ret ?_)) | (guard_target =~ rg _ _ _ _ _ _ _; first | (guard_target =~ rg _ _ _ [] _ _ _; first | (refine rg_end ?_)) | (refine rg_s rfl ?_) | (refine rg_n rfl ?_)) | (guard_target =~ SOp _ _ _ _ _ _; first | (guard_target =~ SOp _ _ ⟨_, .build _ _, _, _, _, none⟩ _ _ _; first | (refine n_build rfl (by first | exact bd176 | exact bd177 | fail) (hK := ?_))) | (guard_target =~ SOp _ _ ⟨_, .alloc _, _, _, _, none⟩ _ _ _; first | (refine n_alloc rfl (by first | exact zv9 | exact zv176 | exact zv177 | fail) (hK := ?_))) | (guard_target =~ SOp _ _ ⟨_, .store _ _ _, _, _, _, none⟩ _ _ _; first | (refine n_store rfl (hK := ?_)))) | (guard_target =~ (_ ∨ _) ∧ _; first | ((refine end_q [] (by first | exact .inr rfl | exact .inl rfl | fail) (by rfl) (by rw [Tryd.results129, Lf.resM1]; (try simp (disch := omega) only [Lf.resOne, go_sem, seval, ↓reduceIte, hU]); rfl) (by (try simp (disch := omega) only [go_sem, seval, ↓reduceIte, hU]) <;> rfl) (by (try simp (disch := omega) only [go_sem, seval, ↓reduceIte, hU]) <;> rfl) (ale_1 ?_) ?_) <;> (try (first | exact ale_eq (by with_reducible rfl) | exact ale_full | exact ale_sl (fun _ => rfl) | exact ale_sl (by simp) | exact ale_junk | exact ale_eq rfl | exact stq (by with_reducible rfl) | exact stq (by rfl) | exact stq (by simp (disch := omega) only [go_sem, seval, ↓reduceIte, hU]))))) | (refine hK _ _ ?_; clear hK K))
theorem st_plain : AEq Tryd.prog 130 [] [] (.ag plaA) [] := by
 refine acall_body Tryd.func130 rfl Tryd.ntmps130 (by simp) (fun hsc => ?_); simp only [Lf.enter, Nat.reduceAdd]; clear hsc
 have hU := True.intro
 repeat' (first | (guard_target =~ PWp _ _ _ _ _ _ _; first | (refine pwp_seq_k (fun K hK => ?_)) | (refine pwp_rg_then ?_) | (refine pwp_ret ?_)) | (guard_target =~ rg _ _ _ _ _ _ _; first | (guard_target =~ rg _ _ _ [] _ _ _; first | (refine rg_end ?_)) | (refine rg_s rfl ?_) | (refine rg_n rfl ?_)) | (guard_target =~ SOp _ _ _ _ _ _; first | (guard_target =~ SOp _ _ ⟨_, .build _ _, _, _, _, none⟩ _ _ _; first | (refine n_build rfl (by first | exact bd179 | fail) (hK := ?_))) | (guard_target =~ SOp _ _ ⟨_, .alloc _, _, _, _, none⟩ _ _ _; first | (refine n_alloc rfl (by first | exact zv9 | exact zv179 | fail) (hK := ?_))) | (guard_target =~ SOp _ _ ⟨_, .store _ _ _, _, _, _, none⟩ _ _ _; first | (refine n_store rfl (hK := ?_)))) | (guard_target =~ (_ ∨ _) ∧ _; first | ((refine end_q [] (by first | exact .inr rfl | exact .inl rfl | fail) (by rfl) (by rw [Tryd.results130, Lf.resM1]; (try simp (disch := omega) only [Lf.resOne, go_sem, seval, ↓reduceIte, hU]); rfl) (by (try simp (disch := omega) only [go_sem, seval, ↓reduceIte, hU]) <;> rfl) (by (try simp (disch := omega) only [go_sem, seval, ↓reduceIte, hU]) <;> rfl) (ale_1 ?_) ?_) <;> (try (first | exact ale_eq (by with_reducible rfl) | exact ale_full | exact ale_sl (fun _ => rfl) | exact ale_sl (by simp) | exact ale_junk | exact ale_eq rfl | exact stq (by with_reducible rfl) | exact stq (by rfl) | exact stq (by simp (disch := omega) only [go_sem, seval, ↓reduceIte, hU]))))) | (refine hK _ _ ?_; clear hK K))
theorem st_at_some (i : Int) (h : 1 ≤ i ∧ i ≤ 61) : AEq Tryd.prog 109 [i64 i] [] (.tu [.ag (fieldA (stAt i)), bl true]) [] := by
 refine acall_body Tryd.func109 rfl Tryd.ntmps109 (by simp) (fun hsc => ?_); simp only [Lf.enter, Nat.reduceAdd]; clear hsc
 repeat' (first | (guard_target =~ PWp _ _ _ _ _ _ _; first | (refine pwp_seq_k (fun K hK => ?_)) | (refine pwp_block ?_) | (refine pwp_rg_then ?_) | (refine pwp_ret ?_) | (refine pwp_skip ?_) | ((refine pwp_cond (by (try simp (disch := omega) only [go_sem, seval, ↓reduceIte, rn_com, rn_pla, aix_plain, aix_common, com_len, if_pos]) <;> rfl) (fun hcd => ?_) (fun hcd => ?_)) <;> (try simp only [hcP] at hcd) <;> (try (exfalso; first | omega | exact absurd hcd (by assumption) | exact absurd (by assumption) hcd)))) | (guard_target =~ rg _ _ _ _ _ _ _; first | (guard_target =~ rg _ _ _ (⟨_, .move _, _, _, _, none⟩ :: _) _ _ _; first | (refine rg_v rfl (by (try simp (disch := omega) only [go_sem, seval, ↓reduceIte, rn_com, rn_pla, aix_plain, aix_common, com_len, if_pos]) <;> rfl) ?_)) | (guard_target =~ rg _ _ _ (⟨_, .binOp _ _ _ _ _, _, _, _, none⟩ :: _) _ _ _; first | (refine rg_v rfl (by (try simp (disch := omega) only [go_sem, seval, ↓reduceIte, rn_com, rn_pla, aix_plain, aix_common, com_len, if_pos]) <;> rfl) ?_) | (refine rg_s rfl ?_) | (refine rg_n rfl ?_)) | (guard_target =~ rg _ _ _ (⟨_, .assign _, _, _, _, none⟩ :: _) _ _ _; first | (refine rg_a rfl (by (try simp (disch := omega) only [go_sem, seval, ↓reduceIte, rn_com, rn_pla, aix_plain, aix_common, com_len, if_pos]) <;> rfl) ?_)) | (guard_target =~ rg _ _ _ (⟨_, .load _ _, _, _, _, none⟩ :: _) _ _ _; first | (refine rg_v rfl (by (try simp (disch := omega) only [go_sem, seval, ↓reduceIte, rn_com, rn_pla, aix_plain, aix_common, com_len, if_pos]) <;> rfl) ?_)) | (guard_target =~ rg _ _ _ (⟨_, .index _ _ _, _, _, _, none⟩ :: _) _ _ _; first | (refine rg_v rfl (by (try simp (disch := omega) only [go_sem, seval, ↓reduceIte, rn_com, rn_pla, aix_plain, aix_common, com_len, if_pos]) <;> rfl) ?_)) | (guard_target =~ rg _ _ _ (⟨_, .fieldAddr _ _ _, _, _, _, none⟩ :: _) _ _ _; first | (refine rg_v rfl (by (try simp (disch := omega) only [go_sem, seval, ↓reduceIte, rn_com, rn_pla, aix_plain, aix_common, com_len, if_pos]) <;> rfl) ?_)) | (guard_target =~ rg _ _ _ (⟨_, .move _, _, _, _, some _⟩ :: _) _ _ _; first | (refine rg_gq rfl (by simp only [go_sem, seval, ↓reduceIte, rn_com, rn_pla, aix_plain, aix_common, com_len, if_pos] <;> rfl) (by first | (simp only [go_sem, seval, ↓reduceIte, rn_com, rn_pla, aix_plain, aix_common, com_len, if_pos]; done) | (simp only [go_sem, seval, ↓reduceIte, rn_com, rn_pla, aix_plain, aix_common, com_len, if_pos]; rfl) | rfl) (by (try simp (disch := omega) only [go_sem, seval, ↓reduceIte, rn_com, rn_pla, aix_plain, aix_common, com_len, if_pos]) <;> rfl) ?_)) | (guard_target =~ rg _ _ _ (⟨_, .pick _ _ _, _, _, _, none⟩ :: _) _ _ _; first | (refine rg_v rfl (by (try simp (disch := omega) only [go_sem, seval, ↓reduceIte, rn_com, rn_pla, aix_plain, aix_common, com_len, if_pos]) <;> rfl) ?_)) | (guard_target =~ rg _ _ _ (⟨_, .binOp _ _ _ _ _, _, _, _, some _⟩ :: _) _ _ _; first | (refine rg_gq rfl (by simp only [go_sem, seval, ↓reduceIte, rn_com, rn_pla, aix_plain, aix_common, com_len, if_pos] <;> rfl) (by first | (simp only [go_sem, seval, ↓reduceIte, rn_com, rn_pla, aix_plain, aix_common, com_len, if_pos]; done) | (simp only [go_sem, seval, ↓reduceIte, rn_com, rn_pla, aix_plain, aix_common, com_len, if_pos]; rfl) | rfl) (by (try simp (disch := omega) only [go_sem, seval, ↓reduceIte, rn_com, rn_pla, aix_plain, aix_common, com_len, if_pos]) <;> rfl) ?_)) | (guard_target =~ rg _ _ _ [] _ _ _; first | (refine rg_end ?_)) | (refine rg_s rfl ?_) | (refine rg_n rfl ?_)) | (guard_target =~ SOp _ _ _ _ _ _; first | (guard_target =~ SOp _ _ ⟨_, .store _ _ _, _, _, _, none⟩ _ _ _; first | (refine n_store rfl (by (try simp (disch := omega) only [go_sem, seval, ↓reduceIte, rn_com, rn_pla, aix_plain, aix_common, com_len, if_pos]) <;> rfl) (by (try simp (disch := omega) only [go_sem, seval, ↓reduceIte, rn_com, rn_pla, aix_plain, aix_common, com_len, if_pos]) <;> rfl) (by first | (simp (disch := omega) only [go_sem, seval, ↓reduceIte, rn_com, rn_pla, aix_plain, aix_common, com_len, if_pos]; done) | rfl) (by (try simp (disch := omega) only [go_sem, seval, ↓reduceIte, rn_com, rn_pla, aix_plain, aix_common, com_len, if_pos]) <;> rfl) (by (try simp (disch := omega) only [go_sem, seval, ↓reduceIte, rn_com, rn_pla, aix_plain, aix_common, com_len, if_pos]) <;> rfl) (by first | (simp (disch := omega) only [go_sem, seval, ↓reduceIte, rn_com, rn_pla, aix_plain, aix_common, com_len, if_pos]; done) | rfl) (by first | (simp (disch := omega) only [go_sem, seval, ↓reduceIte, rn_com, rn_pla, aix_plain, aix_common, com_len, if_pos]; done) | rfl) (by first | (simp (disch := omega) only [go_sem, seval, ↓reduceIte, rn_com, rn_pla, aix_plain, aix_common, com_len, if_pos]; done) | rfl) (by (try simp (disch := omega) only [go_sem, seval, ↓reduceIte, rn_com, rn_pla, aix_plain, aix_common, com_len, if_pos]) <;> rfl) (by (try simp (disch := omega) only [go_sem, seval, ↓reduceIte, rn_com, rn_pla, aix_plain, aix_common, com_len, if_pos]) <;> rfl) ?_)) | (guard_target =~ SOp _ _ ⟨_, .call ⟨.value (.func 129), _, _⟩, _, _, _, none⟩ _ _ _; first | (refine n_call (f := 129) rfl Tryd.call129 (by (try simp (disch := omega) only [go_sem, seval, ↓reduceIte, rn_com, rn_pla, aix_plain, aix_common, com_len, if_pos]) <;> rfl) (AEq.pure' (by first | ((repeat' (first | exact trivial | (first | exact arg_lit | exact arg_sl id id | exact arg_nil | exact arg_sl (by simp) id | exact arg_sl (by simp) (fun _ => rfl) | exact arg_row_m (by rfl) (by rfl) (fun _ => rfl) | exact arg_vw_m (by rfl) (by rfl) (fun _ => rfl) | exact arg_rn (by rfl) (by rfl) | exact arg_junk | exact arg_row_mm (by rfl) (by rfl) (fun _ => rfl)) | refine ⟨?_, ?_⟩)); done) | fail) st_common (by first | (simp (disch := omega) only [go_sem, seval, ↓reduceIte, rn_com, rn_pla, aix_plain, aix_common, com_len, if_pos]; done) | rfl) (by (try simp (disch := omega) only [go_sem, seval, ↓reduceIte, rn_com, rn_pla, aix_plain, aix_common, com_len, if_pos]) <;> rfl) ?_))) | (guard_target =~ SOp _ _ ⟨_, .build _ _, _, _, _, none⟩ _ _ _; first | (refine n_build rfl (by first | exact bd67 | exact bd176 | exact bd177 | exact bd179 | fail) (by (try simp (disch := omega) only [go_sem, seval, ↓reduceIte, rn_com, rn_pla, aix_plain, aix_common, com_len, if_pos]) <;> rfl) (by (try simp (disch := omega) only [go_sem, seval, ↓reduceIte, rn_com, rn_pla, aix_plain, aix_common, com_len, if_pos]) <;> rfl) (by (try simp (disch := omega) only [go_sem, seval, ↓reduceIte, rn_com, rn_pla, aix_plain, aix_common, com_len, if_pos]) <;> rfl) (by first | (simp (disch := omega) only [go_sem, seval, ↓reduceIte, rn_com, rn_pla, aix_plain, aix_common, com_len, if_pos]; done) | rfl) ?_)) | (guard_target =~ SOp _ _ ⟨_, .alloc _, _, _, _, none⟩ _ _ _; first | (refine n_alloc rfl (by first | exact zv3 | exact zv4 | exact zv9 | exact zv67 | exact zv176 | exact zv177 | exact zv179 | fail) (by first | (simp (disch := omega) only [go_sem, seval, ↓reduceIte, rn_com, rn_pla, aix_plain, aix_common, com_len, if_pos]; done) | rfl) (by (try simp (disch := omega) only [go_sem, seval, ↓reduceIte, rn_com, rn_pla, aix_plain, aix_common, com_len, if_pos]) <;> rfl) (by (try simp (disch := omega) only [go_sem, seval, ↓reduceIte, rn_com, rn_pla, aix_plain, aix_common, com_len, if_pos]) <;> rfl) (by (try simp (disch := omega) only [go_sem, seval, ↓reduceIte, rn_com, rn_pla, aix_plain, aix_common, com_len, if_pos]) <;> rfl) ?_)) | (guard_target =~ SOp _ _ ⟨_, .indexAddr _ _ _, _, _, _, none⟩ _ _ _; first | (refine n_index_arr rfl (by (try simp (disch := omega) only [go_sem, seval, ↓reduceIte, rn_com, rn_pla, aix_plain, aix_common, com_len, if_pos]) <;> rfl) (by first | (simp (disch := omega) only [go_sem, seval, ↓reduceIte, rn_com, rn_pla, aix_plain, aix_common, com_len, if_pos]; done) | rfl) (by (try simp (disch := omega) only [go_sem, seval, ↓reduceIte, rn_com, rn_pla, aix_plain, aix_common, com_len, if_pos]) <;> rfl) (by first | (simp (disch := omega) only [go_sem, seval, ↓reduceIte, rn_com, rn_pla, aix_plain, aix_common, com_len, if_pos]; done) | rfl) (by (try simp (disch := omega) only [go_sem, seval, ↓reduceIte, rn_com, rn_pla, aix_plain, aix_common, com_len, if_pos]) <;> rfl) (by (try simp only [List.length_map, List.length_append, List.length_cons, List.length_nil, List.length_replicate, List.length_take, List.length_drop, List.length_set]); omega) (by (try simp (disch := omega) only [go_sem, seval, ↓reduceIte, rn_com, rn_pla, aix_plain, aix_common, com_len, if_pos]) <;> rfl) (by (try simp only [List.length_map, List.length_append, List.length_cons, List.length_nil, List.length_replicate, List.length_take, List.length_drop, List.length_set]); omega) (by (try simp (disch := omega) only [go_sem, seval, ↓reduceIte, rn_com, rn_pla, aix_plain, aix_common, com_len, if_pos]) <;> rfl) (by simp (disch := omega) only [aidx, go_sem, seval, ↓reduceIte, rn_com, rn_pla, aix_plain, aix_common, com_len, if_pos]; rfl) ?_)) | (guard_target =~ SOp _ _ ⟨_, .call ⟨.value (.func 130), _, _⟩, _, _, _, none⟩ _ _ _; first | (refine n_call (f := 130) rfl Tryd.call130 (by (try simp (disch := omega) only [go_sem, seval, ↓reduceIte, rn_com, rn_pla, aix_plain, aix_common, com_len, if_pos]) <;> rfl) (AEq.pure' (by first | ((repeat' (first | exact trivial | (first | exact arg_lit | exact arg_sl id id | exact arg_nil | exact arg_sl (by simp) id | exact arg_sl (by simp) (fun _ => rfl) | exact arg_row_m (by rfl) (by rfl) (fun _ => rfl) | exact arg_vw_m (by rfl) (by rfl) (fun _ => rfl) | exact arg_rn (by rfl) (by rfl) | exact arg_junk | exact arg_row_mm (by rfl) (by rfl) (fun _ => rfl)) | refine ⟨?_, ?_⟩)); done) | fail) st_plain (by first | (simp (disch := omega) only [go_sem, seval, ↓reduceIte, rn_com, rn_pla, aix_plain, aix_common, com_len, if_pos]; done) | rfl) (by (try simp (disch := omega) only [go_sem, seval, ↓reduceIte, rn_com, rn_pla, aix_plain, aix_common, com_len, if_pos]) <;> rfl) ?_)))) | (guard_target =~ (_ ∨ _) ∧ _; first | ((refine end_q [] (by first | exact .inr rfl | exact .inl rfl | fail) (by rfl) (by rw [Tryd.results109]; exact Lf.resM2 (by (try simp (disch := omega) only [Lf.resOne, go_sem, seval, ↓reduceIte, rn_com, rn_pla, aix_plain, aix_common, com_len, if_pos]); rfl) (by (try simp (disch := omega) only [Lf.resOne, go_sem, seval, ↓reduceIte, rn_com, rn_pla, aix_plain, aix_common, com_len, if_pos]); rfl)) (by (try simp (disch := omega) only [go_sem, seval, ↓reduceIte, rn_com, rn_pla, aix_plain, aix_common, com_len, if_pos]) <;> rfl) (by (try simp (disch := omega) only [go_sem, seval, ↓reduceIte, rn_com, rn_pla, aix_plain, aix_common, com_len, if_pos]) <;> rfl) (ale_2 ?_ ?_) ?_) <;> (try (first | exact ale_eq (by with_reducible rfl) | exact ale_full | exact ale_sl (fun _ => rfl) | exact ale_sl (by simp) | exact ale_junk | exact ale_eq rfl | exact stq (by with_reducible rfl) | exact stq (by rfl) | exact stq (by simp (disch := omega) only [go_sem, seval, ↓reduceIte, rn_com, rn_pla, aix_plain, aix_common, com_len, if_pos]))))) | (refine hK _ _ ?_; clear hK K))
 ·exact ale_eq (by simp only [fieldA]; rw [st_gz i (by omega) hcd])
 ·exact ale_eq (by simp only [fieldA]; rw [st_ngz i (by omega) hcd])
theorem st_at_none (i : Int) (h : i < 1 ∨ 61 < i) : AEq Tryd.prog 109 [i64 i] [] (.tu [.ag (fieldA (⟨#[]⟩, ⟨#[]⟩)), bl false]) [] := by
 refine acall_body Tryd.func109 rfl Tryd.ntmps109 (by simp) (fun hsc => ?_); simp only [Lf.enter, Nat.reduceAdd]; clear hsc
 repeat' (first | (guard_target =~ PWp _ _ _ _ _ _ _; first | (refine pwp_seq_k (fun K hK => ?_)) | (refine pwp_block ?_) | (refine pwp_rg_then ?_) | (refine pwp_ret ?_) | ((refine pwp_cond (by (try simp (disch := omega) only [go_sem, seval, ↓reduceIte, rn_com, rn_pla, aix_plain, aix_common, com_len, if_pos]) <;> rfl) (fun hcd => ?_) (fun hcd => ?_)) <;> (try simp only [hcP] at hcd) <;> (try (exfalso; first | omega | exact absurd hcd (by assumption) | exact absurd (by assumption) hcd)))) | (guard_target =~ rg _ _ _ _ _ _ _; first | (guard_target =~ rg _ _ _ (⟨_, .move _, _, _, _, none⟩ :: _) _ _ _; first | (refine rg_v rfl (by (try simp (disch := omega) only [go_sem, seval, ↓reduceIte, rn_com, rn_pla, aix_plain, aix_common, com_len, if_pos]) <;> rfl) ?_)) | (guard_target =~ rg _ _ _ (⟨_, .binOp _ _ _ _ _, _, _, _, none⟩ :: _) _ _ _; first | (refine rg_v rfl (by (try simp (disch := omega) only [go_sem, seval, ↓reduceIte, rn_com, rn_pla, aix_plain, aix_common, com_len, if_pos]) <;> rfl) ?_) | (refine rg_s rfl ?_) | (refine rg_n rfl ?_)) | (guard_target =~ rg _ _ _ (⟨_, .assign _, _, _, _, none⟩ :: _) _ _ _; first | (refine rg_a rfl (by (try simp (disch := omega) only [go_sem, seval, ↓reduceIte, rn_com, rn_pla, aix_plain, aix_common, com_len, if_pos]) <;> rfl) ?_)) | (guard_target =~ rg _ _ _ (⟨_, .load _ _, _, _, _, none⟩ :: _) _ _ _; first | (refine rg_v rfl (by (try simp (disch := omega) only [go_sem, seval, ↓reduceIte, rn_com, rn_pla, aix_plain, aix_common, com_len, if_pos]) <;> rfl) ?_)) | (guard_target =~ rg _ _ _ (⟨_, .index _ _ _, _, _, _, none⟩ :: _) _ _ _; first | (refine rg_v rfl (by (try simp (disch := omega) only [go_sem, seval, ↓reduceIte, rn_com, rn_pla, aix_plain, aix_common, com_len, if_pos]) <;> rfl) ?_)) | (guard_target =~ rg _ _ _ (⟨_, .fieldAddr _ _ _, _, _, _, none⟩ :: _) _ _ _; first | (refine rg_v rfl (by (try simp (disch := omega) only [go_sem, seval, ↓reduceIte, rn_com, rn_pla, aix_plain, aix_common, com_len, if_pos]) <;> rfl) ?_)) | (guard_target =~ rg _ _ _ (⟨_, .move _, _, _, _, some _⟩ :: _) _ _ _; first | (refine rg_gq rfl (by simp only [go_sem, seval, ↓reduceIte, rn_com, rn_pla, aix_plain, aix_common, com_len, if_pos] <;> rfl) (by first | (simp only [go_sem, seval, ↓reduceIte, rn_com, rn_pla, aix_plain, aix_common, com_len, if_pos]; done) | (simp only [go_sem, seval, ↓reduceIte, rn_com, rn_pla, aix_plain, aix_common, com_len, if_pos]; rfl) | rfl) (by (try simp (disch := omega) only [go_sem, seval, ↓reduceIte, rn_com, rn_pla, aix_plain, aix_common, com_len, if_pos]) <;> rfl) ?_)) | (guard_target =~ rg _ _ _ (⟨_, .pick _ _ _, _, _, _, none⟩ :: _) _ _ _; first | (refine rg_v rfl (by (try simp (disch := omega) only [go_sem, seval, ↓reduceIte, rn_com, rn_pla, aix_plain, aix_common, com_len, if_pos]) <;> rfl) ?_)) | (guard_target =~ rg _ _ _ (⟨_, .binOp _ _ _ _ _, _, _, _, some _⟩ :: _) _ _ _; first | (refine rg_gq rfl (by simp only [go_sem, seval, ↓reduceIte, rn_com, rn_pla, aix_plain, aix_common, com_len, if_pos] <;> rfl) (by first | (simp only [go_sem, seval, ↓reduceIte, rn_com, rn_pla, aix_plain, aix_common, com_len, if_pos]; done) | (simp only [go_sem, seval, ↓reduceIte, rn_com, rn_pla, aix_plain, aix_common, com_len, if_pos]; rfl) | rfl) (by (try simp (disch := omega) only [go_sem, seval, ↓reduceIte, rn_com, rn_pla, aix_plain, aix_common, com_len, if_pos]) <;> rfl) ?_)) | (guard_target =~ rg _ _ _ [] _ _ _; first | (refine rg_end ?_)) | (refine rg_s rfl ?_) | (refine rg_n rfl ?_)) | (guard_target =~ SOp _ _ _ _ _ _; first | (guard_target =~ SOp _ _ ⟨_, .store _ _ _, _, _, _, none⟩ _ _ _; first | (refine n_store rfl (by (try simp (disch := omega) only [go_sem, seval, ↓reduceIte, rn_com, rn_pla, aix_plain, aix_common, com_len, if_pos]) <;> rfl) (by (try simp (disch := omega) only [go_sem, seval, ↓reduceIte, rn_com, rn_pla, aix_plain, aix_common, com_len, if_pos]) <;> rfl) (by first | (simp (disch := omega) only [go_sem, seval, ↓reduceIte, rn_com, rn_pla, aix_plain, aix_common, com_len, if_pos]; done) | rfl) (by (try simp (disch := omega) only [go_sem, seval, ↓reduceIte, rn_com, rn_pla, aix_plain, aix_common, com_len, if_pos]) <;> rfl) (by (try simp (disch := omega) only [go_sem, seval, ↓reduceIte, rn_com, rn_pla, aix_plain, aix_common, com_len, if_pos]) <;> rfl) (by first | (simp (disch := omega) only [go_sem, seval, ↓reduceIte, rn_com, rn_pla, aix_plain, aix_common, com_len, if_pos]; done) | rfl) (by first | (simp (disch := omega) only [go_sem, seval, ↓reduceIte, rn_com, rn_pla, aix_plain, aix_common, com_len, if_pos]; done) | rfl) (by first | (simp (disch := omega) only [go_sem, seval, ↓reduceIte, rn_com, rn_pla, aix_plain, aix_common, com_len, if_pos]; done) | rfl) (by (try simp (disch := omega) only [go_sem, seval, ↓reduceIte, rn_com, rn_pla, aix_plain, aix_common, com_len, if_pos]) <;> rfl) (by (try simp (disch := omega) only [go_sem, seval, ↓reduceIte, rn_com, rn_pla, aix_plain, aix_common, com_len, if_pos]) <;> rfl) ?_)) | (guard_target =~ SOp _ _ ⟨_, .build _ _, _, _, _, none⟩ _ _ _; first | (refine n_build rfl (by first | exact bd67 | exact bd176 | exact bd177 | exact bd179 | fail) (by (try simp (disch := omega) only [go_sem, seval, ↓reduceIte, rn_com, rn_pla, aix_plain, aix_common, com_len, if_pos]) <;> rfl) (by (try simp (disch := omega) only [go_sem, seval, ↓reduceIte, rn_com, rn_pla, aix_plain, aix_common, com_len, if_pos]) <;> rfl) (by (try simp (disch := omega) only [go_sem, seval, ↓reduceIte, rn_com, rn_pla, aix_plain, aix_common, com_len, if_pos]) <;> rfl) (by first | (simp (disch := omega) only [go_sem, seval, ↓reduceIte, rn_com, rn_pla, aix_plain, aix_common, com_len, if_pos]; done) | rfl) ?_)) | (guard_target =~ SOp _ _ ⟨_, .alloc _, _, _, _, none⟩ _ _ _; first | (refine n_alloc rfl (by first | exact zv3 | exact zv4 | exact zv9 | exact zv67 | exact zv176 | exact zv177 | exact zv179 | fail) (by first | (simp (disch := omega) only [go_sem, seval, ↓reduceIte, rn_com, rn_pla, aix_plain, aix_common, com_len, if_pos]; done) | rfl) (by (try simp (disch := omega) only [go_sem, seval, ↓reduceIte, rn_com, rn_pla, aix_plain, aix_common, com_len, if_pos]) <;> rfl) (by (try simp (disch := omega) only [go_sem, seval, ↓reduceIte, rn_com, rn_pla, aix_plain, aix_common, com_len, if_pos]) <;> rfl) (by (try simp (disch := omega) only [go_sem, seval, ↓reduceIte, rn_com, rn_pla, aix_plain, aix_common, com_len, if_pos]) <;> rfl) ?_))) | (guard_target =~ (_ ∨ _) ∧ _; first | ((refine end_q [] (by first | exact .inr rfl | exact .inl rfl | fail) (by rfl) (by rw [Tryd.results109]; exact Lf.resM2 (by (try simp (disch := omega) only [Lf.resOne, go_sem, seval, ↓reduceIte, rn_com, rn_pla, aix_plain, aix_common, com_len, if_pos]); rfl) (by (try simp (disch := omega) only [Lf.resOne, go_sem, seval, ↓reduceIte, rn_com, rn_pla, aix_plain, aix_common, com_len, if_pos]); rfl)) (by (try simp (disch := omega) only [go_sem, seval, ↓reduceIte, rn_com, rn_pla, aix_plain, aix_common, com_len, if_pos]) <;> rfl) (by (try simp (disch := omega) only [go_sem, seval, ↓reduceIte, rn_com, rn_pla, aix_plain, aix_common, com_len, if_pos]) <;> rfl) (ale_2 ?_ ?_) ?_) <;> (try (first | exact ale_eq (by with_reducible rfl) | exact ale_full | exact ale_sl (fun _ => rfl) | exact ale_sl (by simp) | exact ale_junk | exact ale_eq rfl | exact stq (by with_reducible rfl) | exact stq (by rfl) | exact stq (by simp (disch := omega) only [go_sem, seval, ↓reduceIte, rn_com, rn_pla, aix_plain, aix_common, com_len, if_pos]))))) | (refine hK _ _ ?_; clear hK K))
end Go.Proofs.YtohbfcmmpaikhaaDoor

