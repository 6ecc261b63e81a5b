import Derived.Test.YtohbfcmmpaikhaaDoorZ19
import Derived.Test.YtohbfcmmpaikhaaDoorLc
import Derived.Test.YtohbfcmmpaikhaaDoorZ17
set_option linter.unusedVariables false
set_option linter.unusedSimpArgs false
namespace Go.Proofs.YtohbfcmmpaikhaaDoor
open Go Go.Lf Go.Proofs
attribute [local irreducible] Lf.rg Lf.ro Lf.PWp Lf.SOp Lf.ACall Lf.Scoped Lf.dg Lf.dw
set_option maxRecDepth 20000
set_option maxHeartbeats 4000000
structure DW where
 (b : List UInt8) (n a c : Nat) (q : DQ)
def DOk (w : DW) : Prop := w.b.length ≤ w.n ∧ w.b.length ≤ 50000 ∧ w.q.t.xs.length + w.b.length ≤ 90000 ∧ sumW w.q.t.xs ≤ w.q.t.m ∧ 0 ≤ w.q.t.m ∧ w.q.t.m ≤ 2147483647 ∧ (∀ f ∈ w.q.t.xs, f.n.size ≤ 1000000 ∧ f.v.size ≤ 1000000) ∧ w.q.F.length + w.b.length ≤ 100000 ∧ w.q.S.length + w.b.length ≤ 100000
def xs0 : List Fl := []
def ss0 : List Int := []
theorem xs0_len : xs0.length = 0 := rfl
theorem ss0_len : ss0.length = 0 := rfl
theorem xs0_map : xs0.map flA = [] := rfl
theorem ss0_map : ss0.map intA = [] := rfl
theorem dStep_res {Fs : List Fl} {S : List Int} {t : DT} {r : Rp} (h : r.k = 5) (h0 : ¬ 0 < Fs.length) : dStep ⟨Fs, S, t⟩ r = (⟨Fs, snI S r.sz, ⟨keptL t.xs r.sz, t.s + 1, r.sz⟩⟩, 0) := by
 unfold dStep; rw [if_pos h]; dsimp only; rw [if_neg h0]
theorem dStep_upd {Fs : List Fl} {S : List Int} {t : DT} {r : Rp} (h : r.k = 5) (h0 : 0 < Fs.length) : dStep ⟨Fs, S, t⟩ r = (⟨Fs, S, t⟩, 13) := by
 unfold dStep; rw [if_pos h]; dsimp only; rw [if_pos h0]
theorem dStep_no {Fs : List Fl} {S : List Int} {t : DT} {r : Rp} (h : r.k ≠ 5) (hg : fG t.xs r = none) : dStep ⟨Fs, S, t⟩ r = (⟨Fs, S, t⟩, 12) := by
 unfold dStep; rw [if_neg h]; dsimp only; rw [hg]
theorem dStep_f {Fs : List Fl} {S : List Int} {t : DT} {r : Rp} {g : Fl} (h : r.k ≠ 5) (h2 : r.k ≠ 2) (hg : fG t.xs r = some g) : dStep ⟨Fs, S, t⟩ r = (⟨snF Fs (fV r g), S, t⟩, 0) := by
 unfold dStep; rw [if_neg h]; dsimp only; rw [hg]; dsimp only; rw [if_neg h2]
theorem dStep_2 {Fs : List Fl} {S : List Int} {t : DT} {r : Rp} {g : Fl} (h2 : r.k = 2) (hg : fG t.xs r = some g) : dStep ⟨Fs, S, t⟩ r = (⟨snF Fs (fV r g), S, addT t (fV r g)⟩, 0) := by
 unfold dStep; rw [if_neg (by omega)]; dsimp only; rw [hg]; dsimp only; rw [if_pos h2]
theorem addT_y {t : DT} {f : Fl} (h : wt f ≤ t.m) : addT t f = ⟨addX t.xs t.m f, t.s + 2, t.m⟩ := if_pos h
theorem addT_n {t : DT} {f : Fl} (h : ¬ wt f ≤ t.m) : addT t f = ⟨xsE, t.s + 1, t.m⟩ := if_neg h
theorem fG_0 {xs : List Fl} {r : Rp} (h : r.i = 0) : fG xs r = some ⟨⟨r.nm.toArray⟩, ⟨#[]⟩, false⟩ := if_pos h
theorem fG_i {xs : List Fl} {r : Rp} (h : ¬ r.i = 0) : fG xs r = dAt xs r.i := if_neg h
theorem addX_size {xs : List Fl} {m : Int} {f : Fl} (hb : ∀ f ∈ xs, f.n.size ≤ 1000000 ∧ f.v.size ≤ 1000000) (h1 : f.n.size ≤ 1000000) (h2 : f.v.size ≤ 1000000) : ∀ g ∈ addX xs m f, g.n.size ≤ 1000000 ∧ g.v.size ≤ 1000000 := by
 intro g hg
 unfold addX at hg
 rw [List.mem_append, List.mem_singleton] at hg
 rcases hg with hg | rfl
 ·exact hb g (keptL_mem _ _ g hg)
 ·exact ⟨h1, h2⟩
theorem asz (l : List UInt8) : (⟨l.toArray⟩ : ByteArray).size = l.length := rfl
theorem xsE_len : xsE.length = 0 := rfl
theorem xsE_sum : sumW xsE = 0 := rfl
theorem xsE_size : ∀ g ∈ xsE, g.n.size ≤ 1000000 ∧ g.v.size ≤ 1000000 := by intro f hf; simp [xsE] at hf
def decR (Q : DQ) (E : Int) : AV := if E = 0 then .tu [.ag [.sl false false (Q.F.map flA), .sl false false (Q.S.map intA)], i64 0] else .tu [.ag [.sl true false [], .sl true false []], i64 E]
theorem decR_ok {Q : DQ} : decR Q 0 = .tu [.ag [.sl false false (Q.F.map flA), .sl false false (Q.S.map intA)], i64 0] := if_pos rfl
theorem decR_no {Q : DQ} {E : Int} (h : E ≠ 0) : decR Q E = .tu [.ag [.sl true false [], .sl true false []], i64 E] := if_neg h
def decT (s : Nat) (xs : List Fl) (m : Int) (Q : DQ) (E : Int) : Sto := if E = 0 then [.box [.ptr 3 0], .box [.row 2 s, i64 (sumW xs), i64 m], .row s 67 3 (xs.map flA), .box [.row 4 Q.t.s, i64 (sumW Q.t.xs), i64 Q.t.m], .row Q.t.s 67 3 (Q.t.xs.map flA)] else [.box [.ptr 1 0], .box [.row 2 s, i64 (sumW xs), i64 m], .row s 67 3 (xs.map flA)]
theorem decT_ok {s : Nat} {xs : List Fl} {m : Int} {Q : DQ} : decT s xs m Q 0 = [.box [.ptr 3 0], .box [.row 2 s, i64 (sumW xs), i64 m], .row s 67 3 (xs.map flA), .box [.row 4 Q.t.s, i64 (sumW Q.t.xs), i64 Q.t.m], .row Q.t.s 67 3 (Q.t.xs.map flA)] := if_pos rfl
theorem decT_no {s : Nat} {xs : List Fl} {m : Int} {Q : DQ} {E : Int} (h : E ≠ 0) : decT s xs m Q E = [.box [.ptr 1 0], .box [.row 2 s, i64 (sumW xs), i64 m], .row s 67 3 (xs.map flA)] := if_neg h
attribute [local irreducible] wt sumW keptL flN addX stAt oneFl snI snF dAt xsE rgM decM xs0 ss0 dStep fG fV addT decR decT
set_option maxRecDepth 20000 in
theorem dec_all_r (f q : Bool) (b : List UInt8) (xs : List Fl) (s : Nat) (m : Int) (hb : b.length ≤ 50000) (hx : xs.length ≤ 30000) (hS : sumW xs ≤ m) (hm0 : 0 ≤ m) (hm1 : m ≤ 2147483647) (hbb : ∀ f ∈ xs, f.n.size ≤ 1000000 ∧ f.v.size ≤ 1000000) (Q : DQ) (E : Int) (htot : decM b.length b ⟨xs0, ss0, ⟨xs, 0, m⟩⟩ = (Q, E)) : AEq Tryd.prog 25 [.ptr 0 0, .sl f q (b.map byteA)] [.box [.ptr 1 0], .box [.row 2 s, i64 (sumW xs), i64 m], .row s 67 3 (xs.map flA)] (decR Q E) (decT s xs m Q E) := by
 have hx0 := xs0_len
 have hs0 := ss0_len
 refine acall_body Tryd.func25 rfl Tryd.ntmps25 (by simp) (fun hsc => ?_); simp only [Lf.enter, Nat.reduceAdd]; clear hsc
 have hU := True.intro
 repeat' (first | (guard_target =~ PWp _ _ _ _ _ _ _; first | (refine pwp_seq_k (fun K hK => ?_)) | (refine pwp_block ?_) | (refine pwp_rg_then ?_) | (refine pwp_skip ?_) | ((refine pwp_cond_d (fun hcd => ?_) (fun hcd => ?_)) <;> (try simp only [hcP] at hcd) <;> (try exact cdT))) | (guard_target =~ rg _ _ _ _ _ _ _; first | (guard_target =~ rg _ _ _ [] _ _ _; first | (refine rg_end ?_)) | (refine rg_a rfl (h := ?_)) | (refine rg_v rfl (h := ?_)) | (refine rg_s rfl ?_)) | (guard_target =~ SOp _ _ _ _ _ _; first | (guard_target =~ SOp _ _ ⟨_, .build _ _, _, _, _, none⟩ _ _ _; first | (refine n_build rfl (by first | exact bd25 | exact bd27 | exact bd55 | exact bd67 | exact bd71 | exact bd110 | exact bd112 | fail) (hK := ?_))) | (guard_target =~ SOp _ _ ⟨_, .box _ _, _, _, _, none⟩ _ _ _; first | (refine n_box rfl (hK := ?_))) | (guard_target =~ SOp _ _ ⟨_, .alloc _, _, _, _, none⟩ _ _ _; first | (refine n_alloc rfl (by first | exact zv3 | exact zv4 | exact zv5 | exact zv9 | exact zv22 | exact zv25 | exact zv27 | exact zv28 | exact zv46 | exact zv50 | exact zv53 | exact zv55 | exact zv67 | exact zv69 | exact zv71 | exact zv107 | exact zv110 | exact zv112 | fail) (hK := ?_))) | (guard_target =~ SOp _ _ ⟨_, .call ⟨.value (.func 56), _, _⟩, _, _, _, none⟩ _ _ _; first | (refine n_call (f := 56) rfl Tryd.call56 (h := AEq.sub' [_, _] (hc := t_copy _ _ _ _ (by omega)) (hq := ?_))))) | (refine hK _ _ ?_; clear hK K))
 refine pwp_rowc 6 0 67 3 (by decide) rfl rfl rfl ?_
 refine pwp_rowc 6 1 3 1 (by decide) rfl rfl rfl ?_
 refine pwp_loop_k [1, 5, 7, 8, 9, 30, 31, 32, 33, 34, 35, 36, 37, 38, 39, 40, 41, 42, 43, 44, 45, 46, 47, 48, 49, 50, 51, 52, 53, 54, 55, 56, 57, 58, 59] (fun w : DW => [(1, .sl false q (w.b.map byteA))]) (fun w => [.box [.ptr 1 0], .box [.row 2 s, i64 (sumW xs), i64 m], .row s 67 3 (xs.map flA), .box [.sl true false [], .sl true false []], .box [.row 5 w.q.t.s, i64 (sumW w.q.t.xs), i64 w.q.t.m], .row w.q.t.s 67 3 (w.q.t.xs.map flA), .box [.row 7 w.a, .row 8 w.c, .ptr 4 0], .row w.a 67 3 (w.q.F.map flA), .row w.c 3 1 (w.q.S.map intA)]) (fun w => DOk w ∧ decM w.n w.b w.q = (Q, E)) (fun w => w.b.length) ⟨b, b.length, 0, 0, ⟨xs0, ss0, ⟨xs, 0, m⟩⟩⟩ ⟨⟨Nat.le_refl _, hb, by dsimp only; omega, hS, hm0, hm1, hbb, by dsimp only; omega, by dsimp only; omega⟩, htot⟩ ?_ (by dsimp only; rw [xs0_map, ss0_map]; rfl) ?_
 ·dsimp only
  (refine ⟨⟨_, sT, ?_⟩, trivial⟩ <;> (try (first | exact aleT)))
 ·rintro ⟨b, n, a, c, ⟨F, S, ⟨xt, st, mt⟩⟩⟩ ⟨⟨hbn, hbN, hxN, hSt, hmt0, hmt1, hbt, hFN, hSN⟩, htt⟩
  dsimp only at hbn hbN hxN hSt hmt0 hmt1 hbt hFN hSN htt ⊢
  simp only [mask, List.map_cons, List.map_nil, List.cons_append, List.nil_append]
  by_cases hlt : b.length = 0
  ·rw [decM_nil hlt] at htt
   obtain ⟨rfl, rfl⟩ : (⟨F, S, ⟨xt, st, mt⟩⟩ : DQ) = Q ∧ 0 = E := by simpa only [Prod.mk.injEq] using htt
   try dsimp only
   repeat' (first | (guard_target =~ PWp _ _ _ _ _ _ _; first | (refine pwp_seq_k (fun K hK => ?_)) | (refine pwp_rg_then ?_) | (refine pwp_ret ?_) | (refine pwp_exit ?_) | ((refine pwp_cond_d (fun hcd => ?_) (fun hcd => ?_)) <;> (try simp only [hcP] at hcd) <;> (try exact cdT))) | (guard_target =~ rg _ _ _ _ _ _ _; first | (guard_target =~ rg _ _ _ [] _ _ _; first | (refine rg_end ?_)) | (refine rg_a rfl (h := ?_)) | (refine rg_v rfl (h := ?_)) | (refine rg_n rfl ?_)) | (guard_target =~ SOp _ _ _ _ _ _; first | (guard_target =~ SOp _ _ ⟨_, .store _ _ _, _, _, _, none⟩ _ _ _; first | (refine n_store rfl (hK := ?_)))) | (guard_target =~ (_ ∨ _) ∧ _; first | (rw [decR_ok, decT_ok]) | ((refine end_q [0, 1, 2, 4, 5] (by first | exact .inr rfl | exact .inl rfl | fail) (by rfl) (by rw [Tryd.results25]; exact Lf.resM2 (by (try simp (disch := omega) only [Lf.resOne, go_sem, seval, ↓reduceIte, hU]); rfl) (by (try simp (disch := omega) only [Lf.resOne, go_sem, seval, ↓reduceIte, hU]); rfl)) sT sT (ale_2 ?_ ?_) ?_) <;> (try (first | exact aleT | exact stq (by with_reducible rfl) | exact stq (by rfl) | exact stq (by simp (disch := omega) only [go_sem, seval, ↓reduceIte, hU]))))) | (refine hK _ _ ?_; clear hK K) | (apply_assumption (exfalso := false) (symm := false)))
  obtain ⟨n', rfl⟩ : ∃ j, n = j + 1 := ⟨n - 1, by omega⟩
  have hrr := rg_right b
  have hrl := rg_len b
  obtain ⟨K, I, NM, NS, VL, VS, SZ, M, e1, hR⟩ : ∃ K I NM NS VL VS SZ M e, rgM b = ⟨K, I, NM, NS, VL, VS, SZ, M, e⟩ := ⟨_, _, _, _, _, _, _, _, _, rfl⟩
  by_cases he0 : e1 ≠ 0
  ·have hee : (rgM b).e ≠ 0 := by rw [hR]; exact he0
   rw [decM_e hlt hee, hR] at htt
   obtain ⟨rfl, rfl⟩ : (⟨F, S, ⟨xt, st, mt⟩⟩ : DQ) = Q ∧ e1 = E := by simpa only [Prod.mk.injEq] using htt
   have hU := @hR
   repeat' (first | (guard_target =~ PWp _ _ _ _ _ _ _; first | (refine pwp_seq_k (fun K hK => ?_)) | (refine pwp_block ?_) | (refine pwp_rg_then ?_) | (refine pwp_ret ?_) | (refine pwp_skip ?_) | ((refine pwp_cond_d (fun hcd => ?_) (fun hcd => ?_)) <;> (try simp only [hcP] at hcd) <;> (try exact cdT))) | (guard_target =~ rg _ _ _ _ _ _ _; first | (guard_target =~ rg _ _ _ [] _ _ _; first | (refine rg_end ?_)) | (refine rg_a rfl (h := ?_)) | (refine rg_x rfl (hy := rfl) (h := ?_)) | (refine rg_v rfl (h := ?_)) | (refine rg_s rfl ?_) | (refine rg_n rfl ?_)) | (guard_target =~ SOp _ _ _ _ _ _; first | (guard_target =~ SOp _ _ ⟨_, .store _ _ _, _, _, _, none⟩ _ _ _; first | (refine n_store rfl (hK := ?_))) | (guard_target =~ SOp _ _ ⟨_, .build _ _, _, _, _, none⟩ _ _ _; first | (refine n_build rfl (by first | exact bd25 | exact bd27 | exact bd55 | exact bd67 | exact bd71 | exact bd110 | exact bd112 | fail) (hK := ?_))) | (guard_target =~ SOp _ _ ⟨_, .alloc _, _, _, _, none⟩ _ _ _; first | (refine n_alloc rfl (by first | exact zv3 | exact zv4 | exact zv5 | exact zv9 | exact zv22 | exact zv25 | exact zv27 | exact zv28 | exact zv46 | exact zv50 | exact zv53 | exact zv55 | exact zv67 | exact zv69 | exact zv71 | exact zv107 | exact zv110 | exact zv112 | fail) (hK := ?_))) | (guard_target =~ SOp _ _ ⟨_, .call ⟨.value (.func 13), _, _⟩, _, _, _, none⟩ _ _ _; first | (refine n_call (f := 13) rfl Tryd.call13 (h := AEq.pure' agT (pget22 _ _ _ (by omega)) (hq := ?_))))) | (guard_target =~ (_ ∨ _) ∧ _; first | (rw [decR_no he0, decT_no he0]) | ((refine end_q [0, 1, 2] (by first | exact .inr rfl | exact .inl rfl | fail) (by rfl) (by rw [Tryd.results25]; exact Lf.resM2 (by (try simp (disch := omega) only [Lf.resOne, go_sem, seval, ↓reduceIte, hU]); rfl) (by (try simp (disch := omega) only [Lf.resOne, go_sem, seval, ↓reduceIte, hU]); rfl)) sT sT (ale_2 ?_ ?_) ?_) <;> (try (first | exact aleT | exact stq (by with_reducible rfl) | exact stq (by rfl) | exact stq (by simp (disch := omega) only [go_sem, seval, ↓reduceIte, hU]))))) | (refine hK _ _ ?_; clear hK K))
  obtain rfl : e1 = 0 := by omega
  have he : (rgM b).e = 0 := by rw [hR]
  rcases hrr with ⟨h, _⟩ | ⟨_, hP, hM0, hM1⟩
  ·exact absurd he h
  rw [hR] at hP hM0 hM1 hrl
  dsimp only at hP hM0 hM1 hrl
  obtain ⟨a1, rfl⟩ : ∃ j : Nat, M = j := ⟨M.toNat, by omega⟩
  have hM : (rgM b).n = (a1 : Int) := by rw [hR]
  have hdl : (b.drop a1).length = b.length - a1 := List.length_drop
  have hnz := asz NM
  have hvz := asz VL
  have hNMs : (⟨NM.toArray⟩ : ByteArray).size ≤ 1000000 := by omega
  have hVLs : (⟨VL.toArray⟩ : ByteArray).size ≤ 1000000 := by omega
  have hKb : 1 ≤ K ∧ K ≤ 5 := hP.1
  have hIb : 0 ≤ I ∧ I ≤ 2147483647 := hP.2.1
  have hZb : 0 ≤ SZ ∧ SZ ≤ 2147483647 := hP.2.2.1
  by_cases h5 : K = 5
  ·subst h5
   by_cases hF0 : 0 < F.length
   ·have hs := dStep_upd (Fs := F) (S := S) (t := ⟨xt, st, mt⟩) (r := rgM b) (by rw [hR]) hF0
    rw [decM_s hlt he hs (by decide)] at htt
    have h13 : (13 : Int) ≠ 0 := by decide
    obtain ⟨rfl, rfl⟩ : (⟨F, S, ⟨xt, st, mt⟩⟩ : DQ) = Q ∧ 13 = E := by simpa only [Prod.mk.injEq] using htt
    have hU := @hR
    repeat' (first | (guard_target =~ PWp _ _ _ _ _ _ _; first | (refine pwp_seq_k (fun K hK => ?_)) | (refine pwp_block ?_) | (refine pwp_rg_then ?_) | (refine pwp_rg ?_) | (refine pwp_ret ?_) | (refine pwp_skip ?_) | ((refine pwp_cond_d (fun hcd => ?_) (fun hcd => ?_)) <;> (try simp only [hcP] at hcd) <;> (try exact cdT))) | (guard_target =~ rg _ _ _ _ _ _ _; first | (guard_target =~ rg _ _ _ [] _ _ _; first | (refine rg_end ?_)) | (refine rg_a rfl (h := ?_)) | (refine rg_x rfl (hy := rfl) (h := ?_)) | (refine rg_v rfl (h := ?_)) | (refine rg_s rfl ?_) | (refine rg_n rfl ?_)) | (guard_target =~ SOp _ _ _ _ _ _; first | (guard_target =~ SOp _ _ ⟨_, .store _ _ _, _, _, _, none⟩ _ _ _; first | (refine n_store rfl (hK := ?_))) | (guard_target =~ SOp _ _ ⟨_, .build _ _, _, _, _, none⟩ _ _ _; first | (refine n_build rfl (by first | exact bd25 | exact bd27 | exact bd55 | exact bd67 | exact bd71 | exact bd110 | exact bd112 | fail) (hK := ?_))) | (guard_target =~ SOp _ _ ⟨_, .alloc _, _, _, _, none⟩ _ _ _; first | (refine n_alloc rfl (by first | exact zv3 | exact zv4 | exact zv5 | exact zv9 | exact zv22 | exact zv25 | exact zv27 | exact zv28 | exact zv46 | exact zv50 | exact zv53 | exact zv55 | exact zv67 | exact zv69 | exact zv71 | exact zv107 | exact zv110 | exact zv112 | fail) (hK := ?_))) | (guard_target =~ SOp _ _ ⟨_, .call ⟨.value (.func 13), _, _⟩, _, _, _, none⟩ _ _ _; first | (refine n_call (f := 13) rfl Tryd.call13 (h := AEq.pure' agT (pget22 _ _ _ aoT) (hq := ?_)))) | (guard_target =~ SOp _ _ ⟨_, .call ⟨.value (.func 57), _, _⟩, _, _, _, none⟩ _ _ _; first | (refine n_call (f := 57) rfl Tryd.call57 (h := AEq.sub' [_, _, _, _, _] (hc := xres_no _ _ _ _ _ _ _ _ aoT aoT) (hq := ?_))))) | (guard_target =~ (_ ∨ _) ∧ _; first | (rw [decR_no h13, decT_no h13]) | ((refine end_q [0, 1, 2] (by first | exact .inr rfl | exact .inl rfl | fail) (by rfl) (by rw [Tryd.results25]; exact Lf.resM2 (by (try simp (disch := omega) only [Lf.resOne, go_sem, seval, ↓reduceIte, hU]); rfl) (by (try simp (disch := omega) only [Lf.resOne, go_sem, seval, ↓reduceIte, hU]); rfl)) sT sT (ale_2 ?_ ?_) ?_) <;> (try (first | exact aleT | exact stq (by with_reducible rfl) | exact stq (by rfl) | exact stq (by simp (disch := omega) only [go_sem, seval, ↓reduceIte, hU]))))) | (refine hK _ _ ?_; clear hK K))
   have hs := dStep_res (Fs := F) (S := S) (t := ⟨xt, st, mt⟩) (r := rgM b) (by rw [hR]) hF0
   rw [hR] at hs
   dsimp only at hs
   have hkl := keptL_len SZ xt
   have hks := keptL_sum SZ hZb.1 xt
   have hsl := snI_len S SZ
   have hF00 : F.length = 0 := by omega
   have hap := (snI_map S SZ).symm
   have hSt2 : sumW xt ≤ 2147483647 := by omega
   have hs' : dStep ⟨F, S, ⟨xt, st, mt⟩⟩ (rgM b) = (⟨F, snI S SZ, ⟨keptL xt SZ, st + 1, SZ⟩⟩, 0) := by rw [hR]; exact hs
   have hU := @hR
   repeat' (first | (guard_target =~ PWp _ _ _ _ _ _ _; first | (refine pwp_seq_k (fun K hK => ?_)) | (refine pwp_block ?_) | (refine pwp_rg_then ?_) | (refine pwp_rg ?_) | (refine pwp_skip ?_) | ((refine pwp_cond_d (fun hcd => ?_) (fun hcd => ?_)) <;> (try simp only [hcP] at hcd) <;> (try exact cdT))) | (guard_target =~ rg _ _ _ _ _ _ _; first | (guard_target =~ rg _ _ _ [] _ _ _; first | (refine rg_end ?_)) | (refine rg_a rfl (h := ?_)) | (refine rg_x rfl (hy := rfl) (h := ?_)) | (refine rg_v rfl (h := ?_)) | (refine rg_s rfl ?_) | (refine rg_n rfl ?_)) | (guard_target =~ SOp _ _ _ _ _ _; first | (guard_target =~ SOp _ _ ⟨_, .store _ _ _, _, _, _, none⟩ _ _ _; first | (refine n_store rfl (hK := ?_))) | (guard_target =~ SOp _ _ ⟨_, .alloc _, _, _, _, none⟩ _ _ _; first | (refine n_alloc rfl (by first | exact zv3 | exact zv4 | exact zv5 | exact zv9 | exact zv22 | exact zv25 | exact zv27 | exact zv28 | exact zv46 | exact zv50 | exact zv53 | exact zv55 | exact zv67 | exact zv69 | exact zv71 | exact zv107 | exact zv110 | exact zv112 | fail) (hK := ?_))) | (guard_target =~ SOp _ _ ⟨_, .call ⟨.value (.func 13), _, _⟩, _, _, _, none⟩ _ _ _; first | (refine n_call (f := 13) rfl Tryd.call13 (h := AEq.pure' agT (pget22 _ _ _ aoT) (hq := ?_)))) | (guard_target =~ SOp _ _ ⟨_, .slice _ _ _ _ _, _, _, _, none⟩ _ _ _; first | (refine n_slice rfl (hg := (fun _ => (by simp only [go_sem, seval, ↓reduceIte, hU] <;> rfl))) (hK := ?_))) | (guard_target =~ SOp _ _ ⟨_, .call ⟨.value (.func 57), _, _⟩, _, _, _, none⟩ _ _ _; first | (refine n_call (f := 57) rfl Tryd.call57 (h := AEq.sub' [_, _, _, _, _] (hc := xres_ok _ _ _ _ _ _ _ _ aoT aoT aoT aoT aoT aoT aoT aoT aoT aoT) (hq := ?_))))) | (refine hK _ _ ?_; clear hK K) | (dsimp only [Lf.thenQ, Lf.blockQ]))
   refine ⟨⟨b.drop a1, n', a, c + 1, ⟨F, snI S SZ, ⟨keptL xt SZ, st + 1, SZ⟩⟩⟩, [0, 1, 2, 3, 4, 5, 6, 7, 8], ⟨⟨by dsimp only; omega, by dsimp only; omega, by dsimp only; omega, hks, hZb.1, hZb.2, fun f hf => hbt f (keptL_mem _ _ f hf), by dsimp only; omega, by dsimp only; omega⟩, ?_⟩, ?_, rfl, ?_, (by repeat' (first | exact agr_refl | refine agr_cons (by rfl) ?_)), ?_⟩
   ·(rw [← htt]; exact (decM_r hlt he hM hs').symm)
   ·dsimp only; omega
   ·dsimp only
    have hU := True.intro
    (refine ⟨⟨_, sT, ?_⟩, trivial⟩ <;> (try (first | exact aleT)))
   ·dsimp only
    first | rfl | (simp (disch := omega) only [go_sem, seval, ↓reduceIte]; done) | (simp (disch := omega) only [go_sem, seval, ↓reduceIte]; rfl) | trace_state
  have hSt2 : sumW xt ≤ 2147483647 := by omega
  have hxt9 : xt.length ≤ 90000 := by omega
  cases hg : fG xt (rgM b) with
  | none =>
   have hs := dStep_no (Fs := F) (S := S) (t := ⟨xt, st, mt⟩) (r := rgM b) (by rw [hR]; exact h5) hg
   rw [decM_s hlt he hs (by decide)] at htt
   by_cases hI0 : I = 0
   ·rw [fG_0 (by rw [hR]; exact hI0)] at hg; exact absurd hg (by simp)
   rw [fG_i (by rw [hR]; exact hI0), hR] at hg
   dsimp only at hg
   have h12 : (12 : Int) ≠ 0 := by decide
   obtain ⟨rfl, rfl⟩ : (⟨F, S, ⟨xt, st, mt⟩⟩ : DQ) = Q ∧ 12 = E := by simpa only [Prod.mk.injEq] using htt
   have hU := @hR
   repeat' (first | (guard_target =~ PWp _ _ _ _ _ _ _; first | (refine pwp_seq_k (fun K hK => ?_)) | (refine pwp_block ?_) | (refine pwp_rg_then ?_) | (refine pwp_rg ?_) | (refine pwp_ret ?_) | (refine pwp_skip ?_) | ((refine pwp_cond_d (fun hcd => ?_) (fun hcd => ?_)) <;> (try simp only [hcP] at hcd) <;> (try exact cdT))) | (guard_target =~ rg _ _ _ _ _ _ _; first | (guard_target =~ rg _ _ _ [] _ _ _; first | (refine rg_end ?_)) | (refine rg_a rfl (h := ?_)) | (refine rg_x rfl (hy := rfl) (h := ?_)) | (refine rg_v rfl (h := ?_)) | (refine rg_s rfl ?_) | (refine rg_n rfl ?_)) | (guard_target =~ SOp _ _ _ _ _ _; first | (guard_target =~ SOp _ _ ⟨_, .store _ _ _, _, _, _, none⟩ _ _ _; first | (refine n_store rfl (hK := ?_))) | (guard_target =~ SOp _ _ ⟨_, .build _ _, _, _, _, none⟩ _ _ _; first | (refine n_build rfl (by first | exact bd25 | exact bd27 | exact bd55 | exact bd67 | exact bd71 | exact bd110 | exact bd112 | fail) (hK := ?_))) | (guard_target =~ SOp _ _ ⟨_, .alloc _, _, _, _, none⟩ _ _ _; first | (refine n_alloc rfl (by first | exact zv3 | exact zv4 | exact zv5 | exact zv9 | exact zv22 | exact zv25 | exact zv27 | exact zv28 | exact zv46 | exact zv50 | exact zv53 | exact zv55 | exact zv67 | exact zv69 | exact zv71 | exact zv107 | exact zv110 | exact zv112 | fail) (hK := ?_))) | (guard_target =~ SOp _ _ ⟨_, .call ⟨.value (.func 13), _, _⟩, _, _, _, none⟩ _ _ _; first | (refine n_call (f := 13) rfl Tryd.call13 (h := AEq.pure' agT (pget22 _ _ _ aoT) (hq := ?_)))) | (guard_target =~ SOp _ _ ⟨_, .call ⟨.value (.func 58), _, _⟩, _, _, _, none⟩ _ _ _; first | (refine n_call (f := 58) rfl Tryd.call58 (h := AEq.sub' [_, _, _, _, _] (hc := xf_no _ _ _ _ _ _ _ _ _ _ _ _ _ _ aoT aoT aoT aoT) (hq := ?_))))) | (guard_target =~ (_ ∨ _) ∧ _; first | (rw [decR_no h12, decT_no h12]) | ((refine end_q [0, 1, 2] (by first | exact .inr rfl | exact .inl rfl | fail) (by rfl) (by rw [Tryd.results25]; exact Lf.resM2 (by (try simp (disch := omega) only [Lf.resOne, go_sem, seval, ↓reduceIte, hU]); rfl) (by (try simp (disch := omega) only [Lf.resOne, go_sem, seval, ↓reduceIte, hU]); rfl)) sT sT (ale_2 ?_ ?_) ?_) <;> (try (first | exact aleT | exact stq (by with_reducible rfl) | exact stq (by rfl) | exact stq (by simp (disch := omega) only [go_sem, seval, ↓reduceIte, hU]))))) | (refine hK _ _ ?_; clear hK K))
  | some g =>
   have hbase : (0 < I ∧ dAt xt I = some g) ∨ (I = 0 ∧ g = ⟨⟨NM.toArray⟩, ⟨#[]⟩, false⟩) := by
    by_cases hI0 : I = 0
    ·rw [fG_0 (by rw [hR]; exact hI0), hR] at hg
     exact .inr ⟨hI0, (Option.some.inj hg).symm⟩
    ·rw [fG_i (by rw [hR]; exact hI0), hR] at hg
     exact .inl ⟨by omega, hg⟩
   have hgs : g.n.size ≤ 1000000 ∧ g.v.size ≤ 1000000 := by
    rcases hbase with ⟨_, h⟩ | ⟨_, rfl⟩
    ·exact dAt_size hbt h
    ·exact ⟨hNMs, by show (0 : Nat) ≤ _; omega⟩
   obtain ⟨hgs1, hgs2⟩ := hgs
   by_cases hk : K = 1
   ·subst hk
    have hfv : fV (rgM b) g = g := by rw [hR]; unfold fV; rfl
    have hs := dStep_f (Fs := F) (S := S) (t := ⟨xt, st, mt⟩) (r := rgM b) (by rw [hR]; show (1 : Int) ≠ 5; decide) (by rw [hR]; show (1 : Int) ≠ 2; decide) hg
    rw [hfv] at hs
    have hsn := snF_len F g
    have hU := @hR
    repeat' (first | (guard_target =~ PWp _ _ _ _ _ _ _; first | (refine pwp_seq_k (fun K hK => ?_)) | (refine pwp_block ?_) | (refine pwp_rg_then ?_) | (refine pwp_rg ?_) | (refine pwp_skip ?_) | ((refine pwp_cond_d (fun hcd => ?_) (fun hcd => ?_)) <;> (try simp only [hcP] at hcd) <;> (try exact cdT))) | (guard_target =~ rg _ _ _ _ _ _ _; first | (guard_target =~ rg _ _ _ [] _ _ _; first | (refine rg_end ?_)) | (refine rg_a rfl (h := ?_)) | (refine rg_x rfl (hy := rfl) (h := ?_)) | (refine rg_v rfl (h := ?_)) | (refine rg_s rfl ?_) | (refine rg_n rfl ?_)) | (guard_target =~ SOp _ _ _ _ _ _; first | (guard_target =~ SOp _ _ ⟨_, .store _ _ _, _, _, _, none⟩ _ _ _; first | (refine n_store rfl (hK := ?_))) | (guard_target =~ SOp _ _ ⟨_, .alloc _, _, _, _, none⟩ _ _ _; first | (refine n_alloc rfl (by first | exact zv3 | exact zv4 | exact zv5 | exact zv9 | exact zv22 | exact zv25 | exact zv27 | exact zv28 | exact zv46 | exact zv50 | exact zv53 | exact zv55 | exact zv67 | exact zv69 | exact zv71 | exact zv107 | exact zv110 | exact zv112 | fail) (hK := ?_))) | (guard_target =~ SOp _ _ ⟨_, .call ⟨.value (.func 13), _, _⟩, _, _, _, none⟩ _ _ _; first | (refine n_call (f := 13) rfl Tryd.call13 (h := AEq.pure' agT (pget22 _ _ _ aoT) (hq := ?_)))) | (guard_target =~ SOp _ _ ⟨_, .slice _ _ _ _ _, _, _, _, none⟩ _ _ _; first | (refine n_slice rfl (hg := (fun _ => (by simp only [go_sem, seval, ↓reduceIte, hU] <;> rfl))) (hK := ?_))) | (guard_target =~ SOp _ _ ⟨_, .call ⟨.value (.func 58), _, _⟩, _, _, _, none⟩ _ _ _; first | (refine n_call (f := 58) rfl Tryd.call58 (h := AEq.sub' [_, _, _, _, _] (hc := xf_1 _ _ _ _ _ _ _ _ _ _ _ _ _ aoT aoT aoT aoT aoT aoT aoT _ aoT aoT aoT aoT aoT aoT) (hq := ?_))))) | (refine hK _ _ ?_; clear hK K) | (dsimp only [Lf.thenQ, Lf.blockQ]))
    refine ⟨⟨b.drop a1, n', a + 1, c, ⟨snF F g, S, ⟨xt, st, mt⟩⟩⟩, [0, 1, 2, 3, 4, 5, 6, 7, 8], ⟨⟨by dsimp only; omega, by dsimp only; omega, by dsimp only; omega, hSt, hmt0, hmt1, hbt, by dsimp only; omega, by dsimp only; omega⟩, ?_⟩, ?_, rfl, ?_, (by repeat' (first | exact agr_refl | refine agr_cons (by rfl) ?_)), ?_⟩
    ·(rw [← htt]; exact (decM_r hlt he hM hs).symm)
    ·dsimp only; omega
    ·dsimp only
     have hU := True.intro
     (refine ⟨⟨_, sT, ?_⟩, trivial⟩ <;> (try (first | exact aleT)))
    ·dsimp only
     first | rfl | (simp (disch := omega) only [go_sem, seval, ↓reduceIte]; done) | (simp (disch := omega) only [go_sem, seval, ↓reduceIte]; rfl) | trace_state
   by_cases hk : K = 3
   ·subst hk
    have hfv : fV (rgM b) g = ⟨g.n, ⟨VL.toArray⟩, false⟩ := by rw [hR]; unfold fV; rfl
    have hs := dStep_f (Fs := F) (S := S) (t := ⟨xt, st, mt⟩) (r := rgM b) (by rw [hR]; show (3 : Int) ≠ 5; decide) (by rw [hR]; show (3 : Int) ≠ 2; decide) hg
    rw [hfv] at hs
    have hsn := snF_len F ⟨g.n, ⟨VL.toArray⟩, false⟩
    have hU := @hR
    repeat' (first | (guard_target =~ PWp _ _ _ _ _ _ _; first | (refine pwp_seq_k (fun K hK => ?_)) | (refine pwp_block ?_) | (refine pwp_rg_then ?_) | (refine pwp_rg ?_) | (refine pwp_skip ?_) | ((refine pwp_cond_d (fun hcd => ?_) (fun hcd => ?_)) <;> (try simp only [hcP] at hcd) <;> (try exact cdT))) | (guard_target =~ rg _ _ _ _ _ _ _; first | (guard_target =~ rg _ _ _ [] _ _ _; first | (refine rg_end ?_)) | (refine rg_a rfl (h := ?_)) | (refine rg_x rfl (hy := rfl) (h := ?_)) | (refine rg_v rfl (h := ?_)) | (refine rg_s rfl ?_) | (refine rg_n rfl ?_)) | (guard_target =~ SOp _ _ _ _ _ _; first | (guard_target =~ SOp _ _ ⟨_, .store _ _ _, _, _, _, none⟩ _ _ _; first | (refine n_store rfl (hK := ?_))) | (guard_target =~ SOp _ _ ⟨_, .alloc _, _, _, _, none⟩ _ _ _; first | (refine n_alloc rfl (by first | exact zv3 | exact zv4 | exact zv5 | exact zv9 | exact zv22 | exact zv25 | exact zv27 | exact zv28 | exact zv46 | exact zv50 | exact zv53 | exact zv55 | exact zv67 | exact zv69 | exact zv71 | exact zv107 | exact zv110 | exact zv112 | fail) (hK := ?_))) | (guard_target =~ SOp _ _ ⟨_, .call ⟨.value (.func 13), _, _⟩, _, _, _, none⟩ _ _ _; first | (refine n_call (f := 13) rfl Tryd.call13 (h := AEq.pure' agT (pget22 _ _ _ aoT) (hq := ?_)))) | (guard_target =~ SOp _ _ ⟨_, .slice _ _ _ _ _, _, _, _, none⟩ _ _ _; first | (refine n_slice rfl (hg := (fun _ => (by simp only [go_sem, seval, ↓reduceIte, hU] <;> rfl))) (hK := ?_))) | (guard_target =~ SOp _ _ ⟨_, .call ⟨.value (.func 58), _, _⟩, _, _, _, none⟩ _ _ _; first | (refine n_call (f := 58) rfl Tryd.call58 (h := AEq.sub' [_, _, _, _, _] (hc := xf_3 _ _ _ _ _ _ _ _ _ _ _ _ _ aoT aoT aoT aoT aoT aoT aoT _ aoT aoT aoT aoT aoT aoT) (hq := ?_))))) | (refine hK _ _ ?_; clear hK K) | (dsimp only [Lf.thenQ, Lf.blockQ]))
    refine ⟨⟨b.drop a1, n', a + 1, c, ⟨snF F ⟨g.n, ⟨VL.toArray⟩, false⟩, S, ⟨xt, st, mt⟩⟩⟩, [0, 1, 2, 3, 4, 5, 6, 7, 8], ⟨⟨by dsimp only; omega, by dsimp only; omega, by dsimp only; omega, hSt, hmt0, hmt1, hbt, by dsimp only; omega, by dsimp only; omega⟩, ?_⟩, ?_, rfl, ?_, (by repeat' (first | exact agr_refl | refine agr_cons (by rfl) ?_)), ?_⟩
    ·(rw [← htt]; exact (decM_r hlt he hM hs).symm)
    ·dsimp only; omega
    ·dsimp only
     have hU := True.intro
     (refine ⟨⟨_, sT, ?_⟩, trivial⟩ <;> (try (first | exact aleT)))
    ·dsimp only
     first | rfl | (simp (disch := omega) only [go_sem, seval, ↓reduceIte]; done) | (simp (disch := omega) only [go_sem, seval, ↓reduceIte]; rfl) | trace_state
   by_cases hk : K = 4
   ·subst hk
    have hfv : fV (rgM b) g = ⟨g.n, ⟨VL.toArray⟩, true⟩ := by rw [hR]; unfold fV; rfl
    have hs := dStep_f (Fs := F) (S := S) (t := ⟨xt, st, mt⟩) (r := rgM b) (by rw [hR]; show (4 : Int) ≠ 5; decide) (by rw [hR]; show (4 : Int) ≠ 2; decide) hg
    rw [hfv] at hs
    have hsn := snF_len F ⟨g.n, ⟨VL.toArray⟩, true⟩
    have hU := @hR
    repeat' (first | (guard_target =~ PWp _ _ _ _ _ _ _; first | (refine pwp_seq_k (fun K hK => ?_)) | (refine pwp_block ?_) | (refine pwp_rg_then ?_) | (refine pwp_rg ?_) | (refine pwp_skip ?_) | ((refine pwp_cond_d (fun hcd => ?_) (fun hcd => ?_)) <;> (try simp only [hcP] at hcd) <;> (try exact cdT))) | (guard_target =~ rg _ _ _ _ _ _ _; first | (guard_target =~ rg _ _ _ [] _ _ _; first | (refine rg_end ?_)) | (refine rg_a rfl (h := ?_)) | (refine rg_x rfl (hy := rfl) (h := ?_)) | (refine rg_v rfl (h := ?_)) | (refine rg_s rfl ?_) | (refine rg_n rfl ?_)) | (guard_target =~ SOp _ _ _ _ _ _; first | (guard_target =~ SOp _ _ ⟨_, .store _ _ _, _, _, _, none⟩ _ _ _; first | (refine n_store rfl (hK := ?_))) | (guard_target =~ SOp _ _ ⟨_, .alloc _, _, _, _, none⟩ _ _ _; first | (refine n_alloc rfl (by first | exact zv3 | exact zv4 | exact zv5 | exact zv9 | exact zv22 | exact zv25 | exact zv27 | exact zv28 | exact zv46 | exact zv50 | exact zv53 | exact zv55 | exact zv67 | exact zv69 | exact zv71 | exact zv107 | exact zv110 | exact zv112 | fail) (hK := ?_))) | (guard_target =~ SOp _ _ ⟨_, .call ⟨.value (.func 13), _, _⟩, _, _, _, none⟩ _ _ _; first | (refine n_call (f := 13) rfl Tryd.call13 (h := AEq.pure' agT (pget22 _ _ _ aoT) (hq := ?_)))) | (guard_target =~ SOp _ _ ⟨_, .slice _ _ _ _ _, _, _, _, none⟩ _ _ _; first | (refine n_slice rfl (hg := (fun _ => (by simp only [go_sem, seval, ↓reduceIte, hU] <;> rfl))) (hK := ?_))) | (guard_target =~ SOp _ _ ⟨_, .call ⟨.value (.func 58), _, _⟩, _, _, _, none⟩ _ _ _; first | (refine n_call (f := 58) rfl Tryd.call58 (h := AEq.sub' [_, _, _, _, _] (hc := xf_4 _ _ _ _ _ _ _ _ _ _ _ _ _ aoT aoT aoT aoT aoT aoT aoT _ aoT aoT aoT aoT aoT aoT) (hq := ?_))))) | (refine hK _ _ ?_; clear hK K) | (dsimp only [Lf.thenQ, Lf.blockQ]))
    refine ⟨⟨b.drop a1, n', a + 1, c, ⟨snF F ⟨g.n, ⟨VL.toArray⟩, true⟩, S, ⟨xt, st, mt⟩⟩⟩, [0, 1, 2, 3, 4, 5, 6, 7, 8], ⟨⟨by dsimp only; omega, by dsimp only; omega, by dsimp only; omega, hSt, hmt0, hmt1, hbt, by dsimp only; omega, by dsimp only; omega⟩, ?_⟩, ?_, rfl, ?_, (by repeat' (first | exact agr_refl | refine agr_cons (by rfl) ?_)), ?_⟩
    ·(rw [← htt]; exact (decM_r hlt he hM hs).symm)
    ·dsimp only; omega
    ·dsimp only
     have hU := True.intro
     (refine ⟨⟨_, sT, ?_⟩, trivial⟩ <;> (try (first | exact aleT)))
    ·dsimp only
     first | rfl | (simp (disch := omega) only [go_sem, seval, ↓reduceIte]; done) | (simp (disch := omega) only [go_sem, seval, ↓reduceIte]; rfl) | trace_state
   obtain rfl : K = 2 := by omega
   have hfv : fV (rgM b) g = ⟨g.n, ⟨VL.toArray⟩, false⟩ := by rw [hR]; unfold fV; rfl
   have hs := dStep_2 (Fs := F) (S := S) (t := ⟨xt, st, mt⟩) (r := rgM b) (by rw [hR]) hg
   rw [hfv] at hs
   have hsn := snF_len F ⟨g.n, ⟨VL.toArray⟩, false⟩
   by_cases hw : wt ⟨g.n, ⟨VL.toArray⟩, false⟩ ≤ mt
   ·rw [addT_y hw] at hs
    dsimp only at hs
    have hxl := addX_len xt mt ⟨g.n, ⟨VL.toArray⟩, false⟩
    have hxs := addX_sum (xs := xt) hw
    have hU := @hR
    repeat' (first | (guard_target =~ PWp _ _ _ _ _ _ _; first | (refine pwp_seq_k (fun K hK => ?_)) | (refine pwp_block ?_) | (refine pwp_rg_then ?_) | (refine pwp_rg ?_) | (refine pwp_skip ?_) | ((refine pwp_cond_d (fun hcd => ?_) (fun hcd => ?_)) <;> (try simp only [hcP] at hcd) <;> (try exact cdT))) | (guard_target =~ rg _ _ _ _ _ _ _; first | (guard_target =~ rg _ _ _ [] _ _ _; first | (refine rg_end ?_)) | (refine rg_a rfl (h := ?_)) | (refine rg_x rfl (hy := rfl) (h := ?_)) | (refine rg_v rfl (h := ?_)) | (refine rg_s rfl ?_) | (refine rg_n rfl ?_)) | (guard_target =~ SOp _ _ _ _ _ _; first | (guard_target =~ SOp _ _ ⟨_, .store _ _ _, _, _, _, none⟩ _ _ _; first | (refine n_store rfl (hK := ?_))) | (guard_target =~ SOp _ _ ⟨_, .alloc _, _, _, _, none⟩ _ _ _; first | (refine n_alloc rfl (by first | exact zv3 | exact zv4 | exact zv5 | exact zv9 | exact zv22 | exact zv25 | exact zv27 | exact zv28 | exact zv46 | exact zv50 | exact zv53 | exact zv55 | exact zv67 | exact zv69 | exact zv71 | exact zv107 | exact zv110 | exact zv112 | fail) (hK := ?_))) | (guard_target =~ SOp _ _ ⟨_, .call ⟨.value (.func 13), _, _⟩, _, _, _, none⟩ _ _ _; first | (refine n_call (f := 13) rfl Tryd.call13 (h := AEq.pure' agT (pget22 _ _ _ aoT) (hq := ?_)))) | (guard_target =~ SOp _ _ ⟨_, .slice _ _ _ _ _, _, _, _, none⟩ _ _ _; first | (refine n_slice rfl (hg := (fun _ => (by simp only [go_sem, seval, ↓reduceIte, hU] <;> rfl))) (hK := ?_))) | (guard_target =~ SOp _ _ ⟨_, .call ⟨.value (.func 58), _, _⟩, _, _, _, none⟩ _ _ _; first | (refine n_call (f := 58) rfl Tryd.call58 (h := AEq.sub' [_, _, _, _, _] (hc := xf_2f _ _ _ _ _ _ _ _ _ _ _ _ _ aoT aoT aoT aoT aoT aoT aoT _ aoT aoT aoT aoT aoT aoT aoT) (hq := ?_))))) | (refine hK _ _ ?_; clear hK K) | (dsimp only [Lf.thenQ, Lf.blockQ]))
    refine ⟨⟨b.drop a1, n', a + 1, c, ⟨snF F ⟨g.n, ⟨VL.toArray⟩, false⟩, S, ⟨addX xt mt ⟨g.n, ⟨VL.toArray⟩, false⟩, st + 2, mt⟩⟩⟩, [0, 1, 2, 3, 4, 5, 6, 7, 8], ⟨⟨by dsimp only; omega, by dsimp only; omega, by dsimp only; omega, hxs, hmt0, hmt1, addX_size hbt hgs1 hVLs, by dsimp only; omega, by dsimp only; omega⟩, ?_⟩, ?_, rfl, ?_, (by repeat' (first | exact agr_refl | refine agr_cons (by rfl) ?_)), ?_⟩
    ·(rw [← htt]; exact (decM_r hlt he hM hs).symm)
    ·dsimp only; omega
    ·dsimp only
     have hU := True.intro
     (refine ⟨⟨_, sT, ?_⟩, trivial⟩ <;> (try (first | exact aleT)))
    ·dsimp only
     first | rfl | (simp (disch := omega) only [go_sem, seval, ↓reduceIte]; done) | (simp (disch := omega) only [go_sem, seval, ↓reduceIte]; rfl) | trace_state
   ·rw [addT_n hw] at hs
    dsimp only at hs
    have hwn : mt < wt ⟨g.n, ⟨VL.toArray⟩, false⟩ := by omega
    have hxl := xsE_len
    have hxs := xsE_sum
    have hU := @hR
    repeat' (first | (guard_target =~ PWp _ _ _ _ _ _ _; first | (refine pwp_seq_k (fun K hK => ?_)) | (refine pwp_block ?_) | (refine pwp_rg_then ?_) | (refine pwp_rg ?_) | (refine pwp_skip ?_) | ((refine pwp_cond_d (fun hcd => ?_) (fun hcd => ?_)) <;> (try simp only [hcP] at hcd) <;> (try exact cdT))) | (guard_target =~ rg _ _ _ _ _ _ _; first | (guard_target =~ rg _ _ _ [] _ _ _; first | (refine rg_end ?_)) | (refine rg_a rfl (h := ?_)) | (refine rg_x rfl (hy := rfl) (h := ?_)) | (refine rg_v rfl (h := ?_)) | (refine rg_s rfl ?_) | (refine rg_n rfl ?_)) | (guard_target =~ SOp _ _ _ _ _ _; first | (guard_target =~ SOp _ _ ⟨_, .store _ _ _, _, _, _, none⟩ _ _ _; first | (refine n_store rfl (hK := ?_))) | (guard_target =~ SOp _ _ ⟨_, .alloc _, _, _, _, none⟩ _ _ _; first | (refine n_alloc rfl (by first | exact zv3 | exact zv4 | exact zv5 | exact zv9 | exact zv22 | exact zv25 | exact zv27 | exact zv28 | exact zv46 | exact zv50 | exact zv53 | exact zv55 | exact zv67 | exact zv69 | exact zv71 | exact zv107 | exact zv110 | exact zv112 | fail) (hK := ?_))) | (guard_target =~ SOp _ _ ⟨_, .call ⟨.value (.func 13), _, _⟩, _, _, _, none⟩ _ _ _; first | (refine n_call (f := 13) rfl Tryd.call13 (h := AEq.pure' agT (pget22 _ _ _ aoT) (hq := ?_)))) | (guard_target =~ SOp _ _ ⟨_, .slice _ _ _ _ _, _, _, _, none⟩ _ _ _; first | (refine n_slice rfl (hg := (fun _ => (by simp only [go_sem, seval, ↓reduceIte, hU] <;> rfl))) (hK := ?_))) | (guard_target =~ SOp _ _ ⟨_, .call ⟨.value (.func 58), _, _⟩, _, _, _, none⟩ _ _ _; first | (refine n_call (f := 58) rfl Tryd.call58 (h := AEq.sub' [_, _, _, _, _] (hc := xf_2n _ _ _ _ _ _ _ _ _ _ _ _ _ aoT aoT aoT aoT aoT aoT aoT _ aoT aoT aoT aoT aoT aoT aoT) (hq := ?_))))) | (refine hK _ _ ?_; clear hK K) | (dsimp only [Lf.thenQ, Lf.blockQ]))
    refine ⟨⟨b.drop a1, n', a + 1, c, ⟨snF F ⟨g.n, ⟨VL.toArray⟩, false⟩, S, ⟨xsE, st + 1, mt⟩⟩⟩, [0, 1, 2, 3, 4, 5, 6, 7, 8], ⟨⟨by dsimp only; omega, by dsimp only; omega, by dsimp only; omega, by dsimp only; omega, hmt0, hmt1, xsE_size, by dsimp only; omega, by dsimp only; omega⟩, ?_⟩, ?_, rfl, ?_, (by repeat' (first | exact agr_refl | refine agr_cons (by rfl) ?_)), ?_⟩
    ·(rw [← htt]; exact (decM_r hlt he hM hs).symm)
    ·dsimp only; omega
    ·dsimp only
     have hU := True.intro
     (refine ⟨⟨_, sT, ?_⟩, trivial⟩ <;> (try (first | exact aleT)))
    ·dsimp only
     first | rfl | (simp (disch := omega) only [go_sem, seval, ↓reduceIte]; done) | (simp (disch := omega) only [go_sem, seval, ↓reduceIte]; rfl) | trace_state
theorem dec_ok (f q : Bool) (b : List UInt8) (xs : List Fl) (s : Nat) (m : Int) (hb : b.length ≤ 50000) (hx : xs.length ≤ 30000) (hS : sumW xs ≤ m) (hm0 : 0 ≤ m) (hm1 : m ≤ 2147483647) (hbb : ∀ f ∈ xs, f.n.size ≤ 1000000 ∧ f.v.size ≤ 1000000) (Q : DQ) (htot : decM b.length b ⟨xs0, ss0, ⟨xs, 0, m⟩⟩ = (Q, 0)) : AEq Tryd.prog 25 [.ptr 0 0, .sl f q (b.map byteA)] [.box [.ptr 1 0], .box [.row 2 s, i64 (sumW xs), i64 m], .row s 67 3 (xs.map flA)] (.tu [.ag [.sl false false (Q.F.map flA), .sl false false (Q.S.map intA)], i64 0]) [.box [.ptr 3 0], .box [.row 2 s, i64 (sumW xs), i64 m], .row s 67 3 (xs.map flA), .box [.row 4 Q.t.s, i64 (sumW Q.t.xs), i64 Q.t.m], .row Q.t.s 67 3 (Q.t.xs.map flA)] := by
 have h := dec_all_r f q b xs s m hb hx hS hm0 hm1 hbb Q 0 htot
 rw [decR_ok, decT_ok] at h
 exact h
end Go.Proofs.YtohbfcmmpaikhaaDoor

set_option linter.unusedVariables false
set_option linter.unusedSimpArgs false
namespace Go.Proofs.YtohbfcmmpaikhaaDoor
open Go Go.Lf Go.Proofs
attribute [local irreducible] Lf.rg Lf.ro Lf.PWp Lf.SOp Lf.ACall Lf.Scoped Lf.dg
set_option maxRecDepth 20000
set_option maxHeartbeats 4000000
end Go.Proofs.YtohbfcmmpaikhaaDoor

set_option linter.unusedVariables false
set_option linter.unusedSimpArgs false
namespace Go.Lf
open Go
end Go.Lf
namespace Go.Proofs.YtohbfcmmpaikhaaDoor
open Go Go.Lf Go.Proofs
attribute [local irreducible] Lf.rg Lf.ro Lf.PWp Lf.SOp Lf.ACall Lf.Scoped Lf.dg Lf.dw
set_option maxRecDepth 20000
set_option maxHeartbeats 4000000
attribute [local irreducible] wt sumW keptL flN addX stAt dAt xsE addL fitN
end Go.Proofs.YtohbfcmmpaikhaaDoor

