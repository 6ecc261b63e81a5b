import Derived.Test.YtohbfcmmpaikhaaDoorZ02
import Derived.Test.YtohbfcmmpaikhaaDoorLc
import Derived.KernelRfl
import Derived.Test.YtohbfcmmpaikhaaDoorLb
import Derived.Test.YtohbfcmmpaikhaaDoorTy
import Derived.Test.YtohbfcmmpaikhaaDoorRows
import Derived.ProofKit
import Derived.LaidMore
import Derived.OpenShut
import Derived.Stop.Joined
set_option linter.unusedVariables false
set_option linter.unusedSimpArgs false
namespace Go.Proofs.YtohbfcmmpaikhaaDoor
open Go Go.Lf Go.Proofs
attribute [local irreducible] Lf.rg Lf.ro Lf.PWp Lf.SOp Lf.ACall Lf.Scoped Lf.dg
set_option maxRecDepth 20000
set_option maxHeartbeats 4000000
theorem slG_len (b : List UInt8) (most : Int) : (slG b most).1.length ≤ 8 * b.length := by
  have hbd := pgG_bd b (c := 7) (by decide) (by decide)
  rcases slG_cases b most with ⟨h1, h2⟩ | ⟨h1, h0, h3, h2⟩ | ⟨h1, h0, h3, h4, h2⟩ | ⟨h1, h0, h3, h4⟩
  · rw [h2]; exact Nat.zero_le _
  · rw [h2]; exact Nat.zero_le _
  · rw [h2]; exact Nat.zero_le _
  · obtain ⟨k0, hk⟩ : ∃ j : Nat, (pgG b 7).2.1 = j := ⟨(pgG b 7).2.1.toNat, by omega⟩
    obtain ⟨n0, hn⟩ : ∃ j : Nat, (pgG b 7).1 = j := ⟨(pgG b 7).1.toNat, by omega⟩
    have hc : (cutB b k0 n0).length ≤ b.length := by unfold cutB; rw [List.length_take, List.length_drop]; omega
    cases hh : hiB b with
    | false => rw [slG_lit h1 h3 h4 hk hn hh]; dsimp only; omega
    | true =>
      have hl := huM_len (bitsL (cutB b k0 n0)) 0 0 []
      rw [bitsL_len, List.length_nil] at hl
      by_cases h5 : (huM (bitsL (cutB b k0 n0)) 0 0 []).2 = 0
      · rw [slG_cod h1 h3 h4 hk hn hh h5]; dsimp only; omega
      · rw [slG_bad h1 h3 h4 hk hn hh h5]; exact Nat.zero_le _
theorem rgV_len (b : List UInt8) (k i : Int) (nm : List UInt8) (ns : Bool) (a : Nat) (hn : nm.length ≤ 8 * b.length) : (rgV b k i nm ns a).nm.length ≤ 8 * b.length ∧ (rgV b k i nm ns a).vl.length ≤ 8 * b.length := by
  have h := slG_len (b.drop a) (b.length : Int)
  rw [List.length_drop] at h
  unfold rgV
  split
  · exact ⟨Nat.zero_le _, Nat.zero_le _⟩
  · exact ⟨hn, by dsimp only; omega⟩
theorem rgN_len (b : List UInt8) (k : Int) (a : Nat) : (rgN b k a).nm.length ≤ 8 * b.length ∧ (rgN b k a).vl.length ≤ 8 * b.length := by
  have h := slG_len (b.drop a) (b.length : Int)
  rw [List.length_drop] at h
  unfold rgN
  split
  · exact ⟨Nat.zero_le _, Nat.zero_le _⟩
  · exact rgV_len _ _ _ _ _ _ (by omega)
theorem rg_len (b : List UInt8) : (rgM b).nm.length ≤ 8 * b.length ∧ (rgM b).vl.length ≤ 8 * b.length := by
  unfold rgM
  split
  · exact ⟨Nat.zero_le _, Nat.zero_le _⟩
  · unfold rgK
    split
    · exact ⟨Nat.zero_le _, Nat.zero_le _⟩
    split
    · exact ⟨Nat.zero_le _, Nat.zero_le _⟩
    split
    · split
      · exact ⟨Nat.zero_le _, Nat.zero_le _⟩
      · exact ⟨Nat.zero_le _, Nat.zero_le _⟩
    split
    · exact rgN_len _ _ _
    · exact rgV_len _ _ _ _ _ _ (Nat.zero_le _)
structure DT where
  (xs : List Fl) (s : Nat) (m : Int)
structure DQ where
  (F : List Fl) (S : List Int) (t : DT)
def fG (xs : List Fl) (r : Rp) : Option Fl := if r.i = 0 then some ⟨⟨r.nm.toArray⟩, ⟨#[]⟩, false⟩ else dAt xs r.i
def fV (r : Rp) (g : Fl) : Fl := if r.k = 1 then g else ⟨g.n, ⟨r.vl.toArray⟩, decide (r.k = 4)⟩
def addT (t : DT) (f : Fl) : DT := if wt f ≤ t.m then ⟨addX t.xs t.m f, t.s + 2, t.m⟩ else ⟨xsE, t.s + 1, t.m⟩
def dStep (q : DQ) (r : Rp) : DQ × Int :=
  if r.k = 5 then (if 0 < q.F.length then (q, 13) else (⟨q.F, snI q.S r.sz, ⟨keptL q.t.xs r.sz, q.t.s + 1, r.sz⟩⟩, 0))
  else match fG q.t.xs r with
    | none => (q, 12)
    | some g => (⟨snF q.F (fV r g), q.S, if r.k = 2 then addT q.t (fV r g) else q.t⟩, 0)
def decM : Nat → List UInt8 → DQ → DQ × Int
  | 0, _, q => (q, 0)
  | n + 1, b, q => if b.length = 0 then (q, 0) else if (rgM b).e ≠ 0 then (q, (rgM b).e) else if (dStep q (rgM b)).2 ≠ 0 then dStep q (rgM b) else decM n (b.drop (rgM b).n.toNat) (dStep q (rgM b)).1
theorem decM_nil {n : Nat} {b : List UInt8} {q : DQ} (h : b.length = 0) : decM n b q = (q, 0) := by
  cases n with
  | zero => rfl
  | succ n => rw [decM, if_pos h]
theorem decM_e {n : Nat} {b : List UInt8} {q : DQ} (h : b.length ≠ 0) (he : (rgM b).e ≠ 0) : decM (n + 1) b q = (q, (rgM b).e) := by rw [decM, if_neg h, if_pos he]
theorem decM_s {n : Nat} {b : List UInt8} {q q' : DQ} {e : Int} (h : b.length ≠ 0) (he : (rgM b).e = 0) (hs : dStep q (rgM b) = (q', e)) (h2 : e ≠ 0) : decM (n + 1) b q = (q', e) := by
  rw [decM, if_neg h, if_neg (by simpa using he), hs, if_pos h2]
theorem decM_r {n a : Nat} {b : List UInt8} {q q' : DQ} (h : b.length ≠ 0) (he : (rgM b).e = 0) (ha : (rgM b).n = (a : Int)) (hs : dStep q (rgM b) = (q', 0)) : decM (n + 1) b q = decM n (b.drop a) q' := by
  rw [decM, if_neg h, if_neg (by simpa using he), hs, if_neg (by simp), ha, Int.toNat_natCast]
theorem stTab_size : ∀ p ∈ stTab, p.1.size ≤ 100 ∧ p.2.size ≤ 100 := by decide +kernel
theorem stF_size (i : Int) : (stF i).n.size ≤ 100 ∧ (stF i).v.size ≤ 100 := by
  unfold stF stAt
  dsimp only
  by_cases h : 1 ≤ i
  · rw [if_pos h]
    by_cases h2 : i.toNat - 1 < stTab.length
    · rw [List.getD_eq_getElem?_getD, List.getElem?_eq_getElem h2, Option.getD_some]
      exact stTab_size _ (List.getElem_mem h2)
    · rw [List.getD_eq_getElem?_getD, List.getElem?_eq_none (by omega), Option.getD_none]
      exact ⟨Nat.zero_le _, Nat.zero_le _⟩
  · rw [if_neg h]; exact ⟨Nat.zero_le _, Nat.zero_le _⟩
theorem dAt_size {xs : List Fl} (hb : ∀ f ∈ xs, f.n.size ≤ 1000000 ∧ f.v.size ≤ 1000000) {i : Int} {g : Fl} (h : dAt xs i = some g) : g.n.size ≤ 1000000 ∧ g.v.size ≤ 1000000 := by
  unfold dAt at h
  split at h
  · split at h
    · obtain rfl := Option.some.inj h
      have := stF_size i
      omega
    · simp at h
  · exact hb g (List.mem_reverse.1 (List.mem_of_getElem? h))
end Go.Proofs.YtohbfcmmpaikhaaDoor

set_option linter.unusedVariables false
set_option linter.unusedSimpArgs false
namespace Go.Proofs.YtohbfcmmpaikhaaDoor
open Go Go.Lf Go.Proofs
attribute [local irreducible] Lf.rg Lf.ro Lf.PWp Lf.SOp Lf.ACall Lf.Scoped Lf.dg Lf.dw
set_option maxRecDepth 20000
set_option maxHeartbeats 4000000
structure DW where
  (b : List UInt8) (n a c : Nat) (q : DQ)
def DOk (w : DW) : Prop := w.b.length ≤ w.n ∧ w.b.length ≤ 50000 ∧ w.q.t.xs.length + w.b.length ≤ 90000 ∧ sumW w.q.t.xs ≤ w.q.t.m ∧ 0 ≤ w.q.t.m ∧ w.q.t.m ≤ 2147483647 ∧ (∀ f ∈ w.q.t.xs, f.n.size ≤ 1000000 ∧ f.v.size ≤ 1000000) ∧ w.q.F.length + w.b.length ≤ 100000 ∧ w.q.S.length + w.b.length ≤ 100000
def xs0 : List Fl := []
def ss0 : List Int := []
theorem xs0_len : xs0.length = 0 := rfl
theorem ss0_len : ss0.length = 0 := rfl
theorem xs0_map : xs0.map flA = [] := rfl
theorem ss0_map : ss0.map intA = [] := rfl
theorem dStep_res {Fs : List Fl} {S : List Int} {t : DT} {r : Rp} (h : r.k = 5) (h0 : ¬ 0 < Fs.length) : dStep ⟨Fs, S, t⟩ r = (⟨Fs, snI S r.sz, ⟨keptL t.xs r.sz, t.s + 1, r.sz⟩⟩, 0) := by
  unfold dStep; rw [if_pos h]; dsimp only; rw [if_neg h0]
theorem dStep_upd {Fs : List Fl} {S : List Int} {t : DT} {r : Rp} (h : r.k = 5) (h0 : 0 < Fs.length) : dStep ⟨Fs, S, t⟩ r = (⟨Fs, S, t⟩, 13) := by
  unfold dStep; rw [if_pos h]; dsimp only; rw [if_pos h0]
theorem dStep_no {Fs : List Fl} {S : List Int} {t : DT} {r : Rp} (h : r.k ≠ 5) (hg : fG t.xs r = none) : dStep ⟨Fs, S, t⟩ r = (⟨Fs, S, t⟩, 12) := by
  unfold dStep; rw [if_neg h]; dsimp only; rw [hg]
theorem dStep_f {Fs : List Fl} {S : List Int} {t : DT} {r : Rp} {g : Fl} (h : r.k ≠ 5) (h2 : r.k ≠ 2) (hg : fG t.xs r = some g) : dStep ⟨Fs, S, t⟩ r = (⟨snF Fs (fV r g), S, t⟩, 0) := by
  unfold dStep; rw [if_neg h]; dsimp only; rw [hg]; dsimp only; rw [if_neg h2]
theorem dStep_2 {Fs : List Fl} {S : List Int} {t : DT} {r : Rp} {g : Fl} (h2 : r.k = 2) (hg : fG t.xs r = some g) : dStep ⟨Fs, S, t⟩ r = (⟨snF Fs (fV r g), S, addT t (fV r g)⟩, 0) := by
  unfold dStep; rw [if_neg (by omega)]; dsimp only; rw [hg]; dsimp only; rw [if_pos h2]
theorem addT_y {t : DT} {f : Fl} (h : wt f ≤ t.m) : addT t f = ⟨addX t.xs t.m f, t.s + 2, t.m⟩ := if_pos h
theorem addT_n {t : DT} {f : Fl} (h : ¬ wt f ≤ t.m) : addT t f = ⟨xsE, t.s + 1, t.m⟩ := if_neg h
theorem fG_0 {xs : List Fl} {r : Rp} (h : r.i = 0) : fG xs r = some ⟨⟨r.nm.toArray⟩, ⟨#[]⟩, false⟩ := if_pos h
theorem fG_i {xs : List Fl} {r : Rp} (h : ¬ r.i = 0) : fG xs r = dAt xs r.i := if_neg h
theorem addX_size {xs : List Fl} {m : Int} {f : Fl} (hb : ∀ f ∈ xs, f.n.size ≤ 1000000 ∧ f.v.size ≤ 1000000) (h1 : f.n.size ≤ 1000000) (h2 : f.v.size ≤ 1000000) : ∀ g ∈ addX xs m f, g.n.size ≤ 1000000 ∧ g.v.size ≤ 1000000 := by
  intro g hg
  unfold addX at hg
  rw [List.mem_append, List.mem_singleton] at hg
  rcases hg with hg | rfl
  · exact hb g (keptL_mem _ _ g hg)
  · exact ⟨h1, h2⟩
theorem asz (l : List UInt8) : (⟨l.toArray⟩ : ByteArray).size = l.length := rfl
theorem xsE_len : xsE.length = 0 := rfl
theorem xsE_sum : sumW xsE = 0 := rfl
theorem xsE_size : ∀ g ∈ xsE, g.n.size ≤ 1000000 ∧ g.v.size ≤ 1000000 := by intro f hf; simp [xsE] at hf
def decR (Q : DQ) (E : Int) : AV := if E = 0 then .tu [.ag [.sl false false (Q.F.map flA), .sl false false (Q.S.map intA)], i64 0] else .tu [.ag [.sl true false [], .sl true false []], i64 E]
theorem decR_ok {Q : DQ} : decR Q 0 = .tu [.ag [.sl false false (Q.F.map flA), .sl false false (Q.S.map intA)], i64 0] := if_pos rfl
theorem decR_no {Q : DQ} {E : Int} (h : E ≠ 0) : decR Q E = .tu [.ag [.sl true false [], .sl true false []], i64 E] := if_neg h
def decT (s : Nat) (xs : List Fl) (m : Int) (Q : DQ) (E : Int) : Sto := if E = 0 then [.box [.ptr 3 0], .box [.row 2 s, i64 (sumW xs), i64 m], .row s 67 3 (xs.map flA), .box [.row 4 Q.t.s, i64 (sumW Q.t.xs), i64 Q.t.m], .row Q.t.s 67 3 (Q.t.xs.map flA)] else [.box [.ptr 1 0], .box [.row 2 s, i64 (sumW xs), i64 m], .row s 67 3 (xs.map flA)]
theorem decT_ok {s : Nat} {xs : List Fl} {m : Int} {Q : DQ} : decT s xs m Q 0 = [.box [.ptr 3 0], .box [.row 2 s, i64 (sumW xs), i64 m], .row s 67 3 (xs.map flA), .box [.row 4 Q.t.s, i64 (sumW Q.t.xs), i64 Q.t.m], .row Q.t.s 67 3 (Q.t.xs.map flA)] := if_pos rfl
theorem decT_no {s : Nat} {xs : List Fl} {m : Int} {Q : DQ} {E : Int} (h : E ≠ 0) : decT s xs m Q E = [.box [.ptr 1 0], .box [.row 2 s, i64 (sumW xs), i64 m], .row s 67 3 (xs.map flA)] := if_neg h
attribute [local irreducible] wt sumW keptL flN addX stAt oneFl snI snF dAt xsE rgM decM xs0 ss0 dStep fG fV addT decR decT
set_option maxRecDepth 20000 in
theorem dec_all_r (f q : Bool) (b : List UInt8) (xs : List Fl) (s : Nat) (m : Int) (hb : b.length ≤ 50000) (hx : xs.length ≤ 30000) (hS : sumW xs ≤ m) (hm0 : 0 ≤ m) (hm1 : m ≤ 2147483647) (hbb : ∀ f ∈ xs, f.n.size ≤ 1000000 ∧ f.v.size ≤ 1000000) (Q : DQ) (E : Int) (htot : decM b.length b ⟨xs0, ss0, ⟨xs, 0, m⟩⟩ = (Q, E)) : AEq Tryd.prog 25 [.ptr 0 0, .sl f q (b.map byteA)] [.box [.ptr 1 0], .box [.row 2 s, i64 (sumW xs), i64 m], .row s 67 3 (xs.map flA)] (decR Q E) (decT s xs m Q E) := by
  have hx0 := xs0_len
  have hs0 := ss0_len
  refine acall_body Tryd.func25 rfl Tryd.ntmps25 (by simp) (fun hsc => ?_); simp only [Lf.enter, Nat.reduceAdd]; clear hsc
  have hU := True.intro
  repeat' (first | (guard_target =~ PWp _ _ _ _ _ _ _; first | (refine pwp_seq_k (fun K hK => ?_)) | (refine pwp_block ?_) | (refine pwp_rg_then ?_) | (refine pwp_skip ?_) | ((refine pwp_cond_d (fun hcd => ?_) (fun hcd => ?_)) <;> (try simp only [hcP] at hcd) <;> (try (exfalso; first | omega | exact absurd hcd (by assumption) | exact absurd (by assumption) hcd)))) | (guard_target =~ rg _ _ _ _ _ _ _; first | (guard_target =~ rg _ _ _ [] _ _ _; first | (refine rg_end ?_)) | (refine rg_a rfl (h := ?_)) | (refine rg_v rfl (h := ?_)) | (refine rg_s rfl ?_)) | (guard_target =~ SOp _ _ _ _ _ _; first | (guard_target =~ SOp _ _ ⟨_, .build _ _, _, _, _, none⟩ _ _ _; first | (refine n_build rfl (by first | exact bd25 | exact bd27 | exact bd55 | exact bd67 | exact bd71 | exact bd110 | exact bd112 | fail) (hK := ?_))) | (guard_target =~ SOp _ _ ⟨_, .alloc _, _, _, _, none⟩ _ _ _; first | (refine n_alloc rfl (by first | exact zv3 | exact zv4 | exact zv5 | exact zv9 | exact zv22 | exact zv25 | exact zv27 | exact zv28 | exact zv46 | exact zv50 | exact zv53 | exact zv55 | exact zv67 | exact zv69 | exact zv71 | exact zv107 | exact zv110 | exact zv112 | fail) (hK := ?_))) | (guard_target =~ SOp _ _ ⟨_, .box _ _, _, _, _, none⟩ _ _ _; first | (refine n_box rfl (hK := ?_))) | (guard_target =~ SOp _ _ ⟨_, .call ⟨.value (.func 56), _, _⟩, _, _, _, none⟩ _ _ _; first | (refine n_call (f := 56) rfl Tryd.call56 (h := AEq.sub' [_, _] (hc := t_copy _ _ _ _ (by omega)) (hq := ?_))))) | (refine hK _ _ ?_; clear hK K))
  refine pwp_rowc 6 0 67 3 (by decide) rfl rfl rfl ?_
  refine pwp_rowc 6 1 3 1 (by decide) rfl rfl rfl ?_
  refine pwp_loop_k [1, 5, 7, 8, 9, 30, 31, 32, 33, 34, 35, 36, 37, 38, 39, 40, 41, 42, 43, 44, 45, 46, 47, 48, 49, 50, 51, 52, 53, 54, 55, 56, 57, 58, 59] (fun w : DW => [(1, .sl false q (w.b.map byteA))]) (fun w => [.box [.ptr 1 0], .box [.row 2 s, i64 (sumW xs), i64 m], .row s 67 3 (xs.map flA), .box [.sl true false [], .sl true false []], .box [.row 5 w.q.t.s, i64 (sumW w.q.t.xs), i64 w.q.t.m], .row w.q.t.s 67 3 (w.q.t.xs.map flA), .box [.row 7 w.a, .row 8 w.c, .ptr 4 0], .row w.a 67 3 (w.q.F.map flA), .row w.c 3 1 (w.q.S.map intA)]) (fun w => DOk w ∧ decM w.n w.b w.q = (Q, E)) (fun w => w.b.length) ⟨b, b.length, 0, 0, ⟨xs0, ss0, ⟨xs, 0, m⟩⟩⟩ ⟨⟨Nat.le_refl _, hb, by dsimp only; omega, hS, hm0, hm1, hbb, by dsimp only; omega, by dsimp only; omega⟩, htot⟩ ?_ (by dsimp only; rw [xs0_map, ss0_map]; rfl) ?_
  · dsimp only
    (refine ⟨⟨_, (by (try simp (disch := omega) only [go_sem, seval, ↓reduceIte, hU]) <;> rfl), ?_⟩, trivial⟩ <;> (try (first | exact ale_eq (by with_reducible rfl) | exact ale_full | exact ale_sl (fun _ => rfl) | exact ale_sl (by simp) | exact ale_junk | exact ale_eq rfl)))
    all_goals trace_state
  · rintro ⟨b, n, a, c, ⟨F, S, ⟨xt, st, mt⟩⟩⟩ ⟨⟨hbn, hbN, hxN, hSt, hmt0, hmt1, hbt, hFN, hSN⟩, htt⟩
    dsimp only at hbn hbN hxN hSt hmt0 hmt1 hbt hFN hSN htt ⊢
    simp only [mask, List.map_cons, List.map_nil, List.cons_append, List.nil_append]
    by_cases hlt : b.length = 0
    · rw [decM_nil hlt] at htt
      obtain ⟨rfl, rfl⟩ : (⟨F, S, ⟨xt, st, mt⟩⟩ : DQ) = Q ∧ 0 = E := by simpa only [Prod.mk.injEq] using htt
      try dsimp only
      repeat' (first | (guard_target =~ PWp _ _ _ _ _ _ _; first | (refine pwp_seq_k (fun K hK => ?_)) | (refine pwp_rg_then ?_) | (refine pwp_ret ?_) | (refine pwp_exit ?_) | ((refine pwp_cond_d (fun hcd => ?_) (fun hcd => ?_)) <;> (try simp only [hcP] at hcd) <;> (try (exfalso; first | omega | exact absurd hcd (by assumption) | exact absurd (by assumption) hcd)))) | (guard_target =~ rg _ _ _ _ _ _ _; first | (guard_target =~ rg _ _ _ [] _ _ _; first | (refine rg_end ?_)) | (refine rg_a rfl (h := ?_)) | (refine rg_v rfl (h := ?_)) | (refine rg_n rfl ?_)) | (guard_target =~ SOp _ _ _ _ _ _; first | (guard_target =~ SOp _ _ ⟨_, .store _ _ _, _, _, _, none⟩ _ _ _; first | (refine n_store rfl (hK := ?_)))) | (guard_target =~ (_ ∨ _) ∧ _; first | (rw [decR_ok, decT_ok]) | ((refine end_q [0, 1, 2, 4, 5] (by first | exact .inr rfl | exact .inl rfl | fail) (by rfl) (by rw [Tryd.results25]; exact Lf.resM2 (by (try simp (disch := omega) only [Lf.resOne, go_sem, seval, ↓reduceIte, hU]); rfl) (by (try simp (disch := omega) only [Lf.resOne, go_sem, seval, ↓reduceIte, hU]); rfl)) (by (try simp (disch := omega) only [go_sem, seval, ↓reduceIte, hU]) <;> rfl) (by (try simp (disch := omega) only [go_sem, seval, ↓reduceIte, hU]) <;> rfl) (ale_2 ?_ ?_) ?_) <;> (try (first | exact ale_eq (by with_reducible rfl) | exact ale_full | exact ale_sl (fun _ => rfl) | exact ale_sl (by simp) | exact ale_junk | exact ale_eq rfl | exact stq (by with_reducible rfl) | exact stq (by rfl) | exact stq (by simp (disch := omega) only [go_sem, seval, ↓reduceIte, hU]))))) | (refine hK _ _ ?_; clear hK K) | (apply_assumption (exfalso := false) (symm := false)))
      all_goals trace_state
    obtain ⟨n', rfl⟩ : ∃ j, n = j + 1 := ⟨n - 1, by omega⟩
    have hrr := rg_right b
    have hrl := rg_len b
    obtain ⟨K, I, NM, NS, VL, VS, SZ, M, e1, hR⟩ : ∃ K I NM NS VL VS SZ M e, rgM b = ⟨K, I, NM, NS, VL, VS, SZ, M, e⟩ := ⟨_, _, _, _, _, _, _, _, _, rfl⟩
    by_cases he0 : e1 ≠ 0
    · have hee : (rgM b).e ≠ 0 := by rw [hR]; exact he0
      rw [decM_e hlt hee, hR] at htt
      obtain ⟨rfl, rfl⟩ : (⟨F, S, ⟨xt, st, mt⟩⟩ : DQ) = Q ∧ e1 = E := by simpa only [Prod.mk.injEq] using htt
      have hU := @hR
      repeat' (first | (guard_target =~ PWp _ _ _ _ _ _ _; first | (refine pwp_seq_k (fun K hK => ?_)) | (refine pwp_block ?_) | (refine pwp_rg_then ?_) | (refine pwp_ret ?_) | (refine pwp_skip ?_) | ((refine pwp_cond_d (fun hcd => ?_) (fun hcd => ?_)) <;> (try simp only [hcP] at hcd) <;> (try (exfalso; first | omega | exact absurd hcd (by assumption) | exact absurd (by assumption) hcd)))) | (guard_target =~ rg _ _ _ _ _ _ _; first | (guard_target =~ rg _ _ _ [] _ _ _; first | (refine rg_end ?_)) | (refine rg_a rfl (h := ?_)) | (refine rg_x rfl (hy := rfl) (h := ?_)) | (refine rg_v rfl (h := ?_)) | (refine rg_s rfl ?_) | (refine rg_n rfl ?_)) | (guard_target =~ SOp _ _ _ _ _ _; first | (guard_target =~ SOp _ _ ⟨_, .store _ _ _, _, _, _, none⟩ _ _ _; first | (refine n_store rfl (hK := ?_))) | (guard_target =~ SOp _ _ ⟨_, .build _ _, _, _, _, none⟩ _ _ _; first | (refine n_build rfl (by first | exact bd25 | exact bd27 | exact bd55 | exact bd67 | exact bd71 | exact bd110 | exact bd112 | fail) (hK := ?_))) | (guard_target =~ SOp _ _ ⟨_, .alloc _, _, _, _, none⟩ _ _ _; first | (refine n_alloc rfl (by first | exact zv3 | exact zv4 | exact zv5 | exact zv9 | exact zv22 | exact zv25 | exact zv27 | exact zv28 | exact zv46 | exact zv50 | exact zv53 | exact zv55 | exact zv67 | exact zv69 | exact zv71 | exact zv107 | exact zv110 | exact zv112 | fail) (hK := ?_))) | (guard_target =~ SOp _ _ ⟨_, .call ⟨.value (.func 13), _, _⟩, _, _, _, none⟩ _ _ _; first | (refine n_call (f := 13) rfl Tryd.call13 (h := AEq.pure' (by first | ((repeat' (first | exact trivial | (first | exact arg_lit | exact arg_sl id id | exact arg_nil | exact arg_sl (by simp) id | exact arg_sl (by simp) (fun _ => rfl) | exact arg_row_m (by rfl) (by rfl) (fun _ => rfl) | exact arg_vw_m (by rfl) (by rfl) (fun _ => rfl) | exact arg_rn (by rfl) (by rfl) | exact arg_junk | exact arg_row_mm (by rfl) (by rfl) (fun _ => rfl)) | refine ⟨?_, ?_⟩)); done) | fail) (pget22 _ _ _ (by omega)) (hq := ?_))))) | (guard_target =~ (_ ∨ _) ∧ _; first | (rw [decR_no he0, decT_no he0]) | ((refine end_q [0, 1, 2] (by first | exact .inr rfl | exact .inl rfl | fail) (by rfl) (by rw [Tryd.results25]; exact Lf.resM2 (by (try simp (disch := omega) only [Lf.resOne, go_sem, seval, ↓reduceIte, hU]); rfl) (by (try simp (disch := omega) only [Lf.resOne, go_sem, seval, ↓reduceIte, hU]); rfl)) (by (try simp (disch := omega) only [go_sem, seval, ↓reduceIte, hU]) <;> rfl) (by (try simp (disch := omega) only [go_sem, seval, ↓reduceIte, hU]) <;> rfl) (ale_2 ?_ ?_) ?_) <;> (try (first | exact ale_eq (by with_reducible rfl) | exact ale_full | exact ale_sl (fun _ => rfl) | exact ale_sl (by simp) | exact ale_junk | exact ale_eq rfl | exact stq (by with_reducible rfl) | exact stq (by rfl) | exact stq (by simp (disch := omega) only [go_sem, seval, ↓reduceIte, hU]))))) | (refine hK _ _ ?_; clear hK K))
      all_goals trace_state
    obtain rfl : e1 = 0 := by omega
    have he : (rgM b).e = 0 := by rw [hR]
    rcases hrr with ⟨h, _⟩ | ⟨_, hP, hM0, hM1⟩
    · exact absurd he h
    rw [hR] at hP hM0 hM1 hrl
    dsimp only at hP hM0 hM1 hrl
    obtain ⟨a1, rfl⟩ : ∃ j : Nat, M = j := ⟨M.toNat, by omega⟩
    have hM : (rgM b).n = (a1 : Int) := by rw [hR]
    have hdl : (b.drop a1).length = b.length - a1 := List.length_drop
    have hnz := asz NM
    have hvz := asz VL
    have hNMs : (⟨NM.toArray⟩ : ByteArray).size ≤ 1000000 := by omega
    have hVLs : (⟨VL.toArray⟩ : ByteArray).size ≤ 1000000 := by omega
    have hKb : 1 ≤ K ∧ K ≤ 5 := hP.1
    have hIb : 0 ≤ I ∧ I ≤ 2147483647 := hP.2.1
    have hZb : 0 ≤ SZ ∧ SZ ≤ 2147483647 := hP.2.2.1
    by_cases h5 : K = 5
    · subst h5
      by_cases hF0 : 0 < F.length
      · have hs := dStep_upd (Fs := F) (S := S) (t := ⟨xt, st, mt⟩) (r := rgM b) (by rw [hR]) hF0
        rw [decM_s hlt he hs (by decide)] at htt
        have h13 : (13 : Int) ≠ 0 := by decide
        obtain ⟨rfl, rfl⟩ : (⟨F, S, ⟨xt, st, mt⟩⟩ : DQ) = Q ∧ 13 = E := by simpa only [Prod.mk.injEq] using htt
        have hU := @hR
        repeat' (first | (guard_target =~ PWp _ _ _ _ _ _ _; first | (refine pwp_seq_k (fun K hK => ?_)) | (refine pwp_block ?_) | (refine pwp_rg_then ?_) | (refine pwp_rg ?_) | (refine pwp_ret ?_) | (refine pwp_skip ?_) | ((refine pwp_cond_d (fun hcd => ?_) (fun hcd => ?_)) <;> (try simp only [hcP] at hcd) <;> (try (exfalso; first | omega | exact absurd hcd (by assumption) | exact absurd (by assumption) hcd)))) | (guard_target =~ rg _ _ _ _ _ _ _; first | (guard_target =~ rg _ _ _ [] _ _ _; first | (refine rg_end ?_)) | (refine rg_a rfl (h := ?_)) | (refine rg_x rfl (hy := rfl) (h := ?_)) | (refine rg_v rfl (h := ?_)) | (refine rg_s rfl ?_) | (refine rg_n rfl ?_)) | (guard_target =~ SOp _ _ _ _ _ _; first | (guard_target =~ SOp _ _ ⟨_, .store _ _ _, _, _, _, none⟩ _ _ _; first | (refine n_store rfl (hK := ?_))) | (guard_target =~ SOp _ _ ⟨_, .build _ _, _, _, _, none⟩ _ _ _; first | (refine n_build rfl (by first | exact bd25 | exact bd27 | exact bd55 | exact bd67 | exact bd71 | exact bd110 | exact bd112 | fail) (hK := ?_))) | (guard_target =~ SOp _ _ ⟨_, .alloc _, _, _, _, none⟩ _ _ _; first | (refine n_alloc rfl (by first | exact zv3 | exact zv4 | exact zv5 | exact zv9 | exact zv22 | exact zv25 | exact zv27 | exact zv28 | exact zv46 | exact zv50 | exact zv53 | exact zv55 | exact zv67 | exact zv69 | exact zv71 | exact zv107 | exact zv110 | exact zv112 | fail) (hK := ?_))) | (guard_target =~ SOp _ _ ⟨_, .call ⟨.value (.func 57), _, _⟩, _, _, _, none⟩ _ _ _; first | (refine n_call (f := 57) rfl Tryd.call57 (h := AEq.sub' [_, _, _, _, _] (hc := xres_no _ _ _ _ _ _ _ _ (by first | assumption | omega) (by first | assumption | omega)) (hq := ?_)))) | (guard_target =~ SOp _ _ ⟨_, .call ⟨.value (.func 13), _, _⟩, _, _, _, none⟩ _ _ _; first | (refine n_call (f := 13) rfl Tryd.call13 (h := AEq.pure' (by first | ((repeat' (first | exact trivial | (first | exact arg_lit | exact arg_sl id id | exact arg_nil | exact arg_sl (by simp) id | exact arg_sl (by simp) (fun _ => rfl) | exact arg_row_m (by rfl) (by rfl) (fun _ => rfl) | exact arg_vw_m (by rfl) (by rfl) (fun _ => rfl) | exact arg_rn (by rfl) (by rfl) | exact arg_junk | exact arg_row_mm (by rfl) (by rfl) (fun _ => rfl)) | refine ⟨?_, ?_⟩)); done) | fail) (pget22 _ _ _ (by first | assumption | omega)) (hq := ?_))))) | (guard_target =~ (_ ∨ _) ∧ _; first | (rw [decR_no h13, decT_no h13]) | ((refine end_q [0, 1, 2] (by first | exact .inr rfl | exact .inl rfl | fail) (by rfl) (by rw [Tryd.results25]; exact Lf.resM2 (by (try simp (disch := omega) only [Lf.resOne, go_sem, seval, ↓reduceIte, hU]); rfl) (by (try simp (disch := omega) only [Lf.resOne, go_sem, seval, ↓reduceIte, hU]); rfl)) (by (try simp (disch := omega) only [go_sem, seval, ↓reduceIte, hU]) <;> rfl) (by (try simp (disch := omega) only [go_sem, seval, ↓reduceIte, hU]) <;> rfl) (ale_2 ?_ ?_) ?_) <;> (try (first | exact ale_eq (by with_reducible rfl) | exact ale_full | exact ale_sl (fun _ => rfl) | exact ale_sl (by simp) | exact ale_junk | exact ale_eq rfl | exact stq (by with_reducible rfl) | exact stq (by rfl) | exact stq (by simp (disch := omega) only [go_sem, seval, ↓reduceIte, hU]))))) | (refine hK _ _ ?_; clear hK K))
        all_goals trace_state
      have hs := dStep_res (Fs := F) (S := S) (t := ⟨xt, st, mt⟩) (r := rgM b) (by rw [hR]) hF0
      rw [hR] at hs
      dsimp only at hs
      have hkl := keptL_len SZ xt
      have hks := keptL_sum SZ hZb.1 xt
      have hsl := snI_len S SZ
      have hF00 : F.length = 0 := by omega
      have hap := (snI_map S SZ).symm
      have hSt2 : sumW xt ≤ 2147483647 := by omega
      have hs' : dStep ⟨F, S, ⟨xt, st, mt⟩⟩ (rgM b) = (⟨F, snI S SZ, ⟨keptL xt SZ, st + 1, SZ⟩⟩, 0) := by rw [hR]; exact hs
      have hU := @hR
      repeat' (first | (guard_target =~ PWp _ _ _ _ _ _ _; first | (refine pwp_seq_k (fun K hK => ?_)) | (refine pwp_block ?_) | (refine pwp_rg_then ?_) | (refine pwp_rg ?_) | (refine pwp_skip ?_) | ((refine pwp_cond_d (fun hcd => ?_) (fun hcd => ?_)) <;> (try simp only [hcP] at hcd) <;> (try (exfalso; first | omega | exact absurd hcd (by assumption) | exact absurd (by assumption) hcd)))) | (guard_target =~ rg _ _ _ _ _ _ _; first | (guard_target =~ rg _ _ _ [] _ _ _; first | (refine rg_end ?_)) | (refine rg_a rfl (h := ?_)) | (refine rg_x rfl (hy := rfl) (h := ?_)) | (refine rg_v rfl (h := ?_)) | (refine rg_s rfl ?_) | (refine rg_n rfl ?_)) | (guard_target =~ SOp _ _ _ _ _ _; first | (guard_target =~ SOp _ _ ⟨_, .store _ _ _, _, _, _, none⟩ _ _ _; first | (refine n_store rfl (hK := ?_))) | (guard_target =~ SOp _ _ ⟨_, .alloc _, _, _, _, none⟩ _ _ _; first | (refine n_alloc rfl (by first | exact zv3 | exact zv4 | exact zv5 | exact zv9 | exact zv22 | exact zv25 | exact zv27 | exact zv28 | exact zv46 | exact zv50 | exact zv53 | exact zv55 | exact zv67 | exact zv69 | exact zv71 | exact zv107 | exact zv110 | exact zv112 | fail) (hK := ?_))) | (guard_target =~ SOp _ _ ⟨_, .call ⟨.value (.func 57), _, _⟩, _, _, _, none⟩ _ _ _; first | (refine n_call (f := 57) rfl Tryd.call57 (h := AEq.sub' [_, _, _, _, _] (hc := xres_ok _ _ _ _ _ _ _ _ (by first | assumption | omega) (by first | assumption | omega) (by first | assumption | omega) (by first | assumption | omega) (by first | assumption | omega) (by first | assumption | omega) (by first | assumption | omega) (by first | assumption | omega) (by first | assumption | omega) (by first | assumption | omega)) (hq := ?_)))) | (guard_target =~ SOp _ _ ⟨_, .slice _ _ _ _ _, _, _, _, none⟩ _ _ _; first | (refine n_slice rfl (hg := (fun _ => (by simp only [go_sem, seval, ↓reduceIte, hU] <;> rfl))) (hK := ?_))) | (guard_target =~ SOp _ _ ⟨_, .call ⟨.value (.func 13), _, _⟩, _, _, _, none⟩ _ _ _; first | (refine n_call (f := 13) rfl Tryd.call13 (h := AEq.pure' (by first | ((repeat' (first | exact trivial | (first | exact arg_lit | exact arg_sl id id | exact arg_nil | exact arg_sl (by simp) id | exact arg_sl (by simp) (fun _ => rfl) | exact arg_row_m (by rfl) (by rfl) (fun _ => rfl) | exact arg_vw_m (by rfl) (by rfl) (fun _ => rfl) | exact arg_rn (by rfl) (by rfl) | exact arg_junk | exact arg_row_mm (by rfl) (by rfl) (fun _ => rfl)) | refine ⟨?_, ?_⟩)); done) | fail) (pget22 _ _ _ (by first | assumption | omega)) (hq := ?_))))) | (refine hK _ _ ?_; clear hK K) | (dsimp only [Lf.thenQ, Lf.blockQ]))
      refine ⟨⟨b.drop a1, n', a, c + 1, ⟨F, snI S SZ, ⟨keptL xt SZ, st + 1, SZ⟩⟩⟩, [0, 1, 2, 3, 4, 5, 6, 7, 8], ⟨⟨by dsimp only; omega, by dsimp only; omega, by dsimp only; omega, hks, hZb.1, hZb.2, fun f hf => hbt f (keptL_mem _ _ f hf), by dsimp only; omega, by dsimp only; omega⟩, ?_⟩, ?_, rfl, ?_, (by repeat' (first | exact agr_refl | refine agr_cons (by rfl) ?_)), ?_⟩
      · (rw [← htt]; exact (decM_r hlt he hM hs').symm)
      · dsimp only; omega
      · dsimp only
        have hU := True.intro
        (refine ⟨⟨_, (by (try simp (disch := omega) only [go_sem, seval, ↓reduceIte, hU]) <;> rfl), ?_⟩, trivial⟩ <;> (try (first | exact ale_eq (by with_reducible rfl) | exact ale_full | exact ale_sl (fun _ => rfl) | exact ale_sl (by simp) | exact ale_junk | exact ale_eq rfl)))
        all_goals trace_state
      · dsimp only
        first | rfl | (simp (disch := omega) only [go_sem, seval, ↓reduceIte]; done) | (simp (disch := omega) only [go_sem, seval, ↓reduceIte]; rfl) | trace_state
    have hSt2 : sumW xt ≤ 2147483647 := by omega
    have hxt9 : xt.length ≤ 90000 := by omega
    cases hg : fG xt (rgM b) with
    | none =>
      have hs := dStep_no (Fs := F) (S := S) (t := ⟨xt, st, mt⟩) (r := rgM b) (by rw [hR]; exact h5) hg
      rw [decM_s hlt he hs (by decide)] at htt
      by_cases hI0 : I = 0
      · rw [fG_0 (by rw [hR]; exact hI0)] at hg; exact absurd hg (by simp)
      rw [fG_i (by rw [hR]; exact hI0), hR] at hg
      dsimp only at hg
      have h12 : (12 : Int) ≠ 0 := by decide
      obtain ⟨rfl, rfl⟩ : (⟨F, S, ⟨xt, st, mt⟩⟩ : DQ) = Q ∧ 12 = E := by simpa only [Prod.mk.injEq] using htt
      have hU := @hR
      repeat' (first | (guard_target =~ PWp _ _ _ _ _ _ _; first | (refine pwp_seq_k (fun K hK => ?_)) | (refine pwp_block ?_) | (refine pwp_rg_then ?_) | (refine pwp_rg ?_) | (refine pwp_ret ?_) | (refine pwp_skip ?_) | ((refine pwp_cond_d (fun hcd => ?_) (fun hcd => ?_)) <;> (try simp only [hcP] at hcd) <;> (try (exfalso; first | omega | exact absurd hcd (by assumption) | exact absurd (by assumption) hcd)))) | (guard_target =~ rg _ _ _ _ _ _ _; first | (guard_target =~ rg _ _ _ [] _ _ _; first | (refine rg_end ?_)) | (refine rg_a rfl (h := ?_)) | (refine rg_x rfl (hy := rfl) (h := ?_)) | (refine rg_v rfl (h := ?_)) | (refine rg_s rfl ?_) | (refine rg_n rfl ?_)) | (guard_target =~ SOp _ _ _ _ _ _; first | (guard_target =~ SOp _ _ ⟨_, .store _ _ _, _, _, _, none⟩ _ _ _; first | (refine n_store rfl (hK := ?_))) | (guard_target =~ SOp _ _ ⟨_, .build _ _, _, _, _, none⟩ _ _ _; first | (refine n_build rfl (by first | exact bd25 | exact bd27 | exact bd55 | exact bd67 | exact bd71 | exact bd110 | exact bd112 | fail) (hK := ?_))) | (guard_target =~ SOp _ _ ⟨_, .alloc _, _, _, _, none⟩ _ _ _; first | (refine n_alloc rfl (by first | exact zv3 | exact zv4 | exact zv5 | exact zv9 | exact zv22 | exact zv25 | exact zv27 | exact zv28 | exact zv46 | exact zv50 | exact zv53 | exact zv55 | exact zv67 | exact zv69 | exact zv71 | exact zv107 | exact zv110 | exact zv112 | fail) (hK := ?_))) | (guard_target =~ SOp _ _ ⟨_, .call ⟨.value (.func 58), _, _⟩, _, _, _, none⟩ _ _ _; first | (refine n_call (f := 58) rfl Tryd.call58 (h := AEq.sub' [_, _, _, _, _] (hc := xf_no _ _ _ _ _ _ _ _ _ _ _ _ _ _ (by first | assumption | omega) (by first | assumption | omega) (by first | assumption | omega) (by first | assumption | omega)) (hq := ?_)))) | (guard_target =~ SOp _ _ ⟨_, .call ⟨.value (.func 13), _, _⟩, _, _, _, none⟩ _ _ _; first | (refine n_call (f := 13) rfl Tryd.call13 (h := AEq.pure' (by first | ((repeat' (first | exact trivial | (first | exact arg_lit | exact arg_sl id id | exact arg_nil | exact arg_sl (by simp) id | exact arg_sl (by simp) (fun _ => rfl) | exact arg_row_m (by rfl) (by rfl) (fun _ => rfl) | exact arg_vw_m (by rfl) (by rfl) (fun _ => rfl) | exact arg_rn (by rfl) (by rfl) | exact arg_junk | exact arg_row_mm (by rfl) (by rfl) (fun _ => rfl)) | refine ⟨?_, ?_⟩)); done) | fail) (pget22 _ _ _ (by first | assumption | omega)) (hq := ?_))))) | (guard_target =~ (_ ∨ _) ∧ _; first | (rw [decR_no h12, decT_no h12]) | ((refine end_q [0, 1, 2] (by first | exact .inr rfl | exact .inl rfl | fail) (by rfl) (by rw [Tryd.results25]; exact Lf.resM2 (by (try simp (disch := omega) only [Lf.resOne, go_sem, seval, ↓reduceIte, hU]); rfl) (by (try simp (disch := omega) only [Lf.resOne, go_sem, seval, ↓reduceIte, hU]); rfl)) (by (try simp (disch := omega) only [go_sem, seval, ↓reduceIte, hU]) <;> rfl) (by (try simp (disch := omega) only [go_sem, seval, ↓reduceIte, hU]) <;> rfl) (ale_2 ?_ ?_) ?_) <;> (try (first | exact ale_eq (by with_reducible rfl) | exact ale_full | exact ale_sl (fun _ => rfl) | exact ale_sl (by simp) | exact ale_junk | exact ale_eq rfl | exact stq (by with_reducible rfl) | exact stq (by rfl) | exact stq (by simp (disch := omega) only [go_sem, seval, ↓reduceIte, hU]))))) | (refine hK _ _ ?_; clear hK K))
      all_goals trace_state
    | some g =>
      have hbase : (0 < I ∧ dAt xt I = some g) ∨ (I = 0 ∧ g = ⟨⟨NM.toArray⟩, ⟨#[]⟩, false⟩) := by
        by_cases hI0 : I = 0
        · rw [fG_0 (by rw [hR]; exact hI0), hR] at hg
          exact .inr ⟨hI0, (Option.some.inj hg).symm⟩
        · rw [fG_i (by rw [hR]; exact hI0), hR] at hg
          exact .inl ⟨by omega, hg⟩
      have hgs : g.n.size ≤ 1000000 ∧ g.v.size ≤ 1000000 := by
        rcases hbase with ⟨_, h⟩ | ⟨_, rfl⟩
        · exact dAt_size hbt h
        · exact ⟨hNMs, by show (0 : Nat) ≤ _; omega⟩
      obtain ⟨hgs1, hgs2⟩ := hgs
      by_cases hk : K = 1
      · subst hk
        have hfv : fV (rgM b) g = g := by rw [hR]; unfold fV; rfl
        have hs := dStep_f (Fs := F) (S := S) (t := ⟨xt, st, mt⟩) (r := rgM b) (by rw [hR]; show (1 : Int) ≠ 5; decide) (by rw [hR]; show (1 : Int) ≠ 2; decide) hg
        rw [hfv] at hs
        have hsn := snF_len F g
        have hU := @hR
        repeat' (first | (guard_target =~ PWp _ _ _ _ _ _ _; first | (refine pwp_seq_k (fun K hK => ?_)) | (refine pwp_block ?_) | (refine pwp_rg_then ?_) | (refine pwp_rg ?_) | (refine pwp_skip ?_) | ((refine pwp_cond_d (fun hcd => ?_) (fun hcd => ?_)) <;> (try simp only [hcP] at hcd) <;> (try (exfalso; first | omega | exact absurd hcd (by assumption) | exact absurd (by assumption) hcd)))) | (guard_target =~ rg _ _ _ _ _ _ _; first | (guard_target =~ rg _ _ _ [] _ _ _; first | (refine rg_end ?_)) | (refine rg_a rfl (h := ?_)) | (refine rg_x rfl (hy := rfl) (h := ?_)) | (refine rg_v rfl (h := ?_)) | (refine rg_s rfl ?_) | (refine rg_n rfl ?_)) | (guard_target =~ SOp _ _ _ _ _ _; first | (guard_target =~ SOp _ _ ⟨_, .store _ _ _, _, _, _, none⟩ _ _ _; first | (refine n_store rfl (hK := ?_))) | (guard_target =~ SOp _ _ ⟨_, .alloc _, _, _, _, none⟩ _ _ _; first | (refine n_alloc rfl (by first | exact zv3 | exact zv4 | exact zv5 | exact zv9 | exact zv22 | exact zv25 | exact zv27 | exact zv28 | exact zv46 | exact zv50 | exact zv53 | exact zv55 | exact zv67 | exact zv69 | exact zv71 | exact zv107 | exact zv110 | exact zv112 | fail) (hK := ?_))) | (guard_target =~ SOp _ _ ⟨_, .call ⟨.value (.func 58), _, _⟩, _, _, _, none⟩ _ _ _; first | (refine n_call (f := 58) rfl Tryd.call58 (h := AEq.sub' [_, _, _, _, _] (hc := xf_1 _ _ _ _ _ _ _ _ _ _ _ _ _ (by first | assumption | omega) (by first | assumption | omega) (by first | assumption | omega) (by first | assumption | omega) (by first | assumption | omega) (by first | assumption | omega) (by first | assumption | omega) _ (by first | assumption | omega) (by first | assumption | omega) (by first | assumption | omega) (by first | assumption | omega) (by first | assumption | omega) (by first | assumption | omega)) (hq := ?_)))) | (guard_target =~ SOp _ _ ⟨_, .slice _ _ _ _ _, _, _, _, none⟩ _ _ _; first | (refine n_slice rfl (hg := (fun _ => (by simp only [go_sem, seval, ↓reduceIte, hU] <;> rfl))) (hK := ?_))) | (guard_target =~ SOp _ _ ⟨_, .call ⟨.value (.func 13), _, _⟩, _, _, _, none⟩ _ _ _; first | (refine n_call (f := 13) rfl Tryd.call13 (h := AEq.pure' (by first | ((repeat' (first | exact trivial | (first | exact arg_lit | exact arg_sl id id | exact arg_nil | exact arg_sl (by simp) id | exact arg_sl (by simp) (fun _ => rfl) | exact arg_row_m (by rfl) (by rfl) (fun _ => rfl) | exact arg_vw_m (by rfl) (by rfl) (fun _ => rfl) | exact arg_rn (by rfl) (by rfl) | exact arg_junk | exact arg_row_mm (by rfl) (by rfl) (fun _ => rfl)) | refine ⟨?_, ?_⟩)); done) | fail) (pget22 _ _ _ (by first | assumption | omega)) (hq := ?_))))) | (refine hK _ _ ?_; clear hK K) | (dsimp only [Lf.thenQ, Lf.blockQ]))
        refine ⟨⟨b.drop a1, n', a + 1, c, ⟨snF F g, S, ⟨xt, st, mt⟩⟩⟩, [0, 1, 2, 3, 4, 5, 6, 7, 8], ⟨⟨by dsimp only; omega, by dsimp only; omega, by dsimp only; omega, hSt, hmt0, hmt1, hbt, by dsimp only; omega, by dsimp only; omega⟩, ?_⟩, ?_, rfl, ?_, (by repeat' (first | exact agr_refl | refine agr_cons (by rfl) ?_)), ?_⟩
        · (rw [← htt]; exact (decM_r hlt he hM hs).symm)
        · dsimp only; omega
        · dsimp only
          have hU := True.intro
          (refine ⟨⟨_, (by (try simp (disch := omega) only [go_sem, seval, ↓reduceIte, hU]) <;> rfl), ?_⟩, trivial⟩ <;> (try (first | exact ale_eq (by with_reducible rfl) | exact ale_full | exact ale_sl (fun _ => rfl) | exact ale_sl (by simp) | exact ale_junk | exact ale_eq rfl)))
          all_goals trace_state
        · dsimp only
          first | rfl | (simp (disch := omega) only [go_sem, seval, ↓reduceIte]; done) | (simp (disch := omega) only [go_sem, seval, ↓reduceIte]; rfl) | trace_state
      by_cases hk : K = 3
      · subst hk
        have hfv : fV (rgM b) g = ⟨g.n, ⟨VL.toArray⟩, false⟩ := by rw [hR]; unfold fV; rfl
        have hs := dStep_f (Fs := F) (S := S) (t := ⟨xt, st, mt⟩) (r := rgM b) (by rw [hR]; show (3 : Int) ≠ 5; decide) (by rw [hR]; show (3 : Int) ≠ 2; decide) hg
        rw [hfv] at hs
        have hsn := snF_len F ⟨g.n, ⟨VL.toArray⟩, false⟩
        have hU := @hR
        repeat' (first | (guard_target =~ PWp _ _ _ _ _ _ _; first | (refine pwp_seq_k (fun K hK => ?_)) | (refine pwp_block ?_) | (refine pwp_rg_then ?_) | (refine pwp_rg ?_) | (refine pwp_skip ?_) | ((refine pwp_cond_d (fun hcd => ?_) (fun hcd => ?_)) <;> (try simp only [hcP] at hcd) <;> (try (exfalso; first | omega | exact absurd hcd (by assumption) | exact absurd (by assumption) hcd)))) | (guard_target =~ rg _ _ _ _ _ _ _; first | (guard_target =~ rg _ _ _ [] _ _ _; first | (refine rg_end ?_)) | (refine rg_a rfl (h := ?_)) | (refine rg_x rfl (hy := rfl) (h := ?_)) | (refine rg_v rfl (h := ?_)) | (refine rg_s rfl ?_) | (refine rg_n rfl ?_)) | (guard_target =~ SOp _ _ _ _ _ _; first | (guard_target =~ SOp _ _ ⟨_, .store _ _ _, _, _, _, none⟩ _ _ _; first | (refine n_store rfl (hK := ?_))) | (guard_target =~ SOp _ _ ⟨_, .alloc _, _, _, _, none⟩ _ _ _; first | (refine n_alloc rfl (by first | exact zv3 | exact zv4 | exact zv5 | exact zv9 | exact zv22 | exact zv25 | exact zv27 | exact zv28 | exact zv46 | exact zv50 | exact zv53 | exact zv55 | exact zv67 | exact zv69 | exact zv71 | exact zv107 | exact zv110 | exact zv112 | fail) (hK := ?_))) | (guard_target =~ SOp _ _ ⟨_, .call ⟨.value (.func 58), _, _⟩, _, _, _, none⟩ _ _ _; first | (refine n_call (f := 58) rfl Tryd.call58 (h := AEq.sub' [_, _, _, _, _] (hc := xf_3 _ _ _ _ _ _ _ _ _ _ _ _ _ (by first | assumption | omega) (by first | assumption | omega) (by first | assumption | omega) (by first | assumption | omega) (by first | assumption | omega) (by first | assumption | omega) (by first | assumption | omega) _ (by first | assumption | omega) (by first | assumption | omega) (by first | assumption | omega) (by first | assumption | omega) (by first | assumption | omega) (by first | assumption | omega)) (hq := ?_)))) | (guard_target =~ SOp _ _ ⟨_, .slice _ _ _ _ _, _, _, _, none⟩ _ _ _; first | (refine n_slice rfl (hg := (fun _ => (by simp only [go_sem, seval, ↓reduceIte, hU] <;> rfl))) (hK := ?_))) | (guard_target =~ SOp _ _ ⟨_, .call ⟨.value (.func 13), _, _⟩, _, _, _, none⟩ _ _ _; first | (refine n_call (f := 13) rfl Tryd.call13 (h := AEq.pure' (by first | ((repeat' (first | exact trivial | (first | exact arg_lit | exact arg_sl id id | exact arg_nil | exact arg_sl (by simp) id | exact arg_sl (by simp) (fun _ => rfl) | exact arg_row_m (by rfl) (by rfl) (fun _ => rfl) | exact arg_vw_m (by rfl) (by rfl) (fun _ => rfl) | exact arg_rn (by rfl) (by rfl) | exact arg_junk | exact arg_row_mm (by rfl) (by rfl) (fun _ => rfl)) | refine ⟨?_, ?_⟩)); done) | fail) (pget22 _ _ _ (by first | assumption | omega)) (hq := ?_))))) | (refine hK _ _ ?_; clear hK K) | (dsimp only [Lf.thenQ, Lf.blockQ]))
        refine ⟨⟨b.drop a1, n', a + 1, c, ⟨snF F ⟨g.n, ⟨VL.toArray⟩, false⟩, S, ⟨xt, st, mt⟩⟩⟩, [0, 1, 2, 3, 4, 5, 6, 7, 8], ⟨⟨by dsimp only; omega, by dsimp only; omega, by dsimp only; omega, hSt, hmt0, hmt1, hbt, by dsimp only; omega, by dsimp only; omega⟩, ?_⟩, ?_, rfl, ?_, (by repeat' (first | exact agr_refl | refine agr_cons (by rfl) ?_)), ?_⟩
        · (rw [← htt]; exact (decM_r hlt he hM hs).symm)
        · dsimp only; omega
        · dsimp only
          have hU := True.intro
          (refine ⟨⟨_, (by (try simp (disch := omega) only [go_sem, seval, ↓reduceIte, hU]) <;> rfl), ?_⟩, trivial⟩ <;> (try (first | exact ale_eq (by with_reducible rfl) | exact ale_full | exact ale_sl (fun _ => rfl) | exact ale_sl (by simp) | exact ale_junk | exact ale_eq rfl)))
          all_goals trace_state
        · dsimp only
          first | rfl | (simp (disch := omega) only [go_sem, seval, ↓reduceIte]; done) | (simp (disch := omega) only [go_sem, seval, ↓reduceIte]; rfl) | trace_state
      by_cases hk : K = 4
      · subst hk
        have hfv : fV (rgM b) g = ⟨g.n, ⟨VL.toArray⟩, true⟩ := by rw [hR]; unfold fV; rfl
        have hs := dStep_f (Fs := F) (S := S) (t := ⟨xt, st, mt⟩) (r := rgM b) (by rw [hR]; show (4 : Int) ≠ 5; decide) (by rw [hR]; show (4 : Int) ≠ 2; decide) hg
        rw [hfv] at hs
        have hsn := snF_len F ⟨g.n, ⟨VL.toArray⟩, true⟩
        have hU := @hR
        repeat' (first | (guard_target =~ PWp _ _ _ _ _ _ _; first | (refine pwp_seq_k (fun K hK => ?_)) | (refine pwp_block ?_) | (refine pwp_rg_then ?_) | (refine pwp_rg ?_) | (refine pwp_skip ?_) | ((refine pwp_cond_d (fun hcd => ?_) (fun hcd => ?_)) <;> (try simp only [hcP] at hcd) <;> (try (exfalso; first | omega | exact absurd hcd (by assumption) | exact absurd (by assumption) hcd)))) | (guard_target =~ rg _ _ _ _ _ _ _; first | (guard_target =~ rg _ _ _ [] _ _ _; first | (refine rg_end ?_)) | (refine rg_a rfl (h := ?_)) | (refine rg_x rfl (hy := rfl) (h := ?_)) | (refine rg_v rfl (h := ?_)) | (refine rg_s rfl ?_) | (refine rg_n rfl ?_)) | (guard_target =~ SOp _ _ _ _ _ _; first | (guard_target =~ SOp _ _ ⟨_, .store _ _ _, _, _, _, none⟩ _ _ _; first | (refine n_store rfl (hK := ?_))) | (guard_target =~ SOp _ _ ⟨_, .alloc _, _, _, _, none⟩ _ _ _; first | (refine n_alloc rfl (by first | exact zv3 | exact zv4 | exact zv5 | exact zv9 | exact zv22 | exact zv25 | exact zv27 | exact zv28 | exact zv46 | exact zv50 | exact zv53 | exact zv55 | exact zv67 | exact zv69 | exact zv71 | exact zv107 | exact zv110 | exact zv112 | fail) (hK := ?_))) | (guard_target =~ SOp _ _ ⟨_, .call ⟨.value (.func 58), _, _⟩, _, _, _, none⟩ _ _ _; first | (refine n_call (f := 58) rfl Tryd.call58 (h := AEq.sub' [_, _, _, _, _] (hc := xf_4 _ _ _ _ _ _ _ _ _ _ _ _ _ (by first | assumption | omega) (by first | assumption | omega) (by first | assumption | omega) (by first | assumption | omega) (by first | assumption | omega) (by first | assumption | omega) (by first | assumption | omega) _ (by first | assumption | omega) (by first | assumption | omega) (by first | assumption | omega) (by first | assumption | omega) (by first | assumption | omega) (by first | assumption | omega)) (hq := ?_)))) | (guard_target =~ SOp _ _ ⟨_, .slice _ _ _ _ _, _, _, _, none⟩ _ _ _; first | (refine n_slice rfl (hg := (fun _ => (by simp only [go_sem, seval, ↓reduceIte, hU] <;> rfl))) (hK := ?_))) | (guard_target =~ SOp _ _ ⟨_, .call ⟨.value (.func 13), _, _⟩, _, _, _, none⟩ _ _ _; first | (refine n_call (f := 13) rfl Tryd.call13 (h := AEq.pure' (by first | ((repeat' (first | exact trivial | (first | exact arg_lit | exact arg_sl id id | exact arg_nil | exact arg_sl (by simp) id | exact arg_sl (by simp) (fun _ => rfl) | exact arg_row_m (by rfl) (by rfl) (fun _ => rfl) | exact arg_vw_m (by rfl) (by rfl) (fun _ => rfl) | exact arg_rn (by rfl) (by rfl) | exact arg_junk | exact arg_row_mm (by rfl) (by rfl) (fun _ => rfl)) | refine ⟨?_, ?_⟩)); done) | fail) (pget22 _ _ _ (by first | assumption | omega)) (hq := ?_))))) | (refine hK _ _ ?_; clear hK K) | (dsimp only [Lf.thenQ, Lf.blockQ]))
        refine ⟨⟨b.drop a1, n', a + 1, c, ⟨snF F ⟨g.n, ⟨VL.toArray⟩, true⟩, S, ⟨xt, st, mt⟩⟩⟩, [0, 1, 2, 3, 4, 5, 6, 7, 8], ⟨⟨by dsimp only; omega, by dsimp only; omega, by dsimp only; omega, hSt, hmt0, hmt1, hbt, by dsimp only; omega, by dsimp only; omega⟩, ?_⟩, ?_, rfl, ?_, (by repeat' (first | exact agr_refl | refine agr_cons (by rfl) ?_)), ?_⟩
        · (rw [← htt]; exact (decM_r hlt he hM hs).symm)
        · dsimp only; omega
        · dsimp only
          have hU := True.intro
          (refine ⟨⟨_, (by (try simp (disch := omega) only [go_sem, seval, ↓reduceIte, hU]) <;> rfl), ?_⟩, trivial⟩ <;> (try (first | exact ale_eq (by with_reducible rfl) | exact ale_full | exact ale_sl (fun _ => rfl) | exact ale_sl (by simp) | exact ale_junk | exact ale_eq rfl)))
          all_goals trace_state
        · dsimp only
          first | rfl | (simp (disch := omega) only [go_sem, seval, ↓reduceIte]; done) | (simp (disch := omega) only [go_sem, seval, ↓reduceIte]; rfl) | trace_state
      obtain rfl : K = 2 := by omega
      have hfv : fV (rgM b) g = ⟨g.n, ⟨VL.toArray⟩, false⟩ := by rw [hR]; unfold fV; rfl
      have hs := dStep_2 (Fs := F) (S := S) (t := ⟨xt, st, mt⟩) (r := rgM b) (by rw [hR]) hg
      rw [hfv] at hs
      have hsn := snF_len F ⟨g.n, ⟨VL.toArray⟩, false⟩
      by_cases hw : wt ⟨g.n, ⟨VL.toArray⟩, false⟩ ≤ mt
      · rw [addT_y hw] at hs
        dsimp only at hs
        have hxl := addX_len xt mt ⟨g.n, ⟨VL.toArray⟩, false⟩
        have hxs := addX_sum (xs := xt) hw
        have hU := @hR
        repeat' (first | (guard_target =~ PWp _ _ _ _ _ _ _; first | (refine pwp_seq_k (fun K hK => ?_)) | (refine pwp_block ?_) | (refine pwp_rg_then ?_) | (refine pwp_rg ?_) | (refine pwp_skip ?_) | ((refine pwp_cond_d (fun hcd => ?_) (fun hcd => ?_)) <;> (try simp only [hcP] at hcd) <;> (try (exfalso; first | omega | exact absurd hcd (by assumption) | exact absurd (by assumption) hcd)))) | (guard_target =~ rg _ _ _ _ _ _ _; first | (guard_target =~ rg _ _ _ [] _ _ _; first | (refine rg_end ?_)) | (refine rg_a rfl (h := ?_)) | (refine rg_x rfl (hy := rfl) (h := ?_)) | (refine rg_v rfl (h := ?_)) | (refine rg_s rfl ?_) | (refine rg_n rfl ?_)) | (guard_target =~ SOp _ _ _ _ _ _; first | (guard_target =~ SOp _ _ ⟨_, .store _ _ _, _, _, _, none⟩ _ _ _; first | (refine n_store rfl (hK := ?_))) | (guard_target =~ SOp _ _ ⟨_, .alloc _, _, _, _, none⟩ _ _ _; first | (refine n_alloc rfl (by first | exact zv3 | exact zv4 | exact zv5 | exact zv9 | exact zv22 | exact zv25 | exact zv27 | exact zv28 | exact zv46 | exact zv50 | exact zv53 | exact zv55 | exact zv67 | exact zv69 | exact zv71 | exact zv107 | exact zv110 | exact zv112 | fail) (hK := ?_))) | (guard_target =~ SOp _ _ ⟨_, .call ⟨.value (.func 58), _, _⟩, _, _, _, none⟩ _ _ _; first | (refine n_call (f := 58) rfl Tryd.call58 (h := AEq.sub' [_, _, _, _, _] (hc := xf_2f _ _ _ _ _ _ _ _ _ _ _ _ _ (by first | assumption | omega) (by first | assumption | omega) (by first | assumption | omega) (by first | assumption | omega) (by first | assumption | omega) (by first | assumption | omega) (by first | assumption | omega) _ (by first | assumption | omega) (by first | assumption | omega) (by first | assumption | omega) (by first | assumption | omega) (by first | assumption | omega) (by first | assumption | omega) (by first | assumption | omega)) (hq := ?_)))) | (guard_target =~ SOp _ _ ⟨_, .slice _ _ _ _ _, _, _, _, none⟩ _ _ _; first | (refine n_slice rfl (hg := (fun _ => (by simp only [go_sem, seval, ↓reduceIte, hU] <;> rfl))) (hK := ?_))) | (guard_target =~ SOp _ _ ⟨_, .call ⟨.value (.func 13), _, _⟩, _, _, _, none⟩ _ _ _; first | (refine n_call (f := 13) rfl Tryd.call13 (h := AEq.pure' (by first | ((repeat' (first | exact trivial | (first | exact arg_lit | exact arg_sl id id | exact arg_nil | exact arg_sl (by simp) id | exact arg_sl (by simp) (fun _ => rfl) | exact arg_row_m (by rfl) (by rfl) (fun _ => rfl) | exact arg_vw_m (by rfl) (by rfl) (fun _ => rfl) | exact arg_rn (by rfl) (by rfl) | exact arg_junk | exact arg_row_mm (by rfl) (by rfl) (fun _ => rfl)) | refine ⟨?_, ?_⟩)); done) | fail) (pget22 _ _ _ (by first | assumption | omega)) (hq := ?_))))) | (refine hK _ _ ?_; clear hK K) | (dsimp only [Lf.thenQ, Lf.blockQ]))
        refine ⟨⟨b.drop a1, n', a + 1, c, ⟨snF F ⟨g.n, ⟨VL.toArray⟩, false⟩, S, ⟨addX xt mt ⟨g.n, ⟨VL.toArray⟩, false⟩, st + 2, mt⟩⟩⟩, [0, 1, 2, 3, 4, 5, 6, 7, 8], ⟨⟨by dsimp only; omega, by dsimp only; omega, by dsimp only; omega, hxs, hmt0, hmt1, addX_size hbt hgs1 hVLs, by dsimp only; omega, by dsimp only; omega⟩, ?_⟩, ?_, rfl, ?_, (by repeat' (first | exact agr_refl | refine agr_cons (by rfl) ?_)), ?_⟩
        · (rw [← htt]; exact (decM_r hlt he hM hs).symm)
        · dsimp only; omega
        · dsimp only
          have hU := True.intro
          (refine ⟨⟨_, (by (try simp (disch := omega) only [go_sem, seval, ↓reduceIte, hU]) <;> rfl), ?_⟩, trivial⟩ <;> (try (first | exact ale_eq (by with_reducible rfl) | exact ale_full | exact ale_sl (fun _ => rfl) | exact ale_sl (by simp) | exact ale_junk | exact ale_eq rfl)))
          all_goals trace_state
        · dsimp only
          first | rfl | (simp (disch := omega) only [go_sem, seval, ↓reduceIte]; done) | (simp (disch := omega) only [go_sem, seval, ↓reduceIte]; rfl) | trace_state
      · rw [addT_n hw] at hs
        dsimp only at hs
        have hwn : mt < wt ⟨g.n, ⟨VL.toArray⟩, false⟩ := by omega
        have hxl := xsE_len
        have hxs := xsE_sum
        have hU := @hR
        repeat' (first | (guard_target =~ PWp _ _ _ _ _ _ _; first | (refine pwp_seq_k (fun K hK => ?_)) | (refine pwp_block ?_) | (refine pwp_rg_then ?_) | (refine pwp_rg ?_) | (refine pwp_skip ?_) | ((refine pwp_cond_d (fun hcd => ?_) (fun hcd => ?_)) <;> (try simp only [hcP] at hcd) <;> (try (exfalso; first | omega | exact absurd hcd (by assumption) | exact absurd (by assumption) hcd)))) | (guard_target =~ rg _ _ _ _ _ _ _; first | (guard_target =~ rg _ _ _ [] _ _ _; first | (refine rg_end ?_)) | (refine rg_a rfl (h := ?_)) | (refine rg_x rfl (hy := rfl) (h := ?_)) | (refine rg_v rfl (h := ?_)) | (refine rg_s rfl ?_) | (refine rg_n rfl ?_)) | (guard_target =~ SOp _ _ _ _ _ _; first | (guard_target =~ SOp _ _ ⟨_, .store _ _ _, _, _, _, none⟩ _ _ _; first | (refine n_store rfl (hK := ?_))) | (guard_target =~ SOp _ _ ⟨_, .alloc _, _, _, _, none⟩ _ _ _; first | (refine n_alloc rfl (by first | exact zv3 | exact zv4 | exact zv5 | exact zv9 | exact zv22 | exact zv25 | exact zv27 | exact zv28 | exact zv46 | exact zv50 | exact zv53 | exact zv55 | exact zv67 | exact zv69 | exact zv71 | exact zv107 | exact zv110 | exact zv112 | fail) (hK := ?_))) | (guard_target =~ SOp _ _ ⟨_, .call ⟨.value (.func 58), _, _⟩, _, _, _, none⟩ _ _ _; first | (refine n_call (f := 58) rfl Tryd.call58 (h := AEq.sub' [_, _, _, _, _] (hc := xf_2n _ _ _ _ _ _ _ _ _ _ _ _ _ (by first | assumption | omega) (by first | assumption | omega) (by first | assumption | omega) (by first | assumption | omega) (by first | assumption | omega) (by first | assumption | omega) (by first | assumption | omega) _ (by first | assumption | omega) (by first | assumption | omega) (by first | assumption | omega) (by first | assumption | omega) (by first | assumption | omega) (by first | assumption | omega) (by first | assumption | omega)) (hq := ?_)))) | (guard_target =~ SOp _ _ ⟨_, .slice _ _ _ _ _, _, _, _, none⟩ _ _ _; first | (refine n_slice rfl (hg := (fun _ => (by simp only [go_sem, seval, ↓reduceIte, hU] <;> rfl))) (hK := ?_))) | (guard_target =~ SOp _ _ ⟨_, .call ⟨.value (.func 13), _, _⟩, _, _, _, none⟩ _ _ _; first | (refine n_call (f := 13) rfl Tryd.call13 (h := AEq.pure' (by first | ((repeat' (first | exact trivial | (first | exact arg_lit | exact arg_sl id id | exact arg_nil | exact arg_sl (by simp) id | exact arg_sl (by simp) (fun _ => rfl) | exact arg_row_m (by rfl) (by rfl) (fun _ => rfl) | exact arg_vw_m (by rfl) (by rfl) (fun _ => rfl) | exact arg_rn (by rfl) (by rfl) | exact arg_junk | exact arg_row_mm (by rfl) (by rfl) (fun _ => rfl)) | refine ⟨?_, ?_⟩)); done) | fail) (pget22 _ _ _ (by first | assumption | omega)) (hq := ?_))))) | (refine hK _ _ ?_; clear hK K) | (dsimp only [Lf.thenQ, Lf.blockQ]))
        refine ⟨⟨b.drop a1, n', a + 1, c, ⟨snF F ⟨g.n, ⟨VL.toArray⟩, false⟩, S, ⟨xsE, st + 1, mt⟩⟩⟩, [0, 1, 2, 3, 4, 5, 6, 7, 8], ⟨⟨by dsimp only; omega, by dsimp only; omega, by dsimp only; omega, by dsimp only; omega, hmt0, hmt1, xsE_size, by dsimp only; omega, by dsimp only; omega⟩, ?_⟩, ?_, rfl, ?_, (by repeat' (first | exact agr_refl | refine agr_cons (by rfl) ?_)), ?_⟩
        · (rw [← htt]; exact (decM_r hlt he hM hs).symm)
        · dsimp only; omega
        · dsimp only
          have hU := True.intro
          (refine ⟨⟨_, (by (try simp (disch := omega) only [go_sem, seval, ↓reduceIte, hU]) <;> rfl), ?_⟩, trivial⟩ <;> (try (first | exact ale_eq (by with_reducible rfl) | exact ale_full | exact ale_sl (fun _ => rfl) | exact ale_sl (by simp) | exact ale_junk | exact ale_eq rfl)))
          all_goals trace_state
        · dsimp only
          first | rfl | (simp (disch := omega) only [go_sem, seval, ↓reduceIte]; done) | (simp (disch := omega) only [go_sem, seval, ↓reduceIte]; rfl) | trace_state
theorem dec_ok (f q : Bool) (b : List UInt8) (xs : List Fl) (s : Nat) (m : Int) (hb : b.length ≤ 50000) (hx : xs.length ≤ 30000) (hS : sumW xs ≤ m) (hm0 : 0 ≤ m) (hm1 : m ≤ 2147483647) (hbb : ∀ f ∈ xs, f.n.size ≤ 1000000 ∧ f.v.size ≤ 1000000) (Q : DQ) (htot : decM b.length b ⟨xs0, ss0, ⟨xs, 0, m⟩⟩ = (Q, 0)) : AEq Tryd.prog 25 [.ptr 0 0, .sl f q (b.map byteA)] [.box [.ptr 1 0], .box [.row 2 s, i64 (sumW xs), i64 m], .row s 67 3 (xs.map flA)] (.tu [.ag [.sl false false (Q.F.map flA), .sl false false (Q.S.map intA)], i64 0]) [.box [.ptr 3 0], .box [.row 2 s, i64 (sumW xs), i64 m], .row s 67 3 (xs.map flA), .box [.row 4 Q.t.s, i64 (sumW Q.t.xs), i64 Q.t.m], .row Q.t.s 67 3 (Q.t.xs.map flA)] := by
  have h := dec_all_r f q b xs s m hb hx hS hm0 hm1 hbb Q 0 htot
  rw [decR_ok, decT_ok] at h
  exact h
theorem dec_no (f q : Bool) (b : List UInt8) (xs : List Fl) (s : Nat) (m : Int) (hb : b.length ≤ 50000) (hx : xs.length ≤ 30000) (hS : sumW xs ≤ m) (hm0 : 0 ≤ m) (hm1 : m ≤ 2147483647) (hbb : ∀ f ∈ xs, f.n.size ≤ 1000000 ∧ f.v.size ≤ 1000000) (Q : DQ) (E : Int) (hE : E ≠ 0) (htot : decM b.length b ⟨xs0, ss0, ⟨xs, 0, m⟩⟩ = (Q, E)) : AEq Tryd.prog 25 [.ptr 0 0, .sl f q (b.map byteA)] [.box [.ptr 1 0], .box [.row 2 s, i64 (sumW xs), i64 m], .row s 67 3 (xs.map flA)] (.tu [.ag [.sl true false [], .sl true false []], i64 E]) [.box [.ptr 1 0], .box [.row 2 s, i64 (sumW xs), i64 m], .row s 67 3 (xs.map flA)] := by
  have h := dec_all_r f q b xs s m hb hx hS hm0 hm1 hbb Q E htot
  rw [decR_no hE, decT_no hE] at h
  exact h
end Go.Proofs.YtohbfcmmpaikhaaDoor

set_option linter.unusedVariables false
set_option linter.unusedSimpArgs false
namespace Go.Proofs.YtohbfcmmpaikhaaDoor
open Go Go.Lf Go.Proofs
attribute [local irreducible] Lf.rg Lf.ro Lf.PWp Lf.SOp Lf.ACall Lf.Scoped Lf.dg
set_option maxRecDepth 20000
set_option maxHeartbeats 4000000
end Go.Proofs.YtohbfcmmpaikhaaDoor

set_option linter.unusedVariables false
set_option linter.unusedSimpArgs false
namespace Go.Proofs.YtohbfcmmpaikhaaDoor
open Go Go.Lf Go.Proofs
attribute [local irreducible] Lf.rg Lf.ro Lf.PWp Lf.SOp Lf.ACall Lf.Scoped Lf.dg Lf.dw
set_option maxRecDepth 20000
set_option maxHeartbeats 4000000
@[go_sem] def blA (b : List UInt8) : List AV := [.sl false false (b.map byteA)]
def anyL : List (List UInt8) → Bool
  | [] => false
  | b :: l => if 120 < b.length then true else anyL l
def lgB (l : List (List UInt8)) : Bool := if 20 < l.length then true else anyL l
theorem anyL_no {l : List (List UInt8)} (h : anyL l = false) : ∀ b ∈ l, b.length ≤ 120 := by
  induction l with
  | nil => intro d hd; simp at hd
  | cons x l ih =>
    unfold anyL at h
    split at h
    · cases h
    · rename_i hb
      intro d hd
      rw [List.mem_cons] at hd
      rcases hd with rfl | hd
      · omega
      · exact ih h d hd
theorem lgB_no {l : List (List UInt8)} (h : lgB l = false) : l.length ≤ 20 ∧ ∀ b ∈ l, b.length ≤ 120 := by
  unfold lgB at h
  split at h
  · cases h
  · exact ⟨by omega, anyL_no h⟩
attribute [local irreducible] wt sumW xsE
theorem lgB_is (f : Bool) (l : List (List UInt8)) (h : l.length ≤ 9223372036854775807) (hb : ∀ b ∈ l, b.length ≤ 9223372036854775807) : AEq Tryd.prog 21 [.sl f false (l.map blA)] [] (bl (lgB l)) [] := by
  by_cases h30 : 20 < l.length
  · have e : lgB l = true := if_pos h30
    rw [e]
    refine acall_body Tryd.func21 rfl Tryd.ntmps21 (by simp) (fun hsc => ?_); simp only [Lf.enter, Nat.reduceAdd]; clear hsc
    have hU := True.intro
    repeat' (first | (guard_target =~ PWp _ _ _ _ _ _ _; first | (refine pwp_seq_k (fun K hK => ?_)) | (refine pwp_rg_then ?_) | (refine pwp_ret ?_) | ((refine pwp_cond_d (fun hcd => ?_) (fun hcd => ?_)) <;> (try simp only [hcP] at hcd) <;> (try (exfalso; first | omega | exact absurd hcd (by assumption) | exact absurd (by assumption) hcd)))) | (guard_target =~ rg _ _ _ _ _ _ _; first | (guard_target =~ rg _ _ _ [] _ _ _; first | (refine rg_end ?_)) | (refine rg_a rfl (h := ?_)) | (refine rg_v rfl (h := ?_))) | (guard_target =~ (_ ∨ _) ∧ _; first | ((refine end_d [] (by rw [Tryd.results21, Lf.res1]) (ale_1 ?_) ?_) <;> (try (first | exact ale_eq (by with_reducible rfl) | exact ale_full | exact ale_sl (fun _ => rfl) | exact ale_sl (by simp) | exact ale_junk | exact ale_eq rfl | exact stq (by with_reducible rfl) | exact stq (by rfl) | exact stq (by simp (disch := omega) only [go_sem, seval, ↓reduceIte, hU]))))) | (refine hK _ _ ?_; clear hK K))
  have e : lgB l = anyL l := if_neg h30
  rw [e]
  refine acall_body Tryd.func21 rfl Tryd.ntmps21 (by simp) (fun hsc => ?_); simp only [Lf.enter, Nat.reduceAdd]; clear hsc
  have hU := True.intro
  repeat' (first | (guard_target =~ PWp _ _ _ _ _ _ _; first | (refine pwp_seq_k (fun K hK => ?_)) | (refine pwp_block ?_) | (refine pwp_rg_then ?_) | (refine pwp_skip ?_) | ((refine pwp_cond_d (fun hcd => ?_) (fun hcd => ?_)) <;> (try simp only [hcP] at hcd) <;> (try (exfalso; first | omega | exact absurd hcd (by assumption) | exact absurd (by assumption) hcd)))) | (guard_target =~ rg _ _ _ _ _ _ _; first | (guard_target =~ rg _ _ _ [] _ _ _; first | (refine rg_end ?_)) | (refine rg_a rfl (h := ?_)) | (refine rg_v rfl (h := ?_))) | (refine hK _ _ ?_; clear hK K))
  refine pwp_loop_e [2, 3, 7, 8, 9, 10, 11, 12, 13, 14, 15, 16, 17, 18] (fun i : Nat => [(3, i64 i)]) (fun _ => []) (fun i => i ≤ l.length ∧ anyL l = anyL (l.drop i)) (fun i => l.length - i) 0 ⟨Nat.zero_le _, rfl⟩ ?_ rfl ?_
  · (refine ⟨⟨_, (by (try simp (disch := omega) only [go_sem, seval, ↓reduceIte, hU]) <;> rfl), ?_⟩, trivial⟩ <;> (try (first | exact ale_eq (by with_reducible rfl) | exact ale_full | exact ale_sl (fun _ => rfl) | exact ale_sl (by simp) | exact ale_junk | exact ale_eq rfl)))
  · rintro i ⟨hi, hk⟩
    simp only [mask, List.map_cons, List.map_nil, List.cons_append, List.nil_append]
    by_cases hlt : i < l.length
    · obtain ⟨d, hd⟩ := ex_at hlt
      have hdl := hb d (List.mem_of_getElem? hd)
      rw [ddrop_at hd, anyL] at hk
      by_cases h1 : 120 < d.length
      · rw [if_pos h1] at hk
        repeat' (first | (guard_target =~ PWp _ _ _ _ _ _ _; first | (refine pwp_seq_k (fun K hK => ?_)) | (refine pwp_block ?_) | (refine pwp_rg_then ?_) | (refine pwp_ret ?_) | (refine pwp_skip ?_) | ((refine pwp_cond_d (fun hcd => ?_) (fun hcd => ?_)) <;> (try simp only [hcP] at hcd) <;> (try (exfalso; first | omega | exact absurd hcd (by assumption) | exact absurd (by assumption) hcd)))) | (guard_target =~ rg _ _ _ _ _ _ _; first | (guard_target =~ rg _ _ _ [] _ _ _; first | (refine rg_end ?_)) | (refine rg_a rfl (h := ?_)) | (refine rg_v rfl (h := ?_)) | (refine rg_s rfl ?_)) | (guard_target =~ SOp _ _ _ _ _ _; first | (guard_target =~ SOp _ _ ⟨_, .indexAddr _ _ _, _, _, _, none⟩ _ _ _; first | (refine n_index rfl (hK := ?_)))) | (guard_target =~ (_ ∨ _) ∧ _; first | ((refine end_d [] (by rw [Tryd.results21, Lf.res1]) (ale_1 ?_) ?_) <;> (try (first | exact ale_eq (by with_reducible rfl) | exact ale_full | exact ale_sl (fun _ => rfl) | exact ale_sl (by simp) | exact ale_junk | exact ale_eq rfl | exact stq (by with_reducible rfl) | exact stq (by rfl) | exact stq (by simp (disch := omega) only [go_sem, seval, ↓reduceIte, hU]))))) | (refine hK _ _ ?_; clear hK K))
        exact ale_bl (by rw [hk])
      · rw [if_neg h1] at hk
        repeat' (first | (guard_target =~ PWp _ _ _ _ _ _ _; first | (refine pwp_seq_k (fun K hK => ?_)) | (refine pwp_block ?_) | (refine pwp_rg_then ?_) | (refine pwp_skip ?_) | ((refine pwp_cond_d (fun hcd => ?_) (fun hcd => ?_)) <;> (try simp only [hcP] at hcd) <;> (try (exfalso; first | omega | exact absurd hcd (by assumption) | exact absurd (by assumption) hcd)))) | (guard_target =~ rg _ _ _ _ _ _ _; first | (guard_target =~ rg _ _ _ [] _ _ _; first | (refine rg_end ?_)) | (refine rg_a rfl (h := ?_)) | (refine rg_v rfl (h := ?_)) | (refine rg_s rfl ?_)) | (guard_target =~ SOp _ _ _ _ _ _; first | (guard_target =~ SOp _ _ ⟨_, .indexAddr _ _ _, _, _, _, none⟩ _ _ _; first | (refine n_index rfl (hK := ?_)))) | (refine hK _ _ ?_; clear hK K))
        refine ⟨i + 1, ⟨by omega, hk⟩, by omega, ?_, (by repeat' (first | exact agr_refl | refine agr_cons (by rfl) ?_)), (by first | rfl | (simp (disch := omega) only [go_sem, seval, ↓reduceIte, hU]; done) | (simp (disch := omega) only [go_sem, seval, ↓reduceIte, hU]; rfl))⟩
        (refine ⟨⟨_, (by (try simp (disch := omega) only [go_sem, seval, ↓reduceIte, hU]) <;> rfl), ?_⟩, trivial⟩ <;> (try (first | exact ale_eq (by with_reducible rfl) | exact ale_full | exact ale_sl (fun _ => rfl) | exact ale_sl (by simp) | exact ale_junk | exact ale_eq rfl)))
    · have he : anyL l = false := by rw [hk, List.drop_eq_nil_of_le (by omega)]; rfl
      repeat' (first | (guard_target =~ PWp _ _ _ _ _ _ _; first | (refine pwp_seq_k (fun K hK => ?_)) | (refine pwp_rg_then ?_) | (refine pwp_ret ?_) | (refine pwp_exit ?_) | ((refine pwp_cond_d (fun hcd => ?_) (fun hcd => ?_)) <;> (try simp only [hcP] at hcd) <;> (try (exfalso; first | omega | exact absurd hcd (by assumption) | exact absurd (by assumption) hcd)))) | (guard_target =~ rg _ _ _ _ _ _ _; first | (guard_target =~ rg _ _ _ [] _ _ _; first | (refine rg_end ?_)) | (refine rg_a rfl (h := ?_)) | (refine rg_v rfl (h := ?_))) | (guard_target =~ (_ ∨ _) ∧ _; first | ((refine end_d [] (by rw [Tryd.results21, Lf.res1]) (ale_1 ?_) ?_) <;> (try (first | exact ale_eq (by with_reducible rfl) | exact ale_full | exact ale_sl (fun _ => rfl) | exact ale_sl (by simp) | exact ale_junk | exact ale_eq rfl | exact stq (by with_reducible rfl) | exact stq (by rfl) | exact stq (by simp (disch := omega) only [go_sem, seval, ↓reduceIte, hU]))))) | (refine hK _ _ ?_; clear hK K) | (apply_assumption (exfalso := false) (symm := false)))
      exact ale_bl (by rw [he])
theorem dnew_no (m : Int) (h : m < 0 ∨ 2147483647 < m) : AEq Tryd.prog 23 [i64 m] [] (.tu [.lit (.pointer none), i64 1]) [] := by
  refine acall_body Tryd.func23 rfl Tryd.ntmps23 (by simp) (fun hsc => ?_); simp only [Lf.enter, Nat.reduceAdd]; clear hsc
  have hU := True.intro
  repeat' (first | (guard_target =~ PWp _ _ _ _ _ _ _; first | (refine pwp_seq_k (fun K hK => ?_)) | (refine pwp_rg_then ?_) | (refine pwp_ret ?_) | ((refine pwp_cond_d (fun hcd => ?_) (fun hcd => ?_)) <;> (try simp only [hcP] at hcd) <;> (try (exfalso; first | omega | exact absurd hcd (by assumption) | exact absurd (by assumption) hcd)))) | (guard_target =~ rg _ _ _ _ _ _ _; first | (guard_target =~ rg _ _ _ [] _ _ _; first | (refine rg_end ?_)) | (refine rg_a rfl (h := ?_)) | (refine rg_x rfl (hy := rfl) (h := ?_)) | (refine rg_v rfl (h := ?_)) | (refine rg_s rfl ?_)) | (guard_target =~ SOp _ _ _ _ _ _; first | (guard_target =~ SOp _ _ ⟨_, .call ⟨.value (.func 55), _, _⟩, _, _, _, none⟩ _ _ _; first | (refine n_call (f := 55) rfl Tryd.call55 (h := AEq.pure' (by first | ((repeat' (first | exact trivial | (first | exact arg_lit | exact arg_sl id id | exact arg_nil | exact arg_sl (by simp) id | exact arg_sl (by simp) (fun _ => rfl) | exact arg_row_m (by rfl) (by rfl) (fun _ => rfl) | exact arg_vw_m (by rfl) (by rfl) (fun _ => rfl) | exact arg_rn (by rfl) (by rfl) | exact arg_junk | exact arg_row_mm (by rfl) (by rfl) (fun _ => rfl)) | refine ⟨?_, ?_⟩)); done) | fail) (t_new_no _ (by assumption)) (hq := ?_))))) | (guard_target =~ (_ ∨ _) ∧ _; first | ((refine end_d [] (by rw [Tryd.results23, Lf.res2]) (ale_2 ?_ ?_) ?_) <;> (try (first | exact ale_eq (by with_reducible rfl) | exact ale_full | exact ale_sl (fun _ => rfl) | exact ale_sl (by simp) | exact ale_junk | exact ale_eq rfl | exact stq (by with_reducible rfl) | exact stq (by rfl) | exact stq (by simp (disch := omega) only [go_sem, seval, ↓reduceIte, hU]))))) | (refine hK _ _ ?_; clear hK K))
  all_goals trace_state
theorem dnew_ok (m : Int) (h : 0 ≤ m) (h2 : m ≤ 2147483647) : AEq Tryd.prog 23 [i64 m] [] (.tu [.ptr 2 0, i64 0]) [.box [.row 1 0, i64 (sumW xsE), i64 m], .row 0 67 3 (xsE.map flA), .box [.ptr 0 0]] := by
  refine acall_body Tryd.func23 rfl Tryd.ntmps23 (by simp) (fun hsc => ?_); simp only [Lf.enter, Nat.reduceAdd]; clear hsc
  have hU := True.intro
  repeat' (first | (guard_target =~ PWp _ _ _ _ _ _ _; first | (refine pwp_seq_k (fun K hK => ?_)) | (refine pwp_rg_then ?_) | (refine pwp_ret ?_) | (refine pwp_skip ?_) | ((refine pwp_cond_d (fun hcd => ?_) (fun hcd => ?_)) <;> (try simp only [hcP] at hcd) <;> (try (exfalso; first | omega | exact absurd hcd (by assumption) | exact absurd (by assumption) hcd)))) | (guard_target =~ rg _ _ _ _ _ _ _; first | (guard_target =~ rg _ _ _ [] _ _ _; first | (refine rg_end ?_)) | (refine rg_a rfl (h := ?_)) | (refine rg_x rfl (hy := rfl) (h := ?_)) | (refine rg_v rfl (h := ?_)) | (refine rg_s rfl ?_)) | (guard_target =~ SOp _ _ _ _ _ _; first | (guard_target =~ SOp _ _ ⟨_, .build _ _, _, _, _, none⟩ _ _ _; first | (refine n_build rfl (by first | exact bd67 | exact bd71 | exact bd112 | fail) (hK := ?_))) | (guard_target =~ SOp _ _ ⟨_, .call ⟨.value (.func 55), _, _⟩, _, _, _, none⟩ _ _ _; first | (refine n_call (f := 55) rfl Tryd.call55 (h := AEq.sub' [] (hc := t_new_r _ (by assumption) (by assumption)) (hq := ?_)))) | (guard_target =~ SOp _ _ ⟨_, .box _ _, _, _, _, none⟩ _ _ _; first | (refine n_box rfl (hK := ?_)))) | (guard_target =~ (_ ∨ _) ∧ _; first | ((refine end_d [0, 1, 2] (by rw [Tryd.results23, Lf.res2]) (ale_2 ?_ ?_) ?_) <;> (try (first | exact ale_eq (by with_reducible rfl) | exact ale_full | exact ale_sl (fun _ => rfl) | exact ale_sl (by simp) | exact ale_junk | exact ale_eq rfl | exact stq (by with_reducible rfl) | exact stq (by rfl) | exact stq (by simp (disch := omega) only [go_sem, seval, ↓reduceIte, hU]))))) | (refine hK _ _ ?_; clear hK K))
  all_goals trace_state
theorem dtab (xs : List Fl) (s : Nat) (z m : Int) : AEq Tryd.prog 62 [.ptr 0 0] [.box [.ptr 1 0], .box [.row 2 s, i64 z, i64 m], .row s 67 3 (xs.map flA)] (.ptr 1 0) [.box [.ptr 1 0], .box [.row 2 s, i64 z, i64 m], .row s 67 3 (xs.map flA)] := by
  refine acall_body Tryd.func62 rfl Tryd.ntmps62 (by simp) (fun hsc => ?_); simp only [Lf.enter, Nat.reduceAdd]; clear hsc
  have hU := True.intro
  repeat' (first | (guard_target =~ PWp _ _ _ _ _ _ _; first | (refine pwp_seq_k (fun K hK => ?_)) | (refine pwp_rg_then ?_) | (refine pwp_ret ?_) | (refine pwp_skip ?_) | ((refine pwp_cond_d (fun hcd => ?_) (fun hcd => ?_)) <;> (try simp only [hcP] at hcd) <;> (try (exfalso; first | omega | exact absurd hcd (by assumption) | exact absurd (by assumption) hcd)))) | (guard_target =~ rg _ _ _ _ _ _ _; first | (guard_target =~ rg _ _ _ [] _ _ _; first | (refine rg_end ?_)) | (refine rg_a rfl (h := ?_)) | (refine rg_v rfl (h := ?_))) | (guard_target =~ (_ ∨ _) ∧ _; first | ((refine end_d [0, 1, 2] (by rw [Tryd.results62, Lf.res1]) (ale_1 ?_) ?_) <;> (try (first | exact ale_eq (by with_reducible rfl) | exact ale_full | exact ale_sl (fun _ => rfl) | exact ale_sl (by simp) | exact ale_junk | exact ale_eq rfl | exact stq (by with_reducible rfl) | exact stq (by rfl) | exact stq (by simp (disch := omega) only [go_sem, seval, ↓reduceIte, hU]))))) | (refine hK _ _ ?_; clear hK K))
  all_goals trace_state
theorem dmax (xs : List Fl) (s : Nat) (z m : Int) : AEq Tryd.prog 29 [.ptr 0 0] [.box [.ptr 1 0], .box [.row 2 s, i64 z, i64 m], .row s 67 3 (xs.map flA)] (i64 m) [.box [.ptr 1 0], .box [.row 2 s, i64 z, i64 m], .row s 67 3 (xs.map flA)] := by
  refine acall_body Tryd.func29 rfl Tryd.ntmps29 (by simp) (fun hsc => ?_); simp only [Lf.enter, Nat.reduceAdd]; clear hsc
  have hU := True.intro
  repeat' (first | (guard_target =~ PWp _ _ _ _ _ _ _; first | (refine pwp_seq_k (fun K hK => ?_)) | (refine pwp_rg_then ?_) | (refine pwp_ret ?_)) | (guard_target =~ rg _ _ _ _ _ _ _; first | (guard_target =~ rg _ _ _ [] _ _ _; first | (refine rg_end ?_)) | (refine rg_a rfl (h := ?_)) | (refine rg_v rfl (h := ?_)) | (refine rg_s rfl ?_)) | (guard_target =~ SOp _ _ _ _ _ _; first | (guard_target =~ SOp _ _ ⟨_, .call ⟨.value (.func 63), _, _⟩, _, _, _, none⟩ _ _ _; first | (refine n_call (f := 63) rfl Tryd.call63 (h := AEq.sub' [_, _] (hc := t_max _ _ _ _) (hq := ?_)))) | (guard_target =~ SOp _ _ ⟨_, .call ⟨.value (.func 62), _, _⟩, _, _, _, none⟩ _ _ _; first | (refine n_call (f := 62) rfl Tryd.call62 (h := AEq.sub' [_, _, _] (hc := dtab _ _ _ _) (hq := ?_))))) | (guard_target =~ (_ ∨ _) ∧ _; first | ((refine end_d [0, 1, 2] (by rw [Tryd.results29, Lf.res1]) (ale_1 ?_) ?_) <;> (try (first | exact ale_eq (by with_reducible rfl) | exact ale_full | exact ale_sl (fun _ => rfl) | exact ale_sl (by simp) | exact ale_junk | exact ale_eq rfl | exact stq (by with_reducible rfl) | exact stq (by rfl) | exact stq (by simp (disch := omega) only [go_sem, seval, ↓reduceIte, hU]))))) | (refine hK _ _ ?_; clear hK K))
  all_goals trace_state
theorem dsize (xs : List Fl) (s : Nat) (z m : Int) : AEq Tryd.prog 30 [.ptr 0 0] [.box [.ptr 1 0], .box [.row 2 s, i64 z, i64 m], .row s 67 3 (xs.map flA)] (i64 z) [.box [.ptr 1 0], .box [.row 2 s, i64 z, i64 m], .row s 67 3 (xs.map flA)] := by
  refine acall_body Tryd.func30 rfl Tryd.ntmps30 (by simp) (fun hsc => ?_); simp only [Lf.enter, Nat.reduceAdd]; clear hsc
  have hU := True.intro
  repeat' (first | (guard_target =~ PWp _ _ _ _ _ _ _; first | (refine pwp_seq_k (fun K hK => ?_)) | (refine pwp_rg_then ?_) | (refine pwp_ret ?_)) | (guard_target =~ rg _ _ _ _ _ _ _; first | (guard_target =~ rg _ _ _ [] _ _ _; first | (refine rg_end ?_)) | (refine rg_a rfl (h := ?_)) | (refine rg_v rfl (h := ?_)) | (refine rg_s rfl ?_)) | (guard_target =~ SOp _ _ _ _ _ _; first | (guard_target =~ SOp _ _ ⟨_, .call ⟨.value (.func 64), _, _⟩, _, _, _, none⟩ _ _ _; first | (refine n_call (f := 64) rfl Tryd.call64 (h := AEq.sub' [_, _] (hc := t_size _ _ _ _) (hq := ?_)))) | (guard_target =~ SOp _ _ ⟨_, .call ⟨.value (.func 62), _, _⟩, _, _, _, none⟩ _ _ _; first | (refine n_call (f := 62) rfl Tryd.call62 (h := AEq.sub' [_, _, _] (hc := dtab _ _ _ _) (hq := ?_))))) | (guard_target =~ (_ ∨ _) ∧ _; first | ((refine end_d [0, 1, 2] (by rw [Tryd.results30, Lf.res1]) (ale_1 ?_) ?_) <;> (try (first | exact ale_eq (by with_reducible rfl) | exact ale_full | exact ale_sl (fun _ => rfl) | exact ale_sl (by simp) | exact ale_junk | exact ale_eq rfl | exact stq (by with_reducible rfl) | exact stq (by rfl) | exact stq (by simp (disch := omega) only [go_sem, seval, ↓reduceIte, hU]))))) | (refine hK _ _ ?_; clear hK K))
  all_goals trace_state
theorem dall (xs : List Fl) (s : Nat) (z m : Int) (h : xs.length ≤ 100000) : AEq Tryd.prog 32 [.ptr 0 0] [.box [.ptr 1 0], .box [.row 2 s, i64 z, i64 m], .row s 67 3 (xs.map flA)] (.sl false false (xs.reverse.map flA)) [.box [.ptr 1 0], .box [.row 2 s, i64 z, i64 m], .row s 67 3 (xs.map flA)] := by
  refine acall_body Tryd.func32 rfl Tryd.ntmps32 (by simp) (fun hsc => ?_); simp only [Lf.enter, Nat.reduceAdd]; clear hsc
  have hU := True.intro
  repeat' (first | (guard_target =~ PWp _ _ _ _ _ _ _; first | (refine pwp_seq_k (fun K hK => ?_)) | (refine pwp_rg_then ?_) | (refine pwp_ret ?_)) | (guard_target =~ rg _ _ _ _ _ _ _; first | (guard_target =~ rg _ _ _ [] _ _ _; first | (refine rg_end ?_)) | (refine rg_a rfl (h := ?_)) | (refine rg_v rfl (h := ?_)) | (refine rg_s rfl ?_)) | (guard_target =~ SOp _ _ _ _ _ _; first | (guard_target =~ SOp _ _ ⟨_, .call ⟨.value (.func 65), _, _⟩, _, _, _, none⟩ _ _ _; first | (refine n_call (f := 65) rfl Tryd.call65 (h := AEq.sub' [_, _] (hc := t_all _ _ _ _ (by assumption)) (hq := ?_)))) | (guard_target =~ SOp _ _ ⟨_, .call ⟨.value (.func 62), _, _⟩, _, _, _, none⟩ _ _ _; first | (refine n_call (f := 62) rfl Tryd.call62 (h := AEq.sub' [_, _, _] (hc := dtab _ _ _ _) (hq := ?_))))) | (guard_target =~ (_ ∨ _) ∧ _; first | ((refine end_d [0, 1, 2] (by rw [Tryd.results32, Lf.res1]) (ale_1 ?_) ?_) <;> (try (first | exact ale_eq (by with_reducible rfl) | exact ale_full | exact ale_sl (fun _ => rfl) | exact ale_sl (by simp) | exact ale_junk | exact ale_eq rfl | exact stq (by with_reducible rfl) | exact stq (by rfl) | exact stq (by simp (disch := omega) only [go_sem, seval, ↓reduceIte, hU]))))) | (refine hK _ _ ?_; clear hK K))
  all_goals trace_state
end Go.Proofs.YtohbfcmmpaikhaaDoor

set_option linter.unusedVariables false
set_option linter.unusedSimpArgs false
namespace Go.Proofs.YtohbfcmmpaikhaaDoor
open Go Go.Lf Go.Proofs
attribute [local irreducible] Lf.rg Lf.ro Lf.PWp Lf.SOp Lf.ACall Lf.Scoped Lf.dg
set_option maxRecDepth 20000
set_option maxHeartbeats 4000000
def TOk (t : DT) : Prop := sumW t.xs ≤ t.m ∧ 0 ≤ t.m ∧ t.m ≤ 2147483647 ∧ ∀ f ∈ t.xs, f.n.size ≤ 1000000 ∧ f.v.size ≤ 1000000
theorem addT_ok {t : DT} {f : Fl} (h : TOk t) (h1 : f.n.size ≤ 1000000) (h2 : f.v.size ≤ 1000000) : TOk (addT t f) ∧ (addT t f).xs.length ≤ t.xs.length + 1 ∧ (addT t f).m = t.m := by
  obtain ⟨a, b, c, d⟩ := h
  by_cases hw : wt f ≤ t.m
  · rw [addT_y hw]
    exact ⟨⟨addX_sum hw, b, c, addX_size d h1 h2⟩, addX_len _ _ _, rfl⟩
  · rw [addT_n hw]
    refine ⟨⟨?_, b, c, xsE_size⟩, ?_, rfl⟩
    · dsimp only; rw [xsE_sum]; exact b
    · dsimp only; rw [xsE_len]; exact Nat.zero_le _
theorem fV_size {r : Rp} {g : Fl} (hv : r.vl.length ≤ 1000000) (h1 : g.n.size ≤ 1000000) (h2 : g.v.size ≤ 1000000) : (fV r g).n.size ≤ 1000000 ∧ (fV r g).v.size ≤ 1000000 := by
  unfold fV
  split
  · exact ⟨h1, h2⟩
  · exact ⟨h1, hv⟩
theorem fG_size {xs : List Fl} {r : Rp} {g : Fl} (hn : r.nm.length ≤ 1000000) (hb : ∀ f ∈ xs, f.n.size ≤ 1000000 ∧ f.v.size ≤ 1000000) (h : fG xs r = some g) : g.n.size ≤ 1000000 ∧ g.v.size ≤ 1000000 := by
  unfold fG at h
  split at h
  · obtain rfl := Option.some.inj h
    exact ⟨hn, Nat.zero_le _⟩
  · exact dAt_size hb h
theorem dStep_inv {q q' : DQ} {r : Rp} (hP : RP r.k r.i r.nm r.ns r.vl r.vs r.sz) (hn : r.nm.length ≤ 1000000) (hv : r.vl.length ≤ 1000000) (hq : TOk q.t) (h : dStep q r = (q', 0)) : TOk q'.t ∧ q'.t.xs.length ≤ q.t.xs.length + 1 ∧ q'.F.length ≤ q.F.length + 1 ∧ q'.S.length ≤ q.S.length + 1 := by
  obtain ⟨F, S, t⟩ := q
  have hq2 := hq
  obtain ⟨a, b, c, d⟩ := hq
  dsimp only at a b c d ⊢
  by_cases h5 : r.k = 5
  · by_cases h0 : 0 < F.length
    · rw [dStep_upd h5 h0] at h
      have h9 : (13 : Int) = 0 := congrArg Prod.snd h
      exact absurd h9 (by decide)
    · rw [dStep_res h5 h0] at h
      obtain rfl := (Prod.mk.inj h).1
      have hz := hP.2.2.1
      have hk := keptL_len r.sz t.xs
      refine ⟨⟨keptL_sum _ hz.1 _, hz.1, hz.2, fun f hf => d f (keptL_mem _ _ f hf)⟩, ?_, ?_, ?_⟩
      · dsimp only; omega
      · dsimp only; omega
      · dsimp only; rw [snI_len]; omega
  · cases hg : fG t.xs r with
    | none => 
      rw [dStep_no h5 hg] at h
      have h9 : (12 : Int) = 0 := congrArg Prod.snd h
      exact absurd h9 (by decide)
    | some g =>
      obtain ⟨g1, g2⟩ := fG_size hn d hg
      obtain ⟨v1, v2⟩ := fV_size (r := r) hv g1 g2
      by_cases h2 : r.k = 2
      · rw [dStep_2 h2 hg] at h
        obtain rfl := (Prod.mk.inj h).1
        obtain ⟨e1, e2, e3⟩ := addT_ok hq2 v1 v2
        refine ⟨e1, e2, ?_, ?_⟩
        · dsimp only; rw [snF_len]; omega
        · dsimp only; omega
      · rw [dStep_f h5 h2 hg] at h
        obtain rfl := (Prod.mk.inj h).1
        refine ⟨hq2, ?_, ?_, ?_⟩
        · dsimp only; omega
        · dsimp only; rw [snF_len]; omega
        · dsimp only; omega
theorem decM_inv : ∀ (n : Nat) (b : List UInt8) (q Q : DQ), b.length ≤ n → b.length ≤ 50000 → TOk q.t → decM n b q = (Q, 0) → TOk Q.t ∧ Q.t.xs.length ≤ q.t.xs.length + b.length ∧ Q.F.length ≤ q.F.length + b.length ∧ Q.S.length ≤ q.S.length + b.length
  | n, b, q, Q, hn, hb, hq, h => by
    by_cases hlt : b.length = 0
    · rw [decM_nil hlt] at h
      obtain rfl := (Prod.mk.inj h).1
      exact ⟨hq, by omega, by omega, by omega⟩
    cases n with
    | zero => omega
    | succ n =>
      by_cases he0 : (rgM b).e ≠ 0
      · rw [decM_e hlt he0] at h; exact absurd (congrArg Prod.snd h) he0
      have he : (rgM b).e = 0 := by omega
      have hrl := rg_len b
      rcases rg_right b with ⟨h1, _⟩ | ⟨_, hP, hM0, hM1⟩
      · exact absurd he h1
      obtain ⟨⟨q', e⟩, hs⟩ : ∃ p, dStep q (rgM b) = p := ⟨_, rfl⟩
      by_cases hee : e = 0
      · subst hee
        obtain ⟨a, ha⟩ : ∃ j : Nat, (rgM b).n = j := ⟨(rgM b).n.toNat, by omega⟩
        rw [decM_r hlt he ha hs] at h
        have hdl : (b.drop a).length = b.length - a := List.length_drop
        obtain ⟨i1, i2, i3, i4⟩ := dStep_inv hP (by omega) (by omega) hq hs
        obtain ⟨j1, j2, j3, j4⟩ := decM_inv n (b.drop a) q' Q (by omega) (by omega) i1 h
        exact ⟨j1, by omega, by omega, by omega⟩
      · rw [decM_s hlt he hs hee] at h; exact absurd (congrArg Prod.snd h) hee
def fab : Fl := ⟨⟨#[97]⟩, ⟨#[98]⟩, false⟩
def wantL : List Fl := [fab]
def w5 : List UInt8 := [64, 1, 97, 1, 98]
def w190 : List UInt8 := [190]
def w191 : List UInt8 := [191]
theorem w5_len : w5.length = 5 := rfl
theorem w190_len : w190.length = 1 := rfl
theorem w191_len : w191.length = 1 := rfl
theorem wantL_len : wantL.length = 1 := rfl
theorem wantL_sum : sumW wantL = 34 := by decide
theorem wantL_size : ∀ f ∈ wantL, f.n.size ≤ 1000000 ∧ f.v.size ≤ 1000000 := by
  intro f hf
  obtain rfl := List.mem_singleton.1 hf
  exact ⟨by decide, by decide⟩
theorem w5_dec : decM w5.length w5 ⟨xs0, ss0, ⟨xsE, 0, 100⟩⟩ = (⟨wantL, ss0, ⟨wantL, 2, 100⟩⟩, 0) := by kernel_rfl
theorem w190_dec : decM w190.length w190 ⟨xs0, ss0, ⟨wantL, 0, 100⟩⟩ = (⟨wantL, ss0, ⟨wantL, 0, 100⟩⟩, 0) := by kernel_rfl
theorem w191_dec : decM w191.length w191 ⟨xs0, ss0, ⟨wantL, 0, 100⟩⟩ = (⟨xs0, ss0, ⟨wantL, 0, 100⟩⟩, 12) := by kernel_rfl
end Go.Proofs.YtohbfcmmpaikhaaDoor

set_option linter.unusedVariables false
set_option linter.unusedSimpArgs false
namespace Go.Proofs.YtohbfcmmpaikhaaDoor
open Go Go.Lf Go.Proofs
attribute [local irreducible] Lf.rg Lf.ro Lf.PWp Lf.SOp Lf.ACall Lf.Scoped Lf.dg Lf.dw
set_option maxRecDepth 20000
set_option maxHeartbeats 4000000
attribute [local irreducible] wt sumW decM xs0 ss0 xsE
theorem alive23 : AEq Tryd.prog 22 [] [] (bl true) [] := by
  have h1 := w5_len
  have h2 := w190_len
  have h3 := w191_len
  have h4 := wantL_len
  have h5 := wantL_sum
  have h6 := wantL_size
  have h7 := xsE_len
  have h8 := xsE_sum
  have h9 := xsE_size
  have e1 := w5_dec
  have e2 := w190_dec
  have e3 := w191_dec
  have e12 : (12 : Int) ≠ 0 := by decide
  refine acall_body Tryd.func22 rfl Tryd.ntmps22 (by simp) (fun hsc => ?_); simp only [Lf.enter, Nat.reduceAdd]; clear hsc
  have hU := True.intro
  repeat' (first | (guard_target =~ PWp _ _ _ _ _ _ _; first | (refine pwp_seq_k (fun K hK => ?_)) | (refine pwp_rg_then ?_) | (refine pwp_ret ?_)) | (guard_target =~ rg _ _ _ _ _ _ _; first | (guard_target =~ rg _ _ _ (⟨_, .move _, _, _, _, some _⟩ :: _) _ _ _; first | (refine rg_gtp rfl (h := ?_)) | (refine rg_gt rfl (h := ?_))) | (guard_target =~ rg _ _ _ (⟨_, .binOp _ _ _ _ _, _, _, _, some _⟩ :: _) _ _ _; first | (refine rg_gtp rfl (h := ?_)) | (refine rg_gt rfl (h := ?_))) | (guard_target =~ rg _ _ _ (⟨_, .load _ _, _, _, _, some _⟩ :: _) _ _ _; first | (refine rg_gtp rfl (h := ?_)) | (refine rg_gt rfl (h := ?_))) | (guard_target =~ rg _ _ _ (⟨_, .call ⟨.value (.func 27), _, _⟩, _, _, _, some _⟩ :: _) _ _ _; first | (refine rg_gtp rfl (h := ?_)) | (refine rg_gt rfl (h := ?_))) | (guard_target =~ rg _ _ _ (⟨_, .fieldAddr _ _ _, _, _, _, some _⟩ :: _) _ _ _; first | (refine rg_gtp rfl (h := ?_)) | (refine rg_gt rfl (h := ?_))) | (guard_target =~ rg _ _ _ (⟨_, .call ⟨.value (.func 30), _, _⟩, _, _, _, some _⟩ :: _) _ _ _; first | (refine rg_gtp rfl (h := ?_)) | (refine rg_gt rfl (h := ?_))) | (guard_target =~ rg _ _ _ [] _ _ _; first | (refine rg_end ?_)) | (refine rg_a rfl (h := ?_)) | (refine rg_x rfl (hy := rfl) (h := ?_)) | (refine rg_v rfl (h := ?_)) | (refine rg_s rfl ?_) | (refine rg_n rfl ?_)) | (guard_target =~ SOp _ _ _ _ _ _; first | (guard_target =~ SOp _ _ ⟨_, .buildSlice _ _ _, _, _, _, none⟩ _ _ _; first | (refine n_lit (xs := List.map (byteA) (w5)) rfl (he := by first | exact eo3 | exact eo4 | exact eo5 | exact eo9 | exact eo22 | exact eo28 | exact eo46 | exact eo50 | exact eo53 | exact eo55 | exact eo67 | exact eo69 | exact eo71 | exact eo112 | fail) (hc := by first | rfl | assumption | (simp (disch := omega) only [go_sem, seval, ↓reduceIte, hU]; rfl)) (hK := ?_)) | (refine n_lit (xs := List.map (byteA) (w190)) rfl (he := by first | exact eo3 | exact eo4 | exact eo5 | exact eo9 | exact eo22 | exact eo28 | exact eo46 | exact eo50 | exact eo53 | exact eo55 | exact eo67 | exact eo69 | exact eo71 | exact eo112 | fail) (hc := by first | rfl | assumption | (simp (disch := omega) only [go_sem, seval, ↓reduceIte, hU]; rfl)) (hK := ?_)) | (refine n_lit (xs := List.map (byteA) (w191)) rfl (he := by first | exact eo3 | exact eo4 | exact eo5 | exact eo9 | exact eo22 | exact eo28 | exact eo46 | exact eo50 | exact eo53 | exact eo55 | exact eo67 | exact eo69 | exact eo71 | exact eo112 | fail) (hc := by first | rfl | assumption | (simp (disch := omega) only [go_sem, seval, ↓reduceIte, hU]; rfl)) (hK := ?_)) | (refine n_lit (xs := List.map (flA) (wantL)) rfl (he := by first | exact eo3 | exact eo4 | exact eo5 | exact eo9 | exact eo22 | exact eo28 | exact eo46 | exact eo50 | exact eo53 | exact eo55 | exact eo67 | exact eo69 | exact eo71 | exact eo112 | fail) (hc := by first | rfl | assumption | (simp (disch := omega) only [go_sem, seval, ↓reduceIte, hU]; rfl)) (hK := ?_))) | (guard_target =~ SOp _ _ ⟨_, .alloc _, _, _, _, none⟩ _ _ _; first | (refine n_alloc rfl (by first | exact zv3 | exact zv4 | exact zv5 | exact zv9 | exact zv22 | exact zv28 | exact zv46 | exact zv50 | exact zv53 | exact zv55 | exact zv67 | exact zv69 | exact zv71 | exact zv112 | fail) (hK := ?_))) | (guard_target =~ SOp _ _ ⟨_, .call ⟨.value (.func 25), _, _⟩, _, _, _, none⟩ _ _ _; first | (refine n_call (f := 25) rfl Tryd.call25 (h := AEq.sub' [_, _, _] (hc := dec_no _ _ _ _ _ _ (by first | assumption | omega) (by first | assumption | omega) (by first | assumption | omega) (by first | assumption | omega) (by first | assumption | omega) (by first | assumption | omega) _ _ (by first | assumption | omega) (by first | assumption | omega)) (hq := ?_))) | (refine n_call (f := 25) rfl Tryd.call25 (h := AEq.sub' [_, _, _] (hc := dec_ok _ _ _ _ _ _ (by first | assumption | omega) (by first | assumption | omega) (by first | assumption | omega) (by first | assumption | omega) (by first | assumption | omega) (by first | assumption | omega) _ (by first | assumption | omega)) (hq := ?_)))) | (guard_target =~ SOp _ _ ⟨_, .store _ _ _, _, _, _, none⟩ _ _ _; first | (refine n_store rfl (hK := ?_))) | (guard_target =~ SOp _ _ ⟨_, .call ⟨.value (.func 27), _, _⟩, _, _, _, some _⟩ _ _ _; first | (refine n_call (f := 27) rfl Tryd.call27 (h := AEq.pure' (by first | ((repeat' (first | exact trivial | (first | exact arg_lit | exact arg_sl id id | exact arg_nil | exact arg_sl (by simp) id | exact arg_sl (by simp) (fun _ => rfl) | exact arg_row_m (by rfl) (by rfl) (fun _ => rfl) | exact arg_vw_m (by rfl) (by rfl) (fun _ => rfl) | exact arg_rn (by rfl) (by rfl) | exact arg_junk | exact arg_row_mm (by rfl) (by rfl) (fun _ => rfl)) | refine ⟨?_, ?_⟩)); done) | fail) (r_same _ _ _ _ _ (by first | assumption | omega)) (hq := ?_)))) | (guard_target =~ SOp _ _ ⟨_, .call ⟨.value (.func 30), _, _⟩, _, _, _, some _⟩ _ _ _; first | (refine n_call (f := 30) rfl Tryd.call30 (h := AEq.sub' [_, _, _] (hc := dsize _ _ _ _) (hq := ?_)))) | (guard_target =~ SOp _ _ ⟨_, .call ⟨.value (.func 23), _, _⟩, _, _, _, none⟩ _ _ _; first | (refine n_call (f := 23) rfl Tryd.call23 (h := AEq.sub' [] (hc := dnew_ok _ (by first | assumption | omega) (by first | assumption | omega)) (hq := ?_)))) | (guard_target =~ SOp _ _ ⟨_, .build _ _, _, _, _, none⟩ _ _ _; first | (refine n_build rfl (by first | exact bd55 | exact bd67 | exact bd71 | exact bd112 | fail) (hK := ?_)))) | (guard_target =~ (_ ∨ _) ∧ _; first | ((refine end_d [] (by rw [Tryd.results22, Lf.res1]) (ale_1 ?_) ?_) <;> (try (first | exact ale_eq (by with_reducible rfl) | exact ale_full | exact ale_sl (fun _ => rfl) | exact ale_sl (by simp) | exact ale_junk | exact ale_eq rfl | exact stq (by with_reducible rfl) | exact stq (by rfl) | exact stq (by simp (disch := omega) only [go_sem, seval, ↓reduceIte, hU]))))) | (refine hK _ _ ?_; clear hK K))
  all_goals first | exact ale_bl (by simp [h5]) | trace_state
end Go.Proofs.YtohbfcmmpaikhaaDoor

set_option linter.unusedVariables false
set_option linter.unusedSimpArgs false
namespace Go.Proofs.YtohbfcmmpaikhaaDoor
open Go Go.Lf Go.Proofs
attribute [local irreducible] Lf.rg Lf.ro Lf.PWp Lf.SOp Lf.ACall Lf.Scoped Lf.dg Lf.dw
set_option maxRecDepth 20000
set_option maxHeartbeats 4000000
def lastOf (S : List Int) (m0 : Int) : Int := match S[S.length - 1]? with | some z => z | none => m0
theorem lastOf_sn (S : List Int) (z m0 : Int) : lastOf (snI S z) m0 = z := by
  unfold lastOf snI
  rw [List.length_append, List.length_singleton, Nat.add_sub_cancel, List.getElem?_append_right (Nat.le_refl _), Nat.sub_self]; rfl
theorem dStep_max {q q' : DQ} {r : Rp} {m0 : Int} (hq : q.t.m = lastOf q.S m0) (h : dStep q r = (q', 0)) : q'.t.m = lastOf q'.S m0 := by
  obtain ⟨F, S, t⟩ := q
  dsimp only at hq
  by_cases h5 : r.k = 5
  · by_cases h0 : 0 < F.length
    · rw [dStep_upd h5 h0] at h
      have h9 : (13 : Int) = 0 := congrArg Prod.snd h
      exact absurd h9 (by decide)
    · rw [dStep_res h5 h0] at h
      obtain rfl := (Prod.mk.inj h).1
      dsimp only
      rw [lastOf_sn]
  · cases hg : fG t.xs r with
    | none =>
      rw [dStep_no h5 hg] at h
      have h9 : (12 : Int) = 0 := congrArg Prod.snd h
      exact absurd h9 (by decide)
    | some g =>
      by_cases h2 : r.k = 2
      · rw [dStep_2 h2 hg] at h
        obtain rfl := (Prod.mk.inj h).1
        dsimp only
        by_cases hw : wt (fV r g) ≤ t.m
        · rw [addT_y hw]; exact hq
        · rw [addT_n hw]; exact hq
      · rw [dStep_f h5 h2 hg] at h
        obtain rfl := (Prod.mk.inj h).1
        exact hq
theorem decM_max {m0 : Int} : ∀ (n : Nat) (b : List UInt8) (q Q : DQ), b.length ≤ n → q.t.m = lastOf q.S m0 → decM n b q = (Q, 0) → Q.t.m = lastOf Q.S m0
  | n, b, q, Q, hn, hq, h => by
    by_cases hlt : b.length = 0
    · rw [decM_nil hlt] at h
      obtain rfl := (Prod.mk.inj h).1
      exact hq
    cases n with
    | zero => omega
    | succ n =>
      by_cases he0 : (rgM b).e ≠ 0
      · rw [decM_e hlt he0] at h; exact absurd (congrArg Prod.snd h) he0
      have he : (rgM b).e = 0 := by omega
      rcases rg_right b with ⟨h1, _⟩ | ⟨_, hP, hM0, hM1⟩
      · exact absurd he h1
      obtain ⟨⟨q', e⟩, hs⟩ : ∃ p, dStep q (rgM b) = p := ⟨_, rfl⟩
      by_cases hee : e = 0
      · subst hee
        obtain ⟨a, ha⟩ : ∃ j : Nat, (rgM b).n = j := ⟨(rgM b).n.toNat, by omega⟩
        rw [decM_r hlt he ha hs] at h
        have hdl : (b.drop a).length = b.length - a := List.length_drop
        exact decM_max n (b.drop a) q' Q (by omega) (dStep_max hq hs) h
      · rw [decM_s hlt he hs hee] at h; exact absurd (congrArg Prod.snd h) hee
theorem lastOf_ss0 (m : Int) : m = lastOf ss0 m := rfl
theorem sumW_one (f : Fl) : sumW [f] = wt f := by simp only [sumW]; omega
theorem sumW_tk {R : List Fl} {j : Nat} {x : Fl} (h : R[j]? = some x) : sumW (R.take (j + 1)) = sumW (R.take j) + wt x := by rw [dtake_snoc h, sumW_app, sumW_one]
theorem sumW_take_le (R : List Fl) (j : Nat) : sumW (R.take j) ≤ sumW R := by
  have h := sumW_app (R.take j) (R.drop j)
  rw [List.take_append_drop] at h
  have := (sumW_pos (R.drop j)).1
  omega
theorem sumW_take0 (R : List Fl) : sumW (R.take 0) = 0 := rfl
structure LT where
  (i s : Nat) (xs : List Fl) (m : Int)
attribute [local irreducible] wt sumW decM xs0 ss0 xsE
set_option maxRecDepth 20000 in
theorem law_dcbounds (mx : Int) (f : Bool) (l : List (List UInt8)) (h : l.length ≤ 9223372036854775807) (hb : ∀ b ∈ l, b.length ≤ 9223372036854775807) : AEq Tryd.prog 7 [i64 mx, .sl f false (l.map blA)] [] (bl true) [] := by
  cases hLg : lgB l with
  | true =>
    refine acall_body Tryd.func7 rfl Tryd.ntmps7 (by simp) (fun hsc => ?_); simp only [Lf.enter, Nat.reduceAdd]; clear hsc
    have hU := @hLg
    repeat' (first | (guard_target =~ PWp _ _ _ _ _ _ _; first | (refine pwp_seq_k (fun K hK => ?_)) | (refine pwp_rg_then ?_) | (refine pwp_ret ?_) | ((refine pwp_cond_d (fun hcd => ?_) (fun hcd => ?_)) <;> (try simp only [hcP] at hcd) <;> (try (exfalso; first | omega | exact absurd hcd (by assumption) | exact absurd (by assumption) hcd)))) | (guard_target =~ rg _ _ _ _ _ _ _; first | (guard_target =~ rg _ _ _ [] _ _ _; first | (refine rg_end ?_)) | (refine rg_a rfl (h := ?_)) | (refine rg_v rfl (h := ?_)) | (refine rg_s rfl ?_)) | (guard_target =~ SOp _ _ _ _ _ _; first | (guard_target =~ SOp _ _ ⟨_, .call ⟨.value (.func 22), _, _⟩, _, _, _, none⟩ _ _ _; first | (refine n_call (f := 22) rfl Tryd.call22 (h := AEq.pure' (by first | ((repeat' (first | exact trivial | (first | exact arg_lit | exact arg_sl id id | exact arg_nil | exact arg_sl (by simp) id | exact arg_sl (by simp) (fun _ => rfl) | exact arg_row_m (by rfl) (by rfl) (fun _ => rfl) | exact arg_vw_m (by rfl) (by rfl) (fun _ => rfl) | exact arg_rn (by rfl) (by rfl) | exact arg_junk | exact arg_row_mm (by rfl) (by rfl) (fun _ => rfl)) | refine ⟨?_, ?_⟩)); done) | fail) alive23 (hq := ?_)))) | (guard_target =~ SOp _ _ ⟨_, .call ⟨.value (.func 21), _, _⟩, _, _, _, none⟩ _ _ _; first | (refine n_call (f := 21) rfl Tryd.call21 (h := AEq.pure' (by first | ((repeat' (first | exact trivial | (first | exact arg_lit | exact arg_sl id id | exact arg_nil | exact arg_sl (by simp) id | exact arg_sl (by simp) (fun _ => rfl) | exact arg_row_m (by rfl) (by rfl) (fun _ => rfl) | exact arg_vw_m (by rfl) (by rfl) (fun _ => rfl) | exact arg_rn (by rfl) (by rfl) | exact arg_junk | exact arg_row_mm (by rfl) (by rfl) (fun _ => rfl)) | refine ⟨?_, ?_⟩)); done) | fail) (lgB_is _ _ (by assumption) (by assumption)) (hq := ?_))))) | (guard_target =~ (_ ∨ _) ∧ _; first | ((refine end_d [] (by rw [Tryd.results7, Lf.res1]) (ale_1 ?_) ?_) <;> (try (first | exact ale_eq (by with_reducible rfl) | exact ale_full | exact ale_sl (fun _ => rfl) | exact ale_sl (by simp) | exact ale_junk | exact ale_eq rfl | exact stq (by with_reducible rfl) | exact stq (by rfl) | exact stq (by simp (disch := omega) only [go_sem, seval, ↓reduceIte, hU]))))) | (refine hK _ _ ?_; clear hK K))
    all_goals trace_state
  | false =>
  obtain ⟨hl60, hbd⟩ := lgB_no hLg
  by_cases hm : mx < 0 ∨ 2147483647 < mx
  · skip
    refine acall_body Tryd.func7 rfl Tryd.ntmps7 (by simp) (fun hsc => ?_); simp only [Lf.enter, Nat.reduceAdd]; clear hsc
    have hU := @hLg
    repeat' (first | (guard_target =~ PWp _ _ _ _ _ _ _; first | (refine pwp_seq_k (fun K hK => ?_)) | (refine pwp_rg_then ?_) | (refine pwp_ret ?_) | (refine pwp_skip ?_) | ((refine pwp_cond_d (fun hcd => ?_) (fun hcd => ?_)) <;> (try simp only [hcP] at hcd) <;> (try (exfalso; first | omega | exact absurd hcd (by assumption) | exact absurd (by assumption) hcd)))) | (guard_target =~ rg _ _ _ _ _ _ _; first | (guard_target =~ rg _ _ _ [] _ _ _; first | (refine rg_end ?_)) | (refine rg_a rfl (h := ?_)) | (refine rg_x rfl (hy := rfl) (h := ?_)) | (refine rg_v rfl (h := ?_)) | (refine rg_s rfl ?_)) | (guard_target =~ SOp _ _ _ _ _ _; first | (guard_target =~ SOp _ _ ⟨_, .call ⟨.value (.func 22), _, _⟩, _, _, _, none⟩ _ _ _; first | (refine n_call (f := 22) rfl Tryd.call22 (h := AEq.pure' (by first | ((repeat' (first | exact trivial | (first | exact arg_lit | exact arg_sl id id | exact arg_nil | exact arg_sl (by simp) id | exact arg_sl (by simp) (fun _ => rfl) | exact arg_row_m (by rfl) (by rfl) (fun _ => rfl) | exact arg_vw_m (by rfl) (by rfl) (fun _ => rfl) | exact arg_rn (by rfl) (by rfl) | exact arg_junk | exact arg_row_mm (by rfl) (by rfl) (fun _ => rfl)) | refine ⟨?_, ?_⟩)); done) | fail) alive23 (hq := ?_)))) | (guard_target =~ SOp _ _ ⟨_, .call ⟨.value (.func 23), _, _⟩, _, _, _, none⟩ _ _ _; first | (refine n_call (f := 23) rfl Tryd.call23 (h := AEq.pure' (by first | ((repeat' (first | exact trivial | (first | exact arg_lit | exact arg_sl id id | exact arg_nil | exact arg_sl (by simp) id | exact arg_sl (by simp) (fun _ => rfl) | exact arg_row_m (by rfl) (by rfl) (fun _ => rfl) | exact arg_vw_m (by rfl) (by rfl) (fun _ => rfl) | exact arg_rn (by rfl) (by rfl) | exact arg_junk | exact arg_row_mm (by rfl) (by rfl) (fun _ => rfl)) | refine ⟨?_, ?_⟩)); done) | fail) (dnew_no _ (by assumption)) (hq := ?_)))) | (guard_target =~ SOp _ _ ⟨_, .call ⟨.value (.func 21), _, _⟩, _, _, _, none⟩ _ _ _; first | (refine n_call (f := 21) rfl Tryd.call21 (h := AEq.pure' (by first | ((repeat' (first | exact trivial | (first | exact arg_lit | exact arg_sl id id | exact arg_nil | exact arg_sl (by simp) id | exact arg_sl (by simp) (fun _ => rfl) | exact arg_row_m (by rfl) (by rfl) (fun _ => rfl) | exact arg_vw_m (by rfl) (by rfl) (fun _ => rfl) | exact arg_rn (by rfl) (by rfl) | exact arg_junk | exact arg_row_mm (by rfl) (by rfl) (fun _ => rfl)) | refine ⟨?_, ?_⟩)); done) | fail) (lgB_is _ _ (by assumption) (by assumption)) (hq := ?_))))) | (guard_target =~ (_ ∨ _) ∧ _; first | ((refine end_d [] (by rw [Tryd.results7, Lf.res1]) (ale_1 ?_) ?_) <;> (try (first | exact ale_eq (by with_reducible rfl) | exact ale_full | exact ale_sl (fun _ => rfl) | exact ale_sl (by simp) | exact ale_junk | exact ale_eq rfl | exact stq (by with_reducible rfl) | exact stq (by rfl) | exact stq (by simp (disch := omega) only [go_sem, seval, ↓reduceIte, hU]))))) | (refine hK _ _ ?_; clear hK K))
    all_goals trace_state
  have hm0 : 0 ≤ mx := by omega
  have hm1 : mx ≤ 2147483647 := by omega
  refine acall_body Tryd.func7 rfl Tryd.ntmps7 (by simp) (fun hsc => ?_); simp only [Lf.enter, Nat.reduceAdd]; clear hsc
  have hU := @hLg
  repeat' (first | (guard_target =~ PWp _ _ _ _ _ _ _; first | (refine pwp_seq_k (fun K hK => ?_)) | (refine pwp_block ?_) | (refine pwp_rg_then ?_) | (refine pwp_skip ?_) | ((refine pwp_cond_d (fun hcd => ?_) (fun hcd => ?_)) <;> (try simp only [hcP] at hcd) <;> (try (exfalso; first | omega | exact absurd hcd (by assumption) | exact absurd (by assumption) hcd)))) | (guard_target =~ rg _ _ _ _ _ _ _; first | (guard_target =~ rg _ _ _ [] _ _ _; first | (refine rg_end ?_)) | (refine rg_a rfl (h := ?_)) | (refine rg_x rfl (hy := rfl) (h := ?_)) | (refine rg_v rfl (h := ?_)) | (refine rg_s rfl ?_)) | (guard_target =~ SOp _ _ _ _ _ _; first | (guard_target =~ SOp _ _ ⟨_, .call ⟨.value (.func 23), _, _⟩, _, _, _, none⟩ _ _ _; first | (refine n_call (f := 23) rfl Tryd.call23 (h := AEq.sub' [] (hc := dnew_ok _ (by assumption) (by assumption)) (hq := ?_)))) | (guard_target =~ SOp _ _ ⟨_, .call ⟨.value (.func 21), _, _⟩, _, _, _, none⟩ _ _ _; first | (refine n_call (f := 21) rfl Tryd.call21 (h := AEq.pure' (by first | ((repeat' (first | exact trivial | (first | exact arg_lit | exact arg_sl id id | exact arg_nil | exact arg_sl (by simp) id | exact arg_sl (by simp) (fun _ => rfl) | exact arg_row_m (by rfl) (by rfl) (fun _ => rfl) | exact arg_vw_m (by rfl) (by rfl) (fun _ => rfl) | exact arg_rn (by rfl) (by rfl) | exact arg_junk | exact arg_row_mm (by rfl) (by rfl) (fun _ => rfl)) | refine ⟨?_, ?_⟩)); done) | fail) (lgB_is _ _ (by assumption) (by assumption)) (hq := ?_))))) | (refine hK _ _ ?_; clear hK K))
  refine pwp_loop_k [4, 7, 9, 10, 11, 12, 14, 29, 30, 31, 32, 33, 34, 35, 36, 37, 38, 39, 40, 41, 42, 43, 44, 45, 46, 47, 48, 49, 50, 51, 52, 53, 54, 55, 56, 57, 58, 59, 60, 61, 62, 63, 64, 65, 66, 67, 68, 69, 70, 71, 72, 73, 74, 75, 76, 77, 78, 79, 80, 81, 82] (fun q : LT => [(29, i64 q.i), (7, i64 q.m)]) (fun q => [.box [.row 1 q.s, i64 (sumW q.xs), i64 q.m], .row q.s 67 3 (q.xs.map flA), .box [.ptr 0 0]]) (fun q => q.i ≤ l.length ∧ q.xs.length ≤ 120 * q.i ∧ TOk ⟨q.xs, q.s, q.m⟩) (fun q => l.length - q.i) ⟨0, 0, xsE, mx⟩ ⟨Nat.zero_le _, by rw [xsE_len]; exact Nat.zero_le _, ⟨by dsimp only; rw [xsE_sum]; exact hm0, hm0, hm1, xsE_size⟩⟩ ?_ rfl ?_
  · have hU := True.intro
    (refine ⟨⟨_, (by (try simp (disch := omega) only [go_sem, seval, ↓reduceIte, hU]) <;> rfl), ?_⟩, ⟨_, (by (try simp (disch := omega) only [go_sem, seval, ↓reduceIte, hU]) <;> rfl), ?_⟩, trivial⟩ <;> (try (first | exact ale_eq (by with_reducible rfl) | exact ale_full | exact ale_sl (fun _ => rfl) | exact ale_sl (by simp) | exact ale_junk | exact ale_eq rfl)))
  · rintro ⟨i, s, xs, m⟩ ⟨hi, hxi, hok⟩
    have hok2 := hok
    obtain ⟨hS, h0, h1, hbb⟩ := hok2
    dsimp only at hi hxi hS h0 h1 hbb ⊢
    simp only [mask, List.map_cons, List.map_nil, List.cons_append, List.nil_append]
    by_cases hlt : i < l.length
    rotate_left
    · have hU := True.intro
      repeat' (first | (guard_target =~ PWp _ _ _ _ _ _ _; first | (refine pwp_seq_k (fun K hK => ?_)) | (refine pwp_rg_then ?_) | (refine pwp_ret ?_) | (refine pwp_exit ?_) | ((refine pwp_cond_d (fun hcd => ?_) (fun hcd => ?_)) <;> (try simp only [hcP] at hcd) <;> (try (exfalso; first | omega | exact absurd hcd (by assumption) | exact absurd (by assumption) hcd)))) | (guard_target =~ rg _ _ _ _ _ _ _; first | (guard_target =~ rg _ _ _ [] _ _ _; first | (refine rg_end ?_)) | (refine rg_a rfl (h := ?_)) | (refine rg_v rfl (h := ?_)) | (refine rg_s rfl ?_)) | (guard_target =~ SOp _ _ _ _ _ _; first | (guard_target =~ SOp _ _ ⟨_, .call ⟨.value (.func 22), _, _⟩, _, _, _, none⟩ _ _ _; first | (refine n_call (f := 22) rfl Tryd.call22 (h := AEq.pure' (by first | ((repeat' (first | exact trivial | (first | exact arg_lit | exact arg_sl id id | exact arg_nil | exact arg_sl (by simp) id | exact arg_sl (by simp) (fun _ => rfl) | exact arg_row_m (by rfl) (by rfl) (fun _ => rfl) | exact arg_vw_m (by rfl) (by rfl) (fun _ => rfl) | exact arg_rn (by rfl) (by rfl) | exact arg_junk | exact arg_row_mm (by rfl) (by rfl) (fun _ => rfl)) | refine ⟨?_, ?_⟩)); done) | fail) alive23 (hq := ?_))))) | (guard_target =~ (_ ∨ _) ∧ _; first | ((refine end_d [] (by rw [Tryd.results7, Lf.res1]) (ale_1 ?_) ?_) <;> (try (first | exact ale_eq (by with_reducible rfl) | exact ale_full | exact ale_sl (fun _ => rfl) | exact ale_sl (by simp) | exact ale_junk | exact ale_eq rfl | exact stq (by with_reducible rfl) | exact stq (by rfl) | exact stq (by simp (disch := omega) only [go_sem, seval, ↓reduceIte, hU]))))) | (refine hK _ _ ?_; clear hK K) | (apply_assumption (exfalso := false) (symm := false)))
      all_goals trace_state
    obtain ⟨b, hb1⟩ := ex_at hlt
    have hb2 := hbd b (List.mem_of_getElem? hb1)
    obtain ⟨⟨⟨F, S, ⟨xt, st, mt⟩⟩, E⟩, htot⟩ : ∃ p, decM b.length b ⟨xs0, ss0, ⟨xs, 0, m⟩⟩ = p := ⟨_, rfl⟩
    by_cases hE : E = 0
    · subst hE
      obtain ⟨⟨i1, i2, i3, i4⟩, j2, j3, j4⟩ := decM_inv b.length b ⟨xs0, ss0, ⟨xs, 0, m⟩⟩ _ (Nat.le_refl _) (by omega) ⟨hS, h0, h1, hbb⟩ htot
      have hmx := decM_max (m0 := m) b.length b ⟨xs0, ss0, ⟨xs, 0, m⟩⟩ _ (Nat.le_refl _) (lastOf_ss0 m) htot
      dsimp only at i1 i2 i3 i4 j2 j3 j4 hmx
      rw [xs0_len] at j3
      rw [ss0_len] at j4
      by_cases hSl : S.length = 0
      · have hmt : mt = m := by rw [hmx]; unfold lastOf; rw [List.getElem?_eq_none (by omega)]
        subst hmt
        have hU := True.intro
        repeat' (first | (guard_target =~ PWp _ _ _ _ _ _ _; first | (refine pwp_seq_k (fun K hK => ?_)) | (refine pwp_block ?_) | (refine pwp_rg_then ?_) | (refine pwp_skip ?_) | ((refine pwp_cond_d (fun hcd => ?_) (fun hcd => ?_)) <;> (try simp only [hcP] at hcd) <;> (try (exfalso; first | omega | exact absurd hcd (by assumption) | exact absurd (by assumption) hcd)))) | (guard_target =~ rg _ _ _ _ _ _ _; first | (guard_target =~ rg _ _ _ (⟨_, .move _, _, _, _, some _⟩ :: _) _ _ _; first | (refine rg_gtp rfl (h := ?_))) | (guard_target =~ rg _ _ _ (⟨_, .binOp _ _ _ _ _, _, _, _, some _⟩ :: _) _ _ _; first | (refine rg_gtp rfl (h := ?_))) | (guard_target =~ rg _ _ _ (⟨_, .fieldAddr _ _ _, _, _, _, some _⟩ :: _) _ _ _; first | (refine rg_gtp rfl (h := ?_))) | (guard_target =~ rg _ _ _ (⟨_, .call ⟨.builtin .len, _, _⟩, _, _, _, some _⟩ :: _) _ _ _; first | (refine rg_gtp rfl (h := ?_))) | (guard_target =~ rg _ _ _ (⟨_, .load _ _, _, _, _, some _⟩ :: _) _ _ _; first | (refine rg_gtp rfl (h := ?_))) | (guard_target =~ rg _ _ _ (⟨_, .call ⟨.value (.func 30), _, _⟩, _, _, _, some _⟩ :: _) _ _ _; first | (refine rg_gtp rfl (h := ?_))) | (guard_target =~ rg _ _ _ [] _ _ _; first | (refine rg_end ?_)) | (refine rg_a rfl (h := ?_)) | (refine rg_x rfl (hy := rfl) (h := ?_)) | (refine rg_v rfl (h := ?_)) | (refine rg_s rfl ?_) | (refine rg_n rfl ?_)) | (guard_target =~ SOp _ _ _ _ _ _; first | (guard_target =~ SOp _ _ ⟨_, .indexAddr _ _ _, _, _, _, none⟩ _ _ _; first | (refine n_index rfl (hK := ?_))) | (guard_target =~ SOp _ _ ⟨_, .store _ _ _, _, _, _, none⟩ _ _ _; first | (refine n_store rfl (hK := ?_))) | (guard_target =~ SOp _ _ ⟨_, .alloc _, _, _, _, none⟩ _ _ _; first | (refine n_alloc rfl (by first | exact zv3 | exact zv4 | exact zv5 | exact zv9 | exact zv22 | exact zv28 | exact zv44 | exact zv46 | exact zv50 | exact zv53 | exact zv55 | exact zv67 | exact zv69 | exact zv71 | exact zv112 | fail) (hK := ?_))) | (guard_target =~ SOp _ _ ⟨_, .call ⟨.value (.func 25), _, _⟩, _, _, _, none⟩ _ _ _; first | (refine n_call (f := 25) rfl Tryd.call25 (h := AEq.sub' [_, _, _] (hc := dec_ok _ _ _ _ _ _ (by first | assumption | omega) (by first | assumption | omega) (by first | assumption | omega) (by first | assumption | omega) (by first | assumption | omega) (by first | assumption | omega) _ (by first | assumption | omega)) (hq := ?_)))) | (guard_target =~ SOp _ _ ⟨_, .call ⟨.value (.func 32), _, _⟩, _, _, _, none⟩ _ _ _; first | (refine n_call (f := 32) rfl Tryd.call32 (h := AEq.sub' [_, _, _] (hc := dall _ _ _ _ (by first | assumption | omega)) (hq := ?_))))) | (refine hK _ _ ?_; clear hK K))
        have hrl : xt.reverse.length = xt.length := List.length_reverse
        have hrs := sumW_rev xt
        refine pwp_loop_k [12, 14, 58, 59, 60, 61, 62, 63, 64, 65, 66] (fun j : Nat => [(58, i64 j), (12, i64 (sumW (xt.reverse.take j)))]) (fun j => [.box [.row 1 s, i64 (sumW xs), i64 mt], .row s 67 3 (xs.map flA), .box [.ptr 3 0], .box [.row 4 st, i64 (sumW xt), i64 mt], .row st 67 3 (xt.map flA), .box [.sl false false (F.map flA), .sl false false (S.map intA)]]) (fun j => j ≤ xt.reverse.length) (fun j => xt.reverse.length - j) 0 (Nat.zero_le _) ?_ rfl ?_
        · rw [sumW_take0]
          (refine ⟨⟨_, (by (try simp (disch := omega) only [go_sem, seval, ↓reduceIte, hU]) <;> rfl), ?_⟩, ⟨_, (by (try simp (disch := omega) only [go_sem, seval, ↓reduceIte, hU]) <;> rfl), ?_⟩, trivial⟩ <;> (try (first | exact ale_eq (by with_reducible rfl) | exact ale_full | exact ale_sl (fun _ => rfl) | exact ale_sl (by simp) | exact ale_junk | exact ale_eq rfl)))
          all_goals trace_state
        · rintro j hj
          simp only [mask, List.map_cons, List.map_nil, List.cons_append, List.nil_append]
          by_cases hjl : j < xt.reverse.length
          · obtain ⟨x, hx⟩ := ex_at hjl
            have hxm := i4 x (List.mem_reverse.1 (List.mem_of_getElem? hx))
            have hsn := sumW_tk hx
            have htl := sumW_take_le xt.reverse j
            have htl2 := sumW_take_le xt.reverse (j + 1)
            have htp := (sumW_pos (xt.reverse.take j)).1
            have hwp := wt_pos x
            have hwx : wt ⟨x.n, x.v, x.k⟩ = wt x := rfl
            have hU := @hwx
            repeat' (first | (guard_target =~ PWp _ _ _ _ _ _ _; first | (refine pwp_seq_k (fun K hK => ?_)) | (refine pwp_block ?_) | (refine pwp_rg_then ?_) | (refine pwp_rg ?_) | (refine pwp_skip ?_) | ((refine pwp_cond_d (fun hcd => ?_) (fun hcd => ?_)) <;> (try simp only [hcP] at hcd) <;> (try (exfalso; first | omega | exact absurd hcd (by assumption) | exact absurd (by assumption) hcd)))) | (guard_target =~ rg _ _ _ _ _ _ _; first | (guard_target =~ rg _ _ _ [] _ _ _; first | (refine rg_end ?_)) | (refine rg_a rfl (h := ?_)) | (refine rg_v rfl (h := ?_)) | (refine rg_s rfl ?_) | (refine rg_n rfl ?_)) | (guard_target =~ SOp _ _ _ _ _ _; first | (guard_target =~ SOp _ _ ⟨_, .indexAddr _ _ _, _, _, _, none⟩ _ _ _; first | (refine n_index rfl (hK := ?_))) | (guard_target =~ SOp _ _ ⟨_, .store _ _ _, _, _, _, none⟩ _ _ _; first | (refine n_store rfl (hK := ?_))) | (guard_target =~ SOp _ _ ⟨_, .alloc _, _, _, _, none⟩ _ _ _; first | (refine n_alloc rfl (by first | exact zv3 | exact zv4 | exact zv5 | exact zv9 | exact zv22 | exact zv28 | exact zv44 | exact zv46 | exact zv50 | exact zv53 | exact zv55 | exact zv67 | exact zv69 | exact zv71 | exact zv112 | fail) (hK := ?_))) | (guard_target =~ SOp _ _ ⟨_, .call ⟨.value (.func 33), _, _⟩, _, _, _, none⟩ _ _ _; first | (refine n_call (f := 33) rfl Tryd.call33 (h := AEq.pure' (by first | ((repeat' (first | exact trivial | (first | exact arg_lit | exact arg_sl id id | exact arg_nil | exact arg_sl (by simp) id | exact arg_sl (by simp) (fun _ => rfl) | exact arg_row_m (by rfl) (by rfl) (fun _ => rfl) | exact arg_vw_m (by rfl) (by rfl) (fun _ => rfl) | exact arg_rn (by rfl) (by rfl) | exact arg_junk | exact arg_row_mm (by rfl) (by rfl) (fun _ => rfl)) | refine ⟨?_, ?_⟩)); done) | fail) (r_weight_c _ _ _ (by omega) (by omega)) (hq := ?_))))) | (refine hK _ _ ?_; clear hK K))
            refine ⟨j + 1, [0, 1, 2, 3, 4, 5], by omega, by omega, rfl, ?_, (by repeat' (first | exact agr_refl | refine agr_cons (by rfl) ?_)), ?_⟩
            · have hU := True.intro
              (refine ⟨⟨_, (by (try simp (disch := omega) only [go_sem, seval, ↓reduceIte, hU]) <;> rfl), ?_⟩, ⟨_, (by (try simp (disch := omega) only [go_sem, seval, ↓reduceIte, hU]) <;> rfl), ?_⟩, trivial⟩ <;> (try (first | exact ale_eq (by with_reducible rfl) | exact ale_full | exact ale_sl (fun _ => rfl) | exact ale_sl (by simp) | exact ale_junk | exact ale_eq rfl)))
              all_goals first | exact ale_i (by omega) | trace_state
            · first | rfl | (simp (disch := omega) only [go_sem, seval, ↓reduceIte]; done) | (simp (disch := omega) only [go_sem, seval, ↓reduceIte]; rfl) | trace_state
          · have hje : j = xt.reverse.length := by omega
            subst hje
            have htk : xt.reverse.take xt.reverse.length = xt.reverse := List.take_length
            rw [htk]
            have hU := @hrs
            repeat' (first | (guard_target =~ PWp _ _ _ _ _ _ _; first | (refine pwp_seq_k (fun K hK => ?_)) | (refine pwp_rg_then ?_) | (refine pwp_skip ?_) | (refine pwp_exit ?_) | ((refine pwp_cond_d (fun hcd => ?_) (fun hcd => ?_)) <;> (try simp only [hcP] at hcd) <;> (try (exfalso; first | omega | exact absurd hcd (by assumption) | exact absurd (by assumption) hcd)))) | (guard_target =~ rg _ _ _ _ _ _ _; first | (guard_target =~ rg _ _ _ (⟨_, .move _, _, _, _, some _⟩ :: _) _ _ _; first | (refine rg_gtp rfl (h := ?_)) | (refine rg_gt rfl (h := ?_))) | (guard_target =~ rg _ _ _ (⟨_, .binOp _ _ _ _ _, _, _, _, some _⟩ :: _) _ _ _; first | (refine rg_gtp rfl (h := ?_)) | (refine rg_gt rfl (h := ?_))) | (guard_target =~ rg _ _ _ (⟨_, .fieldAddr _ _ _, _, _, _, some _⟩ :: _) _ _ _; first | (refine rg_gtp rfl (h := ?_)) | (refine rg_gt rfl (h := ?_))) | (guard_target =~ rg _ _ _ (⟨_, .call ⟨.builtin .len, _, _⟩, _, _, _, some _⟩ :: _) _ _ _; first | (refine rg_gtp rfl (h := ?_)) | (refine rg_gt rfl (h := ?_))) | (guard_target =~ rg _ _ _ (⟨_, .load _ _, _, _, _, some _⟩ :: _) _ _ _; first | (refine rg_gtp rfl (h := ?_)) | (refine rg_gt rfl (h := ?_))) | (guard_target =~ rg _ _ _ (⟨_, .call ⟨.value (.func 30), _, _⟩, _, _, _, some _⟩ :: _) _ _ _; first | (refine rg_gtp rfl (h := ?_)) | (refine rg_gt rfl (h := ?_))) | (guard_target =~ rg _ _ _ [] _ _ _; first | (refine rg_end ?_)) | (refine rg_v rfl (h := ?_)) | (refine rg_s rfl ?_)) | (guard_target =~ SOp _ _ _ _ _ _; first | (guard_target =~ SOp _ _ ⟨_, .call ⟨.value (.func 29), _, _⟩, _, _, _, none⟩ _ _ _; first | (refine n_call (f := 29) rfl Tryd.call29 (h := AEq.sub' [_, _, _] (hc := dmax _ _ _ _) (hq := ?_)))) | (guard_target =~ SOp _ _ ⟨_, .call ⟨.value (.func 30), _, _⟩, _, _, _, some _⟩ _ _ _; first | (refine n_call (f := 30) rfl Tryd.call30 (h := AEq.sub' [_, _, _] (hc := dsize _ _ _ _) (hq := ?_))))) | (refine hK _ _ ?_; clear hK K) | (apply_assumption (exfalso := false) (symm := false)))
            refine ⟨⟨i + 1, st, xt, mt⟩, [3, 4, 2], ⟨by dsimp only; omega, by dsimp only; omega, ⟨i1, i2, i3, i4⟩⟩, by dsimp only; omega, rfl, ?_, (by repeat' (first | exact agr_refl | refine agr_cons (by rfl) ?_)), ?_⟩
            · dsimp only
              have hU := True.intro
              (refine ⟨⟨_, (by (try simp (disch := omega) only [go_sem, seval, ↓reduceIte, hU]) <;> rfl), ?_⟩, ⟨_, (by (try simp (disch := omega) only [go_sem, seval, ↓reduceIte, hU]) <;> rfl), ?_⟩, trivial⟩ <;> (try (first | exact ale_eq (by with_reducible rfl) | exact ale_full | exact ale_sl (fun _ => rfl) | exact ale_sl (by simp) | exact ale_junk | exact ale_eq rfl)))
              all_goals trace_state
            · dsimp only
              first | rfl | (simp (disch := omega) only [go_sem, seval, ↓reduceIte]; done) | (simp (disch := omega) only [go_sem, seval, ↓reduceIte]; rfl) | trace_state
      · obtain ⟨z, hz⟩ := ex_at (l := S) (i := S.length - 1) (by omega)
        have hmt : mt = z := by rw [hmx]; unfold lastOf; rw [hz]
        subst hmt
        have hzi : S[((S.length : Int) - 1).toNat]? = some mt := by rw [show ((S.length : Int) - 1).toNat = S.length - 1 from by omega]; exact hz
        have hU := True.intro
        repeat' (first | (guard_target =~ PWp _ _ _ _ _ _ _; first | (refine pwp_seq_k (fun K hK => ?_)) | (refine pwp_block ?_) | (refine pwp_rg_then ?_) | (refine pwp_skip ?_) | ((refine pwp_cond_d (fun hcd => ?_) (fun hcd => ?_)) <;> (try simp only [hcP] at hcd) <;> (try (exfalso; first | omega | exact absurd hcd (by assumption) | exact absurd (by assumption) hcd)))) | (guard_target =~ rg _ _ _ _ _ _ _; first | (guard_target =~ rg _ _ _ (⟨_, .move _, _, _, _, some _⟩ :: _) _ _ _; first | (refine rg_gtp rfl (h := ?_))) | (guard_target =~ rg _ _ _ (⟨_, .binOp _ _ _ _ _, _, _, _, some _⟩ :: _) _ _ _; first | (refine rg_gtp rfl (h := ?_))) | (guard_target =~ rg _ _ _ (⟨_, .fieldAddr _ _ _, _, _, _, some _⟩ :: _) _ _ _; first | (refine rg_gtp rfl (h := ?_))) | (guard_target =~ rg _ _ _ (⟨_, .call ⟨.builtin .len, _, _⟩, _, _, _, some _⟩ :: _) _ _ _; first | (refine rg_gtp rfl (h := ?_))) | (guard_target =~ rg _ _ _ (⟨_, .load _ _, _, _, _, some _⟩ :: _) _ _ _; first | (refine rg_gtp rfl (h := ?_))) | (guard_target =~ rg _ _ _ (⟨_, .call ⟨.value (.func 30), _, _⟩, _, _, _, some _⟩ :: _) _ _ _; first | (refine rg_gtp rfl (h := ?_))) | (guard_target =~ rg _ _ _ [] _ _ _; first | (refine rg_end ?_)) | (refine rg_a rfl (h := ?_)) | (refine rg_x rfl (hy := rfl) (h := ?_)) | (refine rg_v rfl (h := ?_)) | (refine rg_s rfl ?_) | (refine rg_n rfl ?_)) | (guard_target =~ SOp _ _ _ _ _ _; first | (guard_target =~ SOp _ _ ⟨_, .indexAddr _ _ _, _, _, _, none⟩ _ _ _; first | (refine n_index rfl (hK := ?_))) | (guard_target =~ SOp _ _ ⟨_, .store _ _ _, _, _, _, none⟩ _ _ _; first | (refine n_store rfl (hK := ?_))) | (guard_target =~ SOp _ _ ⟨_, .alloc _, _, _, _, none⟩ _ _ _; first | (refine n_alloc rfl (by first | exact zv3 | exact zv4 | exact zv5 | exact zv9 | exact zv22 | exact zv28 | exact zv44 | exact zv46 | exact zv50 | exact zv53 | exact zv55 | exact zv67 | exact zv69 | exact zv71 | exact zv112 | fail) (hK := ?_))) | (guard_target =~ SOp _ _ ⟨_, .call ⟨.value (.func 25), _, _⟩, _, _, _, none⟩ _ _ _; first | (refine n_call (f := 25) rfl Tryd.call25 (h := AEq.sub' [_, _, _] (hc := dec_ok _ _ _ _ _ _ (by first | assumption | omega) (by first | assumption | omega) (by first | assumption | omega) (by first | assumption | omega) (by first | assumption | omega) (by first | assumption | omega) _ (by first | assumption | omega)) (hq := ?_)))) | (guard_target =~ SOp _ _ ⟨_, .call ⟨.value (.func 32), _, _⟩, _, _, _, none⟩ _ _ _; first | (refine n_call (f := 32) rfl Tryd.call32 (h := AEq.sub' [_, _, _] (hc := dall _ _ _ _ (by first | assumption | omega)) (hq := ?_))))) | (refine hK _ _ ?_; clear hK K))
        have hrl : xt.reverse.length = xt.length := List.length_reverse
        have hrs := sumW_rev xt
        refine pwp_loop_k [12, 14, 58, 59, 60, 61, 62, 63, 64, 65, 66] (fun j : Nat => [(58, i64 j), (12, i64 (sumW (xt.reverse.take j)))]) (fun j => [.box [.row 1 s, i64 (sumW xs), i64 m], .row s 67 3 (xs.map flA), .box [.ptr 3 0], .box [.row 4 st, i64 (sumW xt), i64 mt], .row st 67 3 (xt.map flA), .box [.sl false false (F.map flA), .sl false false (S.map intA)]]) (fun j => j ≤ xt.reverse.length) (fun j => xt.reverse.length - j) 0 (Nat.zero_le _) ?_ rfl ?_
        · rw [sumW_take0]
          (refine ⟨⟨_, (by (try simp (disch := omega) only [go_sem, seval, ↓reduceIte, hU]) <;> rfl), ?_⟩, ⟨_, (by (try simp (disch := omega) only [go_sem, seval, ↓reduceIte, hU]) <;> rfl), ?_⟩, trivial⟩ <;> (try (first | exact ale_eq (by with_reducible rfl) | exact ale_full | exact ale_sl (fun _ => rfl) | exact ale_sl (by simp) | exact ale_junk | exact ale_eq rfl)))
          all_goals trace_state
        · rintro j hj
          simp only [mask, List.map_cons, List.map_nil, List.cons_append, List.nil_append]
          by_cases hjl : j < xt.reverse.length
          · obtain ⟨x, hx⟩ := ex_at hjl
            have hxm := i4 x (List.mem_reverse.1 (List.mem_of_getElem? hx))
            have hsn := sumW_tk hx
            have htl := sumW_take_le xt.reverse j
            have htl2 := sumW_take_le xt.reverse (j + 1)
            have htp := (sumW_pos (xt.reverse.take j)).1
            have hwp := wt_pos x
            have hwx : wt ⟨x.n, x.v, x.k⟩ = wt x := rfl
            have hU := @hwx
            repeat' (first | (guard_target =~ PWp _ _ _ _ _ _ _; first | (refine pwp_seq_k (fun K hK => ?_)) | (refine pwp_block ?_) | (refine pwp_rg_then ?_) | (refine pwp_rg ?_) | (refine pwp_skip ?_) | ((refine pwp_cond_d (fun hcd => ?_) (fun hcd => ?_)) <;> (try simp only [hcP] at hcd) <;> (try (exfalso; first | omega | exact absurd hcd (by assumption) | exact absurd (by assumption) hcd)))) | (guard_target =~ rg _ _ _ _ _ _ _; first | (guard_target =~ rg _ _ _ [] _ _ _; first | (refine rg_end ?_)) | (refine rg_a rfl (h := ?_)) | (refine rg_v rfl (h := ?_)) | (refine rg_s rfl ?_) | (refine rg_n rfl ?_)) | (guard_target =~ SOp _ _ _ _ _ _; first | (guard_target =~ SOp _ _ ⟨_, .indexAddr _ _ _, _, _, _, none⟩ _ _ _; first | (refine n_index rfl (hK := ?_))) | (guard_target =~ SOp _ _ ⟨_, .store _ _ _, _, _, _, none⟩ _ _ _; first | (refine n_store rfl (hK := ?_))) | (guard_target =~ SOp _ _ ⟨_, .alloc _, _, _, _, none⟩ _ _ _; first | (refine n_alloc rfl (by first | exact zv3 | exact zv4 | exact zv5 | exact zv9 | exact zv22 | exact zv28 | exact zv44 | exact zv46 | exact zv50 | exact zv53 | exact zv55 | exact zv67 | exact zv69 | exact zv71 | exact zv112 | fail) (hK := ?_))) | (guard_target =~ SOp _ _ ⟨_, .call ⟨.value (.func 33), _, _⟩, _, _, _, none⟩ _ _ _; first | (refine n_call (f := 33) rfl Tryd.call33 (h := AEq.pure' (by first | ((repeat' (first | exact trivial | (first | exact arg_lit | exact arg_sl id id | exact arg_nil | exact arg_sl (by simp) id | exact arg_sl (by simp) (fun _ => rfl) | exact arg_row_m (by rfl) (by rfl) (fun _ => rfl) | exact arg_vw_m (by rfl) (by rfl) (fun _ => rfl) | exact arg_rn (by rfl) (by rfl) | exact arg_junk | exact arg_row_mm (by rfl) (by rfl) (fun _ => rfl)) | refine ⟨?_, ?_⟩)); done) | fail) (r_weight_c _ _ _ (by omega) (by omega)) (hq := ?_))))) | (refine hK _ _ ?_; clear hK K))
            refine ⟨j + 1, [0, 1, 2, 3, 4, 5], by omega, by omega, rfl, ?_, (by repeat' (first | exact agr_refl | refine agr_cons (by rfl) ?_)), ?_⟩
            · have hU := True.intro
              (refine ⟨⟨_, (by (try simp (disch := omega) only [go_sem, seval, ↓reduceIte, hU]) <;> rfl), ?_⟩, ⟨_, (by (try simp (disch := omega) only [go_sem, seval, ↓reduceIte, hU]) <;> rfl), ?_⟩, trivial⟩ <;> (try (first | exact ale_eq (by with_reducible rfl) | exact ale_full | exact ale_sl (fun _ => rfl) | exact ale_sl (by simp) | exact ale_junk | exact ale_eq rfl)))
              all_goals first | exact ale_i (by omega) | trace_state
            · first | rfl | (simp (disch := omega) only [go_sem, seval, ↓reduceIte]; done) | (simp (disch := omega) only [go_sem, seval, ↓reduceIte]; rfl) | trace_state
          · have hje : j = xt.reverse.length := by omega
            subst hje
            have htk : xt.reverse.take xt.reverse.length = xt.reverse := List.take_length
            rw [htk]
            have hU := @hrs
            repeat' (first | (guard_target =~ PWp _ _ _ _ _ _ _; first | (refine pwp_seq_k (fun K hK => ?_)) | (refine pwp_rg_then ?_) | (refine pwp_skip ?_) | (refine pwp_exit ?_) | ((refine pwp_cond_d (fun hcd => ?_) (fun hcd => ?_)) <;> (try simp only [hcP] at hcd) <;> (try (exfalso; first | omega | exact absurd hcd (by assumption) | exact absurd (by assumption) hcd)))) | (guard_target =~ rg _ _ _ _ _ _ _; first | (guard_target =~ rg _ _ _ (⟨_, .move _, _, _, _, some _⟩ :: _) _ _ _; first | (refine rg_gtp rfl (h := ?_)) | (refine rg_gt rfl (h := ?_))) | (guard_target =~ rg _ _ _ (⟨_, .binOp _ _ _ _ _, _, _, _, some _⟩ :: _) _ _ _; first | (refine rg_gtp rfl (h := ?_)) | (refine rg_gt rfl (h := ?_))) | (guard_target =~ rg _ _ _ (⟨_, .fieldAddr _ _ _, _, _, _, some _⟩ :: _) _ _ _; first | (refine rg_gtp rfl (h := ?_)) | (refine rg_gt rfl (h := ?_))) | (guard_target =~ rg _ _ _ (⟨_, .call ⟨.builtin .len, _, _⟩, _, _, _, some _⟩ :: _) _ _ _; first | (refine rg_gtp rfl (h := ?_)) | (refine rg_gt rfl (h := ?_))) | (guard_target =~ rg _ _ _ (⟨_, .load _ _, _, _, _, some _⟩ :: _) _ _ _; first | (refine rg_gtp rfl (h := ?_)) | (refine rg_gt rfl (h := ?_))) | (guard_target =~ rg _ _ _ (⟨_, .call ⟨.value (.func 30), _, _⟩, _, _, _, some _⟩ :: _) _ _ _; first | (refine rg_gtp rfl (h := ?_)) | (refine rg_gt rfl (h := ?_))) | (guard_target =~ rg _ _ _ [] _ _ _; first | (refine rg_end ?_)) | (refine rg_v rfl (h := ?_)) | (refine rg_s rfl ?_)) | (guard_target =~ SOp _ _ _ _ _ _; first | (guard_target =~ SOp _ _ ⟨_, .call ⟨.value (.func 29), _, _⟩, _, _, _, none⟩ _ _ _; first | (refine n_call (f := 29) rfl Tryd.call29 (h := AEq.sub' [_, _, _] (hc := dmax _ _ _ _) (hq := ?_)))) | (guard_target =~ SOp _ _ ⟨_, .call ⟨.value (.func 30), _, _⟩, _, _, _, some _⟩ _ _ _; first | (refine n_call (f := 30) rfl Tryd.call30 (h := AEq.sub' [_, _, _] (hc := dsize _ _ _ _) (hq := ?_))))) | (refine hK _ _ ?_; clear hK K) | (apply_assumption (exfalso := false) (symm := false)))
            refine ⟨⟨i + 1, st, xt, mt⟩, [3, 4, 2], ⟨by dsimp only; omega, by dsimp only; omega, ⟨i1, i2, i3, i4⟩⟩, by dsimp only; omega, rfl, ?_, (by repeat' (first | exact agr_refl | refine agr_cons (by rfl) ?_)), ?_⟩
            · dsimp only
              have hU := True.intro
              (refine ⟨⟨_, (by (try simp (disch := omega) only [go_sem, seval, ↓reduceIte, hU]) <;> rfl), ?_⟩, ⟨_, (by (try simp (disch := omega) only [go_sem, seval, ↓reduceIte, hU]) <;> rfl), ?_⟩, trivial⟩ <;> (try (first | exact ale_eq (by with_reducible rfl) | exact ale_full | exact ale_sl (fun _ => rfl) | exact ale_sl (by simp) | exact ale_junk | exact ale_eq rfl)))
              all_goals trace_state
            · dsimp only
              first | rfl | (simp (disch := omega) only [go_sem, seval, ↓reduceIte]; done) | (simp (disch := omega) only [go_sem, seval, ↓reduceIte]; rfl) | trace_state
    · skip
      have hU := True.intro
      repeat' (first | (guard_target =~ PWp _ _ _ _ _ _ _; first | (refine pwp_seq_k (fun K hK => ?_)) | (refine pwp_block ?_) | (refine pwp_rg_then ?_) | (refine pwp_skip ?_) | ((refine pwp_cond_d (fun hcd => ?_) (fun hcd => ?_)) <;> (try simp only [hcP] at hcd) <;> (try (exfalso; first | omega | exact absurd hcd (by assumption) | exact absurd (by assumption) hcd)))) | (guard_target =~ rg _ _ _ _ _ _ _; first | (guard_target =~ rg _ _ _ (⟨_, .move _, _, _, _, some _⟩ :: _) _ _ _; first | (refine rg_gq rfl (h := ?_))) | (guard_target =~ rg _ _ _ (⟨_, .binOp _ _ _ _ _, _, _, _, some _⟩ :: _) _ _ _; first | (refine rg_gq rfl (h := ?_))) | (guard_target =~ rg _ _ _ (⟨_, .fieldAddr _ _ _, _, _, _, some _⟩ :: _) _ _ _; first | (refine rg_gq rfl (h := ?_))) | (guard_target =~ rg _ _ _ (⟨_, .call ⟨.builtin .len, _, _⟩, _, _, _, some _⟩ :: _) _ _ _; first | (refine rg_gq rfl (h := ?_))) | (guard_target =~ rg _ _ _ (⟨_, .load _ _, _, _, _, some _⟩ :: _) _ _ _; first | (refine rg_gq rfl (h := ?_))) | (guard_target =~ rg _ _ _ (⟨_, .call ⟨.value (.func 30), _, _⟩, _, _, _, some _⟩ :: _) _ _ _; first | (refine rg_gq rfl (h := ?_))) | (guard_target =~ rg _ _ _ [] _ _ _; first | (refine rg_end ?_)) | (refine rg_a rfl (h := ?_)) | (refine rg_x rfl (hy := rfl) (h := ?_)) | (refine rg_v rfl (h := ?_)) | (refine rg_s rfl ?_) | (refine rg_n rfl ?_)) | (guard_target =~ SOp _ _ _ _ _ _; first | (guard_target =~ SOp _ _ ⟨_, .indexAddr _ _ _, _, _, _, none⟩ _ _ _; first | (refine n_index rfl (hK := ?_))) | (guard_target =~ SOp _ _ ⟨_, .store _ _ _, _, _, _, none⟩ _ _ _; first | (refine n_store rfl (hK := ?_))) | (guard_target =~ SOp _ _ ⟨_, .alloc _, _, _, _, none⟩ _ _ _; first | (refine n_alloc rfl (by first | exact zv3 | exact zv4 | exact zv5 | exact zv9 | exact zv22 | exact zv28 | exact zv44 | exact zv46 | exact zv50 | exact zv53 | exact zv55 | exact zv67 | exact zv69 | exact zv71 | exact zv112 | fail) (hK := ?_))) | (guard_target =~ SOp _ _ ⟨_, .call ⟨.value (.func 25), _, _⟩, _, _, _, none⟩ _ _ _; first | (refine n_call (f := 25) rfl Tryd.call25 (h := AEq.sub' [_, _, _] (hc := dec_no _ _ _ _ _ _ (by first | assumption | omega) (by first | assumption | omega) (by first | assumption | omega) (by first | assumption | omega) (by first | assumption | omega) (by first | assumption | omega) _ _ (by first | assumption | omega) (by first | assumption | omega)) (hq := ?_)))) | (guard_target =~ SOp _ _ ⟨_, .call ⟨.value (.func 32), _, _⟩, _, _, _, none⟩ _ _ _; first | (refine n_call (f := 32) rfl Tryd.call32 (h := AEq.sub' [_, _, _] (hc := dall _ _ _ _ (by first | assumption | omega)) (hq := ?_))))) | (refine hK _ _ ?_; clear hK K))
      have hrl : xs.reverse.length = xs.length := List.length_reverse
      have hrs := sumW_rev xs
      refine pwp_loop_k [12, 14, 58, 59, 60, 61, 62, 63, 64, 65, 66] (fun j : Nat => [(58, i64 j), (12, i64 (sumW (xs.reverse.take j)))]) (fun j => [.box [.row 1 s, i64 (sumW xs), i64 m], .row s 67 3 (xs.map flA), .box [.ptr 0 0], .box [.sl true false [], .sl true false []]]) (fun j => j ≤ xs.reverse.length) (fun j => xs.reverse.length - j) 0 (Nat.zero_le _) ?_ rfl ?_
      · rw [sumW_take0]
        (refine ⟨⟨_, (by (try simp (disch := omega) only [go_sem, seval, ↓reduceIte, hU]) <;> rfl), ?_⟩, ⟨_, (by (try simp (disch := omega) only [go_sem, seval, ↓reduceIte, hU]) <;> rfl), ?_⟩, trivial⟩ <;> (try (first | exact ale_eq (by with_reducible rfl) | exact ale_full | exact ale_sl (fun _ => rfl) | exact ale_sl (by simp) | exact ale_junk | exact ale_eq rfl)))
        all_goals trace_state
      · rintro j hj
        simp only [mask, List.map_cons, List.map_nil, List.cons_append, List.nil_append]
        by_cases hjl : j < xs.reverse.length
        · obtain ⟨x, hx⟩ := ex_at hjl
          have hxm := hbb x (List.mem_reverse.1 (List.mem_of_getElem? hx))
          have hsn := sumW_tk hx
          have htl := sumW_take_le xs.reverse j
          have htl2 := sumW_take_le xs.reverse (j + 1)
          have htp := (sumW_pos (xs.reverse.take j)).1
          have hwp := wt_pos x
          have hwx : wt ⟨x.n, x.v, x.k⟩ = wt x := rfl
          have hU := @hwx
          repeat' (first | (guard_target =~ PWp _ _ _ _ _ _ _; first | (refine pwp_seq_k (fun K hK => ?_)) | (refine pwp_block ?_) | (refine pwp_rg_then ?_) | (refine pwp_rg ?_) | (refine pwp_skip ?_) | ((refine pwp_cond_d (fun hcd => ?_) (fun hcd => ?_)) <;> (try simp only [hcP] at hcd) <;> (try (exfalso; first | omega | exact absurd hcd (by assumption) | exact absurd (by assumption) hcd)))) | (guard_target =~ rg _ _ _ _ _ _ _; first | (guard_target =~ rg _ _ _ [] _ _ _; first | (refine rg_end ?_)) | (refine rg_a rfl (h := ?_)) | (refine rg_v rfl (h := ?_)) | (refine rg_s rfl ?_) | (refine rg_n rfl ?_)) | (guard_target =~ SOp _ _ _ _ _ _; first | (guard_target =~ SOp _ _ ⟨_, .indexAddr _ _ _, _, _, _, none⟩ _ _ _; first | (refine n_index rfl (hK := ?_))) | (guard_target =~ SOp _ _ ⟨_, .store _ _ _, _, _, _, none⟩ _ _ _; first | (refine n_store rfl (hK := ?_))) | (guard_target =~ SOp _ _ ⟨_, .alloc _, _, _, _, none⟩ _ _ _; first | (refine n_alloc rfl (by first | exact zv3 | exact zv4 | exact zv5 | exact zv9 | exact zv22 | exact zv28 | exact zv44 | exact zv46 | exact zv50 | exact zv53 | exact zv55 | exact zv67 | exact zv69 | exact zv71 | exact zv112 | fail) (hK := ?_))) | (guard_target =~ SOp _ _ ⟨_, .call ⟨.value (.func 33), _, _⟩, _, _, _, none⟩ _ _ _; first | (refine n_call (f := 33) rfl Tryd.call33 (h := AEq.pure' (by first | ((repeat' (first | exact trivial | (first | exact arg_lit | exact arg_sl id id | exact arg_nil | exact arg_sl (by simp) id | exact arg_sl (by simp) (fun _ => rfl) | exact arg_row_m (by rfl) (by rfl) (fun _ => rfl) | exact arg_vw_m (by rfl) (by rfl) (fun _ => rfl) | exact arg_rn (by rfl) (by rfl) | exact arg_junk | exact arg_row_mm (by rfl) (by rfl) (fun _ => rfl)) | refine ⟨?_, ?_⟩)); done) | fail) (r_weight_c _ _ _ (by omega) (by omega)) (hq := ?_))))) | (refine hK _ _ ?_; clear hK K))
          refine ⟨j + 1, [0, 1, 2, 3], by omega, by omega, rfl, ?_, (by repeat' (first | exact agr_refl | refine agr_cons (by rfl) ?_)), ?_⟩
          · have hU := True.intro
            (refine ⟨⟨_, (by (try simp (disch := omega) only [go_sem, seval, ↓reduceIte, hU]) <;> rfl), ?_⟩, ⟨_, (by (try simp (disch := omega) only [go_sem, seval, ↓reduceIte, hU]) <;> rfl), ?_⟩, trivial⟩ <;> (try (first | exact ale_eq (by with_reducible rfl) | exact ale_full | exact ale_sl (fun _ => rfl) | exact ale_sl (by simp) | exact ale_junk | exact ale_eq rfl)))
            all_goals first | exact ale_i (by omega) | trace_state
          · first | rfl | (simp (disch := omega) only [go_sem, seval, ↓reduceIte]; done) | (simp (disch := omega) only [go_sem, seval, ↓reduceIte]; rfl) | trace_state
        · have hje : j = xs.reverse.length := by omega
          subst hje
          have htk : xs.reverse.take xs.reverse.length = xs.reverse := List.take_length
          rw [htk]
          have hU := @hrs
          repeat' (first | (guard_target =~ PWp _ _ _ _ _ _ _; first | (refine pwp_seq_k (fun K hK => ?_)) | (refine pwp_rg_then ?_) | (refine pwp_skip ?_) | (refine pwp_exit ?_) | ((refine pwp_cond_d (fun hcd => ?_) (fun hcd => ?_)) <;> (try simp only [hcP] at hcd) <;> (try (exfalso; first | omega | exact absurd hcd (by assumption) | exact absurd (by assumption) hcd)))) | (guard_target =~ rg _ _ _ _ _ _ _; first | (guard_target =~ rg _ _ _ (⟨_, .move _, _, _, _, some _⟩ :: _) _ _ _; first | (refine rg_gtp rfl (h := ?_)) | (refine rg_gt rfl (h := ?_))) | (guard_target =~ rg _ _ _ (⟨_, .binOp _ _ _ _ _, _, _, _, some _⟩ :: _) _ _ _; first | (refine rg_gtp rfl (h := ?_)) | (refine rg_gt rfl (h := ?_))) | (guard_target =~ rg _ _ _ (⟨_, .fieldAddr _ _ _, _, _, _, some _⟩ :: _) _ _ _; first | (refine rg_gtp rfl (h := ?_)) | (refine rg_gt rfl (h := ?_))) | (guard_target =~ rg _ _ _ (⟨_, .call ⟨.builtin .len, _, _⟩, _, _, _, some _⟩ :: _) _ _ _; first | (refine rg_gtp rfl (h := ?_)) | (refine rg_gt rfl (h := ?_))) | (guard_target =~ rg _ _ _ (⟨_, .load _ _, _, _, _, some _⟩ :: _) _ _ _; first | (refine rg_gtp rfl (h := ?_)) | (refine rg_gt rfl (h := ?_))) | (guard_target =~ rg _ _ _ (⟨_, .call ⟨.value (.func 30), _, _⟩, _, _, _, some _⟩ :: _) _ _ _; first | (refine rg_gtp rfl (h := ?_)) | (refine rg_gt rfl (h := ?_))) | (guard_target =~ rg _ _ _ [] _ _ _; first | (refine rg_end ?_)) | (refine rg_v rfl (h := ?_)) | (refine rg_s rfl ?_)) | (guard_target =~ SOp _ _ _ _ _ _; first | (guard_target =~ SOp _ _ ⟨_, .call ⟨.value (.func 29), _, _⟩, _, _, _, none⟩ _ _ _; first | (refine n_call (f := 29) rfl Tryd.call29 (h := AEq.sub' [_, _, _] (hc := dmax _ _ _ _) (hq := ?_)))) | (guard_target =~ SOp _ _ ⟨_, .call ⟨.value (.func 30), _, _⟩, _, _, _, some _⟩ _ _ _; first | (refine n_call (f := 30) rfl Tryd.call30 (h := AEq.sub' [_, _, _] (hc := dsize _ _ _ _) (hq := ?_))))) | (refine hK _ _ ?_; clear hK K) | (apply_assumption (exfalso := false) (symm := false)))
          refine ⟨⟨i + 1, s, xs, m⟩, [0, 1, 2], ⟨by dsimp only; omega, by dsimp only; omega, hok⟩, by dsimp only; omega, rfl, ?_, (by repeat' (first | exact agr_refl | refine agr_cons (by rfl) ?_)), ?_⟩
          · dsimp only
            have hU := True.intro
            (refine ⟨⟨_, (by (try simp (disch := omega) only [go_sem, seval, ↓reduceIte, hU]) <;> rfl), ?_⟩, ⟨_, (by (try simp (disch := omega) only [go_sem, seval, ↓reduceIte, hU]) <;> rfl), ?_⟩, trivial⟩ <;> (try (first | exact ale_eq (by with_reducible rfl) | exact ale_full | exact ale_sl (fun _ => rfl) | exact ale_sl (by simp) | exact ale_junk | exact ale_eq rfl)))
            all_goals trace_state
          · dsimp only
            first | rfl | (simp (disch := omega) only [go_sem, seval, ↓reduceIte]; done) | (simp (disch := omega) only [go_sem, seval, ↓reduceIte]; rfl) | trace_state
end Go.Proofs.YtohbfcmmpaikhaaDoor

set_option linter.unusedVariables false
set_option linter.unusedSimpArgs false
namespace Go.Proofs.YtohbfcmmpaikhaaDoor
open Go Go.Lf Go.Proofs Go.ChangeShapes Go.WideShapes Go.ChangeAt Go.RowKit
attribute [local irreducible] Lf.rg Lf.ro Lf.PWp Lf.SOp Lf.ACall Lf.Scoped Lf.dg
set_option maxRecDepth 20000
set_option maxHeartbeats 4000000
abbrev laidD : List (String × DataW Unit) := [("stickler/repr.forms", Rows.laid_stickler_repr_forms)]
theorem gForms : Tryd.prog.globalNamed "stickler/repr.forms" = some 0 := by kernel_rfl
theorem tForms : (Tryd.prog.globals[0]?).map (·.type) = some 94 := by kernel_rfl
theorem laid_pair {W : World} {base : Nat} {spare : Nat → Bool} {held : Bool} {n : Nat} {cs : List Value} {a b : Int} {x : DataW Unit × List MemPlace} {enc : TypeId × Value → Unit}
    (h : DataW.trod enc Tryd.prog W base spare held n 93 cs = some x) (hx : x.1 = .agg [.lit (.int .i64 a), .lit (.int .i64 b)]) : cs = [.int .i64 a, .int .i64 b] := by
  obtain ⟨y0, y1, m, rfl, hl, h0, h1⟩ := trod_struct2 Tryd.underlying93 h
  obtain ⟨k0, e0, f0, _⟩ := DataW.trod_int Tryd.underlying3 h0
  obtain ⟨k1, e1, f1, _⟩ := DataW.trod_int Tryd.underlying3 h1
  simp only [DataW.agg.injEq, List.cons.injEq] at hx
  have c3 : Tryd.prog.cellsOf 3 = 1 := ce3
  have c93 : Tryd.prog.cellsOf 93 = 2 := ce93
  rw [c93] at hl
  match cs, hl with
  | [c0, c1], _ =>
    simp [c3] at e0 e1
    rw [f0, f1] at hx
    simp at hx
    obtain ⟨rfl, rfl⟩ := hx
    rw [e0, e1]
theorem take12 {α : Type} (cs : List α) (h : cs.length = 12) : cs = (cs.drop 0).take 2 ++ ((cs.drop 2).take 2 ++ ((cs.drop 4).take 2 ++ ((cs.drop 6).take 2 ++ ((cs.drop 8).take 2 ++ (cs.drop 10).take 2)))) := by
  match cs, h with
  | [a, b, c, d, e, f, g, h, i, j, k, l], _ => rfl
theorem gv_of_laid {W : World} (h : laidMetH Tryd.prog laidD W) : GV [] rz0 W := by
  rw [MakeChecks.laidMetH_plain _ _ _ (by kernel_rfl)] at h
  obtain ⟨ps, ⟨g0, t0, cs0, f0, p0, q0, hg0, ht0, hv0, hd0, _, _⟩, _, _⟩ := h
  obtain rfl := Option.some.inj (gForms.symm.trans hg0)
  obtain rfl := Option.some.inj (tForms.symm.trans ht0)
  obtain ⟨xs, m1, rfl, hx1, hlen, hn6, hel⟩ := DataW.trod_array Tryd.underlying94 hd0
  have c93 : Tryd.prog.cellsOf 93 = 2 := ce93
  have c94 : Tryd.prog.cellsOf 94 = 12 := ce94
  rw [c94] at hlen
  simp only [c93] at hel
  have hcs : cs0.toList = [.int .i64 0, .int .i64 0, .int .i64 128, .int .i64 7, .int .i64 64, .int .i64 6, .int .i64 0, .int .i64 4, .int .i64 16, .int .i64 4, .int .i64 32, .int .i64 5] := by
    match xs, hn6 with
    | [x0, x1, x2, x3, x4, x5], _ =>
      simp only [Prod.mk.injEq, Rows.laid_stickler_repr_forms, List.map_cons, List.map_nil, DataW.agg.injEq, List.cons.injEq, and_true] at hx1
      obtain ⟨⟨y0, y1, y2, y3, y4, y5⟩, _⟩ := hx1
      have e0 := laid_pair (hel 0 (by decide)) y0.symm
      have e1 := laid_pair (hel 1 (by decide)) y1.symm
      have e2 := laid_pair (hel 2 (by decide)) y2.symm
      have e3 := laid_pair (hel 3 (by decide)) y3.symm
      have e4 := laid_pair (hel 4 (by decide)) y4.symm
      have e5 := laid_pair (hel 5 (by decide)) y5.symm
      rw [take12 cs0.toList hlen]
      simp only [Nat.reduceMul] at e0 e1 e2 e3 e4 e5
      rw [e0, e1, e2, e3, e4, e5]
      rfl
  have hc : ∀ i v, cs0.toList[i]? = some v → W.cell? ⟨0, i, none⟩ = some v := by
    intro i v hv
    have := World.var?_cell hg0 hv0 i
    rw [this, ← Array.getElem?_toList]
    exact hv
  intro g
  cases g with
  | succ g => exact trivial
  | zero =>
    show VR [] rz0 W (.ip false _) _
    simp only [VR]
    have h0 := hc 0 (.int .i64 0) (by rw [hcs]; rfl)
    refine ⟨0, 0, rfl, ?_, ?_, ?_⟩
    · have h1 := h0
      unfold World.cell? at h1
      cases hh : W.heap[0]? with
      | none => simp [hh] at h1
      | some o => exact (Array.getElem?_eq_some_iff.1 hh).1
    · intro h
      rcases (Bset.mset h) with ⟨o, ob, q, _⟩ | h
      · simp at q
      · exact h
    · simp only [List.map_cons, List.map_nil, PVs, PV]
      repeat' (first | exact trivial | refine ⟨⟨_, hc _ _ (by rw [hcs]; rfl), rfl, rfl⟩, ?_⟩)
end Go.Proofs.YtohbfcmmpaikhaaDoor

set_option linter.unusedVariables false
set_option linter.unusedSimpArgs false
namespace Go.Proofs.YtohbfcmmpaikhaaDoor
open Go Go.Lf Go.Proofs
attribute [local irreducible] Lf.rg Lf.ro Lf.PWp Lf.SOp Lf.ACall Lf.Scoped Lf.dg
set_option maxRecDepth 20000
set_option maxHeartbeats 4000000
theorem vas_map_p {α : Type} {g : α → List AV} {p : α → Prop} : ∀ (ys : List (List AV)), (∀ y ∈ ys, ∃ a, p a ∧ y = g a) → ∃ l : List α, (∀ a ∈ l, p a) ∧ ys = l.map g
  | [], _ => ⟨[], by simp, rfl⟩
  | y :: ys, h => by
    obtain ⟨a, ha, rfl⟩ := h y List.mem_cons_self
    obtain ⟨l, hl, rfl⟩ := vas_map_p ys (fun y hy => h y (List.mem_cons_of_mem _ hy))
    refine ⟨a :: l, ?_, rfl⟩
    intro b hb
    rw [List.mem_cons] at hb
    rcases hb with rfl | hb
    · exact ha
    · exact hl b hb
theorem sh_blk {k : Nat} {y : List AV} (h : Sh Tryd.prog (k + 2) 22 y) : ∃ b : List UInt8, b.length ≤ 9223372036854775807 ∧ y = blA b := by
  simp only [Sh, Tryd.underlying22] at h
  obtain ⟨ys, hl, hy, rfl⟩ := h
  obtain ⟨bs, rfl⟩ := as_map (g := byteA) ys (fun y h => sh_byte (k := k) Tryd.underlying5 (hy y h))
  exact ⟨bs, by simpa [maxLen] using hl, rfl⟩
theorem in_blocks {w : World} {a : Option Addr} {l c k : Nat} (h : ∃ xs, Sh Tryd.prog (k + 3) 44 xs ∧ ((∃ x, xs = [x] ∧ VR [] rz0 w x (.slice a l c)) ∨ VR [] rz0 w (.ag xs) (.slice a l c))) :
    ∃ s : List (List UInt8), s.length ≤ 9223372036854775807 ∧ (∀ b ∈ s, b.length ≤ 9223372036854775807) ∧ VR [] rz0 w (.sl false false (s.map blA)) (.slice a l c) := by
  obtain ⟨ys, h1, h2, h3⟩ := in_sl Tryd.underlying44 h
  obtain ⟨b, hb, rfl⟩ := vas_map_p (g := blA) (p := fun b => b.length ≤ 9223372036854775807) ys (fun y hy => sh_blk (k := k) (h2 y hy))
  exact ⟨b, by simpa [maxLen] using h1, hb, h3⟩
end Go.Proofs.YtohbfcmmpaikhaaDoor

