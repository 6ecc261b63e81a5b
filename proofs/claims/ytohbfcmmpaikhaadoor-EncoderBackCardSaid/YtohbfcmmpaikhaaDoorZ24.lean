import Derived.Test.YtohbfcmmpaikhaaDoorZ23
import Derived.Test.YtohbfcmmpaikhaaDoorLc
set_option linter.unusedVariables false
set_option linter.unusedSimpArgs false
namespace Go.Proofs.YtohbfcmmpaikhaaDoor
open Go Go.Lf Go.Proofs
attribute [local irreducible] Lf.rg Lf.ro Lf.PWp Lf.SOp Lf.ACall Lf.Scoped Lf.dg Lf.dw
set_option maxRecDepth 20000
set_option maxHeartbeats 4000000
structure ES where
 (i a : Nat) (q : EQ)
def E1Ok (l : List Int) (t0 : DT) (Q : EQ) (w : ES) : Prop := w.i ≤ l.length ∧ eResL (l.drop w.i) w.q = Q ∧ TOk w.q.t ∧ w.q.t.xs.length ≤ 30000 ∧ w.q.o.length ≤ 18 * w.i
def E2Ok (how : List Op4) (l : List Fl) (Q : EQ) (w : ES) : Prop := w.i ≤ l.length ∧ eFldL how (l.drop w.i) w.i w.q = Q ∧ TOk w.q.t ∧ w.q.t.xs.length ≤ 30000 + w.i ∧ w.q.o.length ≤ 2000 + 8018 * w.i
theorem e1_step {l : List Int} {i : Nat} {z : Int} {q Q : EQ} (hz : l[i]? = some z) (h : eResL (l.drop i) q = Q) : eResL (l.drop (i + 1)) (eRes q z) = Q := by
 rw [ddrop_at hz, eResL] at h; exact h
theorem e1_end {l : List Int} {i : Nat} {q Q : EQ} (hi : ¬ i < l.length) (h : eResL (l.drop i) q = Q) : q = Q := by
 rw [List.drop_eq_nil_of_le (by omega)] at h; exact h
theorem e2_step {how : List Op4} {l : List Fl} {i : Nat} {f : Fl} {o : Op4} {q Q : EQ} {r : Rw} {t : DT} (hf : l[i]? = some f) (ho : opAt how i = o) (hr : oneR q.t.xs.reverse f.n f.v f.k o.w o.nn o.sn o.sv = r) (ht : oneT q.t f.n f.v f.k o.w = t) (h : eFldL how (l.drop i) i q = Q) : eFldL how (l.drop (i + 1)) (i + 1) ⟨catB q.o (rwB r), t⟩ = Q := by
 rw [ddrop_at hf, eFldL, eFld, ho, hr, ht] at h; exact h
theorem e2_end {how : List Op4} {l : List Fl} {i : Nat} {q Q : EQ} (hi : ¬ i < l.length) (h : eFldL how (l.drop i) i q = Q) : q = Q := by
 rw [List.drop_eq_nil_of_le (by omega)] at h; exact h
theorem nil_len {α : Type} {l : List α} (h : l.length = 0) : l = [] := List.length_eq_zero_iff.1 h
theorem catB_len (a b : List UInt8) : (catB a b).length = a.length + b.length := List.length_append
theorem catB_map (a b : List UInt8) : a.map byteA ++ b.map byteA = (catB a b).map byteA := by unfold catB; rw [List.map_append]
theorem tmod_nat (i n : Nat) : Int.tmod (i : Int) (n : Int) = ((i % n : Nat) : Int) := by rw [Int.ofNat_tmod]
attribute [local irreducible] wt sumW keptL flN addX stAt xsE addT plB plI nmI oneR oneT addL fitN rpB rwB rszB catB eResL eFldL op0
theorem enc_no (f1 q1 f2 q2 f3 q3 : Bool) (sizes : List Int) (l : List Fl) (wy : List Op4) (hsl : sizes.length ≤ 9223372036854775807) (xs : List Fl) (s : Nat) (m : Int) (hz : anyS sizes = true) : AEq Tryd.prog 37 [.ptr 0 0, .sl f1 q1 (sizes.map intA), .sl f2 q2 (l.map flA), .sl f3 q3 (wy.map opA)] [.box [.ptr 1 0], .box [.row 2 s, i64 (sumW xs), i64 m], .row s 67 3 (xs.map flA)] (.tu [.sl true false [], i64 1]) [.box [.ptr 1 0], .box [.row 2 s, i64 (sumW xs), i64 m], .row s 67 3 (xs.map flA)] := by
 refine acall_body Tryd.func37 rfl Tryd.ntmps37 (by simp) (fun hsc => ?_); simp only [Lf.enter, Nat.reduceAdd]; clear hsc
 have hU := @hz
 repeat' (first | (guard_target =~ PWp _ _ _ _ _ _ _; first | (refine pwp_seq_k (fun K hK => ?_)) | (refine pwp_block ?_) | (refine pwp_rg_then ?_) | (refine pwp_ret ?_) | ((refine pwp_cond_d (fun hcd => ?_) (fun hcd => ?_)) <;> (try simp only [hcP] at hcd) <;> (try (exfalso; first | omega | exact absurd hcd (by assumption) | exact absurd (by assumption) hcd)))) | (guard_target =~ rg _ _ _ _ _ _ _; first | (guard_target =~ rg _ _ _ [] _ _ _; first | (refine rg_end ?_)) | (refine rg_a rfl (h := ?_)) | (refine rg_v rfl (h := ?_)) | (refine rg_s rfl ?_)) | (guard_target =~ SOp _ _ _ _ _ _; first | (guard_target =~ SOp _ _ ⟨_, .call ⟨.value (.func 67), _, _⟩, _, _, _, none⟩ _ _ _; first | (refine n_call (f := 67) rfl Tryd.call67 (h := AEq.pure' (by first | ((repeat' (first | exact trivial | (first | exact arg_lit | exact arg_sl id id | exact arg_nil | exact arg_sl (by simp) id | exact arg_sl (by simp) (fun _ => rfl) | exact arg_row_m (by rfl) (by rfl) (fun _ => rfl) | exact arg_vw_m (by rfl) (by rfl) (fun _ => rfl) | exact arg_rn (by rfl) (by rfl) | exact arg_junk | exact arg_row_mm (by rfl) (by rfl) (fun _ => rfl)) | refine ⟨?_, ?_⟩)); done) | fail) (contS _ _ _ (by assumption)) (hq := ?_))))) | (guard_target =~ (_ ∨ _) ∧ _; first | ((refine end_d [0, 1, 2] (by rw [Tryd.results37, Lf.res2]) (ale_2 ?_ ?_) ?_) <;> (try (first | exact ale_eq (by with_reducible rfl) | exact ale_full | exact ale_sl (fun _ => rfl) | exact ale_sl (by simp) | exact ale_junk | exact ale_eq rfl | exact stq (by with_reducible rfl) | exact stq (by rfl) | exact stq (by simp (disch := omega) only [go_sem, seval, ↓reduceIte, hU]))))) | (refine hK _ _ ?_; clear hK K))
 all_goals trace_state
set_option maxRecDepth 20000 in
theorem enc_ok_r (f1 q1 f2 q2 f3 q3 : Bool) (sizes : List Int) (l : List Fl) (wy : List Op4) (hsl : sizes.length ≤ 100) (hll : l.length ≤ 100) (hol : wy.length ≤ 100000) (hlb : ∀ f ∈ l, f.n.size ≤ 1000 ∧ f.v.size ≤ 1000) (xs : List Fl) (s : Nat) (m : Int) (hx : xs.length ≤ 30000) (hS : sumW xs ≤ m) (hm0 : 0 ≤ m) (hm1 : m ≤ 2147483647) (hbb : ∀ f ∈ xs, f.n.size ≤ 1000000 ∧ f.v.size ≤ 1000000) (hz : anyS sizes = false) (Q : EQ) (hQ : encM sizes l wy ⟨xs, s, m⟩ = Q) : AEq Tryd.prog 37 [.ptr 0 0, .sl f1 q1 (sizes.map intA), .sl f2 q2 (l.map flA), .sl f3 q3 (wy.map opA)] [.box [.ptr 1 0], .box [.row 2 s, i64 (sumW xs), i64 m], .row s 67 3 (xs.map flA)] (.tu [.sl false false (Q.o.map byteA), i64 0]) [.box [.ptr 1 0], .box [.row 2 Q.t.s, i64 (sumW Q.t.xs), i64 Q.t.m], .row Q.t.s 67 3 (Q.t.xs.map flA)] := by
 have hzz := anyS_no hz
 obtain ⟨Q1, hQ1⟩ : ∃ Q1, eResL sizes ⟨[], ⟨xs, s, m⟩⟩ = Q1 := ⟨_, rfl⟩
 have hQ2 : eFldL wy l 0 Q1 = Q := by rw [← hQ1]; exact hQ
 refine acall_body Tryd.func37 rfl Tryd.ntmps37 (by simp) (fun hsc => ?_); simp only [Lf.enter, Nat.reduceAdd]; clear hsc
 have hU := @hz
 repeat' (first | (guard_target =~ PWp _ _ _ _ _ _ _; first | (refine pwp_seq_k (fun K hK => ?_)) | (refine pwp_block ?_) | (refine pwp_rg_then ?_) | (refine pwp_skip ?_) | ((refine pwp_cond_d (fun hcd => ?_) (fun hcd => ?_)) <;> (try simp only [hcP] at hcd) <;> (try (exfalso; first | omega | exact absurd hcd (by assumption) | exact absurd (by assumption) hcd)))) | (guard_target =~ rg _ _ _ _ _ _ _; first | (guard_target =~ rg _ _ _ [] _ _ _; first | (refine rg_end ?_)) | (refine rg_a rfl (h := ?_)) | (refine rg_v rfl (h := ?_)) | (refine rg_s rfl ?_)) | (guard_target =~ SOp _ _ _ _ _ _; first | (guard_target =~ SOp _ _ ⟨_, .call ⟨.value (.func 67), _, _⟩, _, _, _, none⟩ _ _ _; first | (refine n_call (f := 67) rfl Tryd.call67 (h := AEq.pure' (by first | ((repeat' (first | exact trivial | (first | exact arg_lit | exact arg_sl id id | exact arg_nil | exact arg_sl (by simp) id | exact arg_sl (by simp) (fun _ => rfl) | exact arg_row_m (by rfl) (by rfl) (fun _ => rfl) | exact arg_vw_m (by rfl) (by rfl) (fun _ => rfl) | exact arg_rn (by rfl) (by rfl) | exact arg_junk | exact arg_row_mm (by rfl) (by rfl) (fun _ => rfl)) | refine ⟨?_, ?_⟩)); done) | fail) (contS _ _ _ (by omega)) (hq := ?_))))) | (refine hK _ _ ?_; clear hK K))
 refine pwp_row 10 5 1 (by decide) (by rfl) rfl rfl ?_
 refine pwp_loop_k [10, 12, 13, 14, 38, 39, 40, 41, 42, 43, 44, 45, 46, 47, 48, 49, 50, 51, 52, 53, 54, 55, 56, 57] (fun w : ES => [(38, i64 w.i), (10, .row 3 w.a)]) (fun w => [.box [.ptr 1 0], .box [.row 2 w.q.t.s, i64 (sumW w.q.t.xs), i64 w.q.t.m], .row w.q.t.s 67 3 (w.q.t.xs.map flA), .row w.a 5 1 (w.q.o.map byteA)]) (E1Ok sizes ⟨xs, s, m⟩ Q1) (fun w => sizes.length - w.i) ⟨0, 0, ⟨[], ⟨xs, s, m⟩⟩⟩ ⟨Nat.zero_le _, hQ1, ⟨hS, hm0, hm1, hbb⟩, hx, Nat.zero_le _⟩ ?_ (by first | rfl | (dsimp only; done) | (dsimp only; rfl)) ?_
 ·dsimp only
  have hU := True.intro
  (refine ⟨⟨_, (by (try simp (disch := omega) only [go_sem, seval, ↓reduceIte, hU]) <;> rfl), ?_⟩, ⟨_, (by (try simp (disch := omega) only [go_sem, seval, ↓reduceIte, hU]) <;> rfl), ?_⟩, trivial⟩ <;> (try (first | exact ale_eq (by with_reducible rfl) | exact ale_full | exact ale_sl (fun _ => rfl) | exact ale_sl (by simp) | exact ale_junk | exact ale_eq rfl)))
  all_goals trace_state
 ·rintro ⟨i, a, ⟨o, ⟨xt, st, mt⟩⟩⟩ ⟨hi, hk, hok, hxn, hon⟩
  dsimp only at hi hk hxn hon ⊢
  have hok2 := hok
  obtain ⟨hSt, hmt0, hmt1, hbt⟩ := hok2
  dsimp only at hSt hmt0 hmt1 hbt
  simp only [mask, List.map_cons, List.map_nil, List.cons_append, List.nil_append]
  by_cases hlt : i < sizes.length
  ·obtain ⟨z, hzi⟩ := ex_at hlt
   have hzb := hzz z (List.mem_of_getElem? hzi)
   obtain ⟨hz0, hz1⟩ := hzb
   obtain ⟨hk1, hk2⟩ := res_ok (z := z) hok hz0 hz1
   dsimp only at hk2
   have hln := rszB_ln z
   have hcl := catB_len o (rszB z)
   have hap := catB_map o (rszB z)
   have hSt2 : sumW xt ≤ 2147483647 := by omega
   have hbg : ∀ f ∈ xt, f.n.size ≤ 1000000000 ∧ f.v.size ≤ 1000000000 := fun f hf => by have := hbt f hf; omega
   have hU := @hap
   repeat' (first | (guard_target =~ PWp _ _ _ _ _ _ _; first | (refine pwp_seq_k (fun K hK => ?_)) | (refine pwp_block ?_) | (refine pwp_rg_then ?_) | (refine pwp_rg ?_) | (refine pwp_skip ?_) | ((refine pwp_cond_d (fun hcd => ?_) (fun hcd => ?_)) <;> (try simp only [hcP] at hcd) <;> (try (exfalso; first | omega | exact absurd hcd (by assumption) | exact absurd (by assumption) hcd)))) | (guard_target =~ rg _ _ _ _ _ _ _; first | (guard_target =~ rg _ _ _ [] _ _ _; first | (refine rg_end ?_)) | (refine rg_a rfl (h := ?_)) | (refine rg_x rfl (hy := rfl) (h := ?_)) | (refine rg_v rfl (h := ?_)) | (refine rg_s rfl ?_)) | (guard_target =~ SOp _ _ _ _ _ _; first | (guard_target =~ SOp _ _ ⟨_, .indexAddr _ _ _, _, _, _, none⟩ _ _ _; first | (refine n_index rfl (hK := ?_))) | (guard_target =~ SOp _ _ ⟨_, .call ⟨.builtin .append, _, _⟩, _, _, _, none⟩ _ _ _; first | (refine n_append_row rfl (he := by first | exact eo3 | exact eo4 | exact eo5 | exact eo9 | exact eo22 | exact eo25 | exact eo27 | exact eo28 | exact eo50 | exact eo53 | exact eo67 | exact eo69 | exact eo74 | exact eo81 | exact eo87 | exact eo112 | exact eo122 | fail) (hK := ?_))) | (guard_target =~ SOp _ _ ⟨_, .call ⟨.value (.func 16), _, _⟩, _, _, _, none⟩ _ _ _; first | (refine n_call (f := 16) rfl Tryd.call16 (h := AEq.pure' (by first | ((repeat' (first | exact trivial | (first | exact arg_lit | exact arg_sl id id | exact arg_nil | exact arg_sl (by simp) id | exact arg_sl (by simp) (fun _ => rfl) | exact arg_row_m (by rfl) (by rfl) (fun _ => rfl) | exact arg_vw_m (by rfl) (by rfl) (fun _ => rfl) | exact arg_rn (by rfl) (by rfl) | exact arg_junk | exact arg_row_mm (by rfl) (by rfl) (fun _ => rfl)) | refine ⟨?_, ?_⟩)); done) | fail) (pput_z _ (by first | assumption | omega) (by first | assumption | omega)) (hq := ?_)))) | (guard_target =~ SOp _ _ ⟨_, .build _ _, _, _, _, none⟩ _ _ _; first | (refine n_build rfl (by first | exact bd25 | exact bd27 | exact bd67 | exact bd87 | exact bd112 | exact bd122 | fail) (hK := ?_))) | (guard_target =~ SOp _ _ ⟨_, .call ⟨.value (.func 69), _, _⟩, _, _, _, none⟩ _ _ _; first | (refine n_call (f := 69) rfl Tryd.call69 (h := AEq.sub' [_, _] (hc := t_res _ _ _ _ (by first | assumption | omega) (by first | assumption | omega) (by first | assumption | omega) (by first | assumption | omega) (by first | assumption | omega)) (hq := ?_))))) | (refine hK _ _ ?_; clear hK K))
   refine ⟨⟨i + 1, a + 1, ⟨catB o (rszB z), ⟨keptL xt z, st + 1, z⟩⟩⟩, [0, 1, 2, 3], ⟨by dsimp only; omega, e1_step hzi hk, hk1, by dsimp only; omega, by dsimp only; omega⟩, by dsimp only; omega, rfl, ?_, (by repeat' (first | exact agr_refl | refine agr_cons (by rfl) ?_)), ?_⟩
   ·dsimp only
    have hU := True.intro
    (refine ⟨⟨_, (by (try simp (disch := omega) only [go_sem, seval, ↓reduceIte, hU]) <;> rfl), ?_⟩, ⟨_, (by (try simp (disch := omega) only [go_sem, seval, ↓reduceIte, hU]) <;> rfl), ?_⟩, trivial⟩ <;> (try (first | exact ale_eq (by with_reducible rfl) | exact ale_full | exact ale_sl (fun _ => rfl) | exact ale_sl (by simp) | exact ale_junk | exact ale_eq rfl)))
    all_goals trace_state
   ·dsimp only
    first | rfl | (simp (disch := omega) only [go_sem, seval, ↓reduceIte]; done) | (simp (disch := omega) only [go_sem, seval, ↓reduceIte]; rfl) | trace_state
  obtain rfl := e1_end hlt hk
  have hU := True.intro
  repeat' (first | (guard_target =~ PWp _ _ _ _ _ _ _; first | (refine pwp_seq_k (fun K hK => ?_)) | (refine pwp_block ?_) | (refine pwp_rg_then ?_) | (refine pwp_exit ?_) | ((refine pwp_cond_d (fun hcd => ?_) (fun hcd => ?_)) <;> (try simp only [hcP] at hcd) <;> (try (exfalso; first | omega | exact absurd hcd (by assumption) | exact absurd (by assumption) hcd)))) | (guard_target =~ rg _ _ _ _ _ _ _; first | (guard_target =~ rg _ _ _ [] _ _ _; first | (refine rg_end ?_)) | (refine rg_v rfl (h := ?_))) | (refine hK _ _ ?_; clear hK K) | (apply_assumption (exfalso := false) (symm := false)))
  refine pwp_loop_k [10, 15, 16, 17, 18, 19, 60, 61, 62, 63, 64, 65, 66, 67, 68, 69, 70, 71, 72, 73, 74, 75, 76, 77, 78, 79, 80, 81, 82, 83, 84, 85, 86, 87, 88, 89] (fun w : ES => [(60, i64 w.i), (10, .row 3 w.a)]) (fun w => [.box [.ptr 1 0], .box [.row 2 w.q.t.s, i64 (sumW w.q.t.xs), i64 w.q.t.m], .row w.q.t.s 67 3 (w.q.t.xs.map flA), .row w.a 5 1 (w.q.o.map byteA)]) (E2Ok wy l Q) (fun w => l.length - w.i) ⟨0, a, ⟨o, ⟨xt, st, mt⟩⟩⟩ ⟨Nat.zero_le _, hQ2, hok, by dsimp only; omega, by dsimp only; omega⟩ ?_ (by first | rfl | (dsimp only; done) | (dsimp only; rfl)) ?_
  ·dsimp only
   (refine ⟨⟨_, (by (try simp (disch := omega) only [go_sem, seval, ↓reduceIte, hU]) <;> rfl), ?_⟩, ⟨_, (by (try simp (disch := omega) only [go_sem, seval, ↓reduceIte, hU]) <;> rfl), ?_⟩, trivial⟩ <;> (try (first | exact ale_eq (by with_reducible rfl) | exact ale_full | exact ale_sl (fun _ => rfl) | exact ale_sl (by simp) | exact ale_junk | exact ale_eq rfl)))
   all_goals trace_state
  ·clear hi hk hxn hon hok hSt hmt0 hmt1 hbt hlt hQ1 hQ2
   rintro ⟨i, a, ⟨o, ⟨xt, st, mt⟩⟩⟩ ⟨hi, hk, hok, hxn, hon⟩
   dsimp only at hi hk hxn hon ⊢
   have hok2 := hok
   obtain ⟨hSt, hmt0, hmt1, hbt⟩ := hok2
   dsimp only at hSt hmt0 hmt1 hbt
   simp only [mask, List.map_cons, List.map_nil, List.cons_append, List.nil_append]
   by_cases hlt : i < l.length
   ·obtain ⟨⟨fn, fv, fk⟩, hfi⟩ := ex_at hlt
    have hfb := hlb _ (List.mem_of_getElem? hfi)
    dsimp only at hfb
    obtain ⟨hfb1, hfb2⟩ := hfb
    have hfc1 : fn.size ≤ 1000000 := by omega
    have hfc2 : fv.size ≤ 1000000 := by omega
    have hSt2 : sumW xt ≤ 2147483647 := by omega
    have hxt9 : xt.length ≤ 90000 := by omega
    have hrl : xt.reverse.length = xt.length := List.length_reverse
    by_cases hh : wy.length = 0
    ·obtain rfl := nil_len hh
     obtain ⟨⟨rk, ri, rn, rns, rv, rvs⟩, hr⟩ : ∃ r, oneR xt.reverse fn fv fk 0 false false false = r := ⟨_, rfl⟩
     obtain ⟨⟨xt', st', mt'⟩, ht⟩ : ∃ t, oneT ⟨xt, st, mt⟩ fn fv fk 0 = t := ⟨_, rfl⟩
     have hrw := oneR_ok hr (by omega) hfb1 hfb2
     obtain ⟨ht1, ht2, ht3⟩ := oneT_ok ht hok hfc1 hfc2
     dsimp only at ht2 ht3
     have hln := rwB_ln hrw
     have hcl := catB_len o (rwB ⟨rk, ri, rn, rns, rv, rvs⟩)
     have hap := catB_map o (rwB ⟨rk, ri, rn, rns, rv, rvs⟩)
     have hU := @hap
     repeat' (first | (guard_target =~ PWp _ _ _ _ _ _ _; first | (refine pwp_draw_ord (id := 21) [0, 1, 2, 3, 4, 5, 6, 7, 8, 9, 10, 11, 12] [6] mixed (by kernel_rfl) (by kernel_rfl) ?_) | (refine pwp_seq_k (fun K hK => ?_)) | (refine pwp_block ?_) | (refine pwp_rg_then ?_) | (refine pwp_rg ?_) | (refine pwp_skip ?_) | ((refine pwp_cond_d (fun hcd => ?_) (fun hcd => ?_)) <;> (try simp only [hcP] at hcd) <;> (try (exfalso; first | omega | exact absurd hcd (by assumption) | exact absurd (by assumption) hcd)))) | (guard_target =~ rg _ _ _ _ _ _ _; first | (guard_target =~ rg _ _ _ [] _ _ _; first | (refine rg_end ?_)) | (refine rg_a rfl (h := ?_)) | (refine rg_v rfl (h := ?_)) | (refine rg_s rfl ?_) | (refine rg_n rfl ?_)) | (guard_target =~ SOp _ _ _ _ _ _; first | (guard_target =~ SOp _ _ ⟨_, .indexAddr _ _ _, _, _, _, none⟩ _ _ _; first | (refine n_index rfl (hK := ?_))) | (guard_target =~ SOp _ _ ⟨_, .store _ _ _, _, _, _, none⟩ _ _ _; first | (refine n_store rfl (hK := ?_))) | (guard_target =~ SOp _ _ ⟨_, .call ⟨.builtin .append, _, _⟩, _, _, _, none⟩ _ _ _; first | (refine n_append_row rfl (he := by first | exact eo3 | exact eo4 | exact eo5 | exact eo9 | exact eo22 | exact eo25 | exact eo27 | exact eo28 | exact eo50 | exact eo53 | exact eo67 | exact eo69 | exact eo74 | exact eo81 | exact eo87 | exact eo112 | exact eo122 | fail) (hK := ?_))) | (guard_target =~ SOp _ _ ⟨_, .alloc _, _, _, _, none⟩ _ _ _; first | (refine n_alloc rfl (by first | exact zv3 | exact zv4 | exact zv5 | exact zv9 | exact zv22 | exact zv25 | exact zv27 | exact zv28 | exact zv50 | exact zv53 | exact zv67 | exact zv69 | exact zv74 | exact zv81 | exact zv87 | exact zv112 | exact zv122 | fail) (hK := ?_)))) | (guard_target =~ dw _ _ _ _ _ _ _ _ _ _; first | ((first | guard_target =~ dw _ _ _ _ _ (0 :: _) _ _ _ _ | guard_target =~ dw _ _ _ _ _ (8 :: _) _ _ _ _); first | (refine dw_p rfl rfl (h := (fun τ => ro_v rfl (h := ro_end ⟨rfl, rfl⟩))) (hk := ?_)) | (refine dw_c rfl rfl (h := ro_v rfl (h := ro_end ⟨rfl, rfl⟩)) (hk := ?_))) | (guard_target =~ dw _ _ _ _ _ (1 :: _) _ _ _ _; first | (refine dw_p rfl rfl (h := (fun τ => ro_v rfl (h := ro_end ⟨rfl, rfl⟩))) (hk := ?_)) | (refine dw_c rfl rfl (h := ro_v rfl (h := ro_end ⟨rfl, rfl⟩)) (hk := ?_))) | (guard_target =~ dw _ _ _ _ _ (2 :: _) _ _ _ _; first | (refine dw_p rfl rfl (h := (fun τ => ro_v rfl (h := ro_end ⟨rfl, rfl⟩))) (hk := ?_)) | (refine dw_c rfl rfl (h := ro_v rfl (h := ro_end ⟨rfl, rfl⟩)) (hk := ?_))) | ((first | guard_target =~ dw _ _ _ _ _ (3 :: _) _ _ _ _ | guard_target =~ dw _ _ _ _ _ (4 :: _) _ _ _ _ | guard_target =~ dw _ _ _ _ _ (5 :: _) _ _ _ _); first | (refine dw_p rfl rfl (h := (fun τ => ro_v rfl (h := ro_end ⟨rfl, rfl⟩))) (hk := ?_)) | (refine dw_c rfl rfl (h := ro_v rfl (h := ro_end ⟨rfl, rfl⟩)) (hk := ?_))) | (guard_target =~ dw _ _ _ _ _ (6 :: _) _ _ _ _; first | (refine dw_w rfl rfl (h := ro_s (h := n_call (f := 70) rfl Tryd.call70 (h := AEq.sub' [_, _] (hc := one_is _ _ _ _ _ _ _ _ _ _ (by assumption) (by assumption) (by assumption) (by assumption) (by assumption) (by assumption) (by assumption) _ _ (by assumption) (by assumption)) (hq := ro_end ⟨rfl, rfl⟩)))) (hk := ?_))) | (guard_target =~ dw _ _ _ _ _ (7 :: _) _ _ _ _; first | (refine dw_p rfl rfl (h := (fun τ => ro_s (h := n_call (f := 16) rfl Tryd.call16 (h := AEq.pure' (by first | ((repeat' (first | exact trivial | (first | exact arg_lit | exact arg_sl id id | exact arg_nil | exact arg_sl (by simp) id | exact arg_sl (by simp) (fun _ => rfl) | exact arg_row_m (by rfl) (by rfl) (fun _ => rfl) | exact arg_vw_m (by rfl) (by rfl) (fun _ => rfl) | exact arg_rn (by rfl) (by rfl) | exact arg_junk | exact arg_row_mm (by rfl) (by rfl) (fun _ => rfl)) | refine ⟨?_, ?_⟩)); done) | fail) (pput_w _ _ _ _ _ _ (by assumption)) (hq := ro_end ⟨rfl, rfl⟩))))) (hk := ?_))) | ((first | guard_target =~ dw _ _ _ _ _ (9 :: _) _ _ _ _ | guard_target =~ dw _ _ _ _ _ (10 :: _) _ _ _ _); first | (refine dw_p rfl rfl (h := (fun τ => ro_x rfl (h := ro_end ⟨rfl, rfl⟩))) (hk := ?_))) | ((first | guard_target =~ dw _ _ _ _ _ (11 :: _) _ _ _ _ | guard_target =~ dw _ _ _ _ _ (12 :: _) _ _ _ _); first | (refine dw_p rfl rfl (h := (fun τ => ro_a rfl (h := ro_end ⟨rfl, rfl⟩))) (hk := ?_))) | (guard_target =~ dw _ _ _ _ _ [] _ _ _ _; first | (refine dw_nil ?_))) | (refine hK _ _ ?_; clear hK K))
     refine ⟨⟨i + 1, a + 1, ⟨catB o (rwB ⟨rk, ri, rn, rns, rv, rvs⟩), ⟨xt', st', mt'⟩⟩⟩, [0, 1, 2, 3], ⟨by dsimp only; omega, e2_step (how := []) (o := ⟨0, false, false, false⟩) hfi opAt_0 hr ht hk, ht1, by dsimp only; omega, by dsimp only; omega⟩, by dsimp only; omega, rfl, ?_, (by repeat' (first | exact agr_refl | refine agr_cons (by rfl) ?_)), ?_⟩
     ·dsimp only
      have hU := True.intro
      (refine ⟨⟨_, (by (try simp (disch := omega) only [go_sem, seval, ↓reduceIte, hU]) <;> rfl), ?_⟩, ⟨_, (by (try simp (disch := omega) only [go_sem, seval, ↓reduceIte, hU]) <;> rfl), ?_⟩, trivial⟩ <;> (try (first | exact ale_eq (by with_reducible rfl) | exact ale_full | exact ale_sl (fun _ => rfl) | exact ale_sl (by simp) | exact ale_junk | exact ale_eq rfl)))
      all_goals trace_state
     ·dsimp only
      first | rfl | (simp (disch := omega) only [go_sem, seval, ↓reduceIte]; done) | (simp (disch := omega) only [go_sem, seval, ↓reduceIte]; rfl) | trace_state
    ·have hlm : i % wy.length < wy.length := Nat.mod_lt _ (by omega)
     obtain ⟨⟨ow, o1, o2, o3⟩, ho⟩ := ex_at hlm
     have hom := tmod_nat i wy.length
     obtain ⟨⟨rk, ri, rn, rns, rv, rvs⟩, hr⟩ : ∃ r, oneR xt.reverse fn fv fk ow o1 o2 o3 = r := ⟨_, rfl⟩
     obtain ⟨⟨xt', st', mt'⟩, ht⟩ : ∃ t, oneT ⟨xt, st, mt⟩ fn fv fk ow = t := ⟨_, rfl⟩
     have hrw := oneR_ok hr (by omega) hfb1 hfb2
     obtain ⟨ht1, ht2, ht3⟩ := oneT_ok ht hok hfc1 hfc2
     dsimp only at ht2 ht3
     have hln := rwB_ln hrw
     have hcl := catB_len o (rwB ⟨rk, ri, rn, rns, rv, rvs⟩)
     have hap := catB_map o (rwB ⟨rk, ri, rn, rns, rv, rvs⟩)
     have hU := And.intro @hap (@hom)
     repeat' (first | (guard_target =~ PWp _ _ _ _ _ _ _; first | (refine pwp_draw_ord (id := 21) [0, 1, 2, 3, 4, 5, 6, 7, 8, 9, 10, 11, 12] [6] mixed (by kernel_rfl) (by kernel_rfl) ?_) | (refine pwp_seq_k (fun K hK => ?_)) | (refine pwp_block ?_) | (refine pwp_rg_then ?_) | (refine pwp_rg ?_) | (refine pwp_skip ?_) | ((refine pwp_cond_d (fun hcd => ?_) (fun hcd => ?_)) <;> (try simp only [hcP] at hcd) <;> (try (exfalso; first | omega | exact absurd hcd (by assumption) | exact absurd (by assumption) hcd)))) | (guard_target =~ rg _ _ _ _ _ _ _; first | (guard_target =~ rg _ _ _ [] _ _ _; first | (refine rg_end ?_)) | (refine rg_a rfl (h := ?_)) | (refine rg_v rfl (h := ?_)) | (refine rg_s rfl ?_) | (refine rg_n rfl ?_)) | (guard_target =~ SOp _ _ _ _ _ _; first | (guard_target =~ SOp _ _ ⟨_, .indexAddr _ _ _, _, _, _, none⟩ _ _ _; first | (refine n_index rfl (hK := ?_))) | (guard_target =~ SOp _ _ ⟨_, .store _ _ _, _, _, _, none⟩ _ _ _; first | (refine n_store rfl (hK := ?_))) | (guard_target =~ SOp _ _ ⟨_, .call ⟨.builtin .append, _, _⟩, _, _, _, none⟩ _ _ _; first | (refine n_append_row rfl (he := by first | exact eo3 | exact eo4 | exact eo5 | exact eo9 | exact eo22 | exact eo25 | exact eo27 | exact eo28 | exact eo50 | exact eo53 | exact eo67 | exact eo69 | exact eo74 | exact eo81 | exact eo87 | exact eo112 | exact eo122 | fail) (hK := ?_))) | (guard_target =~ SOp _ _ ⟨_, .alloc _, _, _, _, none⟩ _ _ _; first | (refine n_alloc rfl (by first | exact zv3 | exact zv4 | exact zv5 | exact zv9 | exact zv22 | exact zv25 | exact zv27 | exact zv28 | exact zv50 | exact zv53 | exact zv67 | exact zv69 | exact zv74 | exact zv81 | exact zv87 | exact zv112 | exact zv122 | fail) (hK := ?_)))) | (guard_target =~ dw _ _ _ _ _ _ _ _ _ _; first | ((first | guard_target =~ dw _ _ _ _ _ (0 :: _) _ _ _ _ | guard_target =~ dw _ _ _ _ _ (8 :: _) _ _ _ _); first | (refine dw_p rfl rfl (h := (fun τ => ro_v rfl (h := ro_end ⟨rfl, rfl⟩))) (hk := ?_)) | (refine dw_c rfl rfl (h := ro_v rfl (h := ro_end ⟨rfl, rfl⟩)) (hk := ?_))) | (guard_target =~ dw _ _ _ _ _ (1 :: _) _ _ _ _; first | (refine dw_p rfl rfl (h := (fun τ => ro_v rfl (h := ro_end ⟨rfl, rfl⟩))) (hk := ?_)) | (refine dw_c rfl rfl (h := ro_v rfl (h := ro_end ⟨rfl, rfl⟩)) (hk := ?_))) | (guard_target =~ dw _ _ _ _ _ (2 :: _) _ _ _ _; first | (refine dw_p rfl rfl (h := (fun τ => ro_v rfl (h := ro_end ⟨rfl, rfl⟩))) (hk := ?_)) | (refine dw_c rfl rfl (h := ro_v rfl (h := ro_end ⟨rfl, rfl⟩)) (hk := ?_))) | ((first | guard_target =~ dw _ _ _ _ _ (3 :: _) _ _ _ _ | guard_target =~ dw _ _ _ _ _ (4 :: _) _ _ _ _ | guard_target =~ dw _ _ _ _ _ (5 :: _) _ _ _ _); first | (refine dw_p rfl rfl (h := (fun τ => ro_v rfl (h := ro_end ⟨rfl, rfl⟩))) (hk := ?_)) | (refine dw_c rfl rfl (h := ro_v rfl (h := ro_end ⟨rfl, rfl⟩)) (hk := ?_))) | (guard_target =~ dw _ _ _ _ _ (6 :: _) _ _ _ _; first | (refine dw_w rfl rfl (h := ro_s (h := n_call (f := 70) rfl Tryd.call70 (h := AEq.sub' [_, _] (hc := one_is _ _ _ _ _ _ _ _ _ _ (by assumption) (by assumption) (by assumption) (by assumption) (by assumption) (by assumption) (by assumption) _ _ (by assumption) (by assumption)) (hq := ro_end ⟨rfl, rfl⟩)))) (hk := ?_))) | (guard_target =~ dw _ _ _ _ _ (7 :: _) _ _ _ _; first | (refine dw_p rfl rfl (h := (fun τ => ro_s (h := n_call (f := 16) rfl Tryd.call16 (h := AEq.pure' (by first | ((repeat' (first | exact trivial | (first | exact arg_lit | exact arg_sl id id | exact arg_nil | exact arg_sl (by simp) id | exact arg_sl (by simp) (fun _ => rfl) | exact arg_row_m (by rfl) (by rfl) (fun _ => rfl) | exact arg_vw_m (by rfl) (by rfl) (fun _ => rfl) | exact arg_rn (by rfl) (by rfl) | exact arg_junk | exact arg_row_mm (by rfl) (by rfl) (fun _ => rfl)) | refine ⟨?_, ?_⟩)); done) | fail) (pput_w _ _ _ _ _ _ (by assumption)) (hq := ro_end ⟨rfl, rfl⟩))))) (hk := ?_))) | ((first | guard_target =~ dw _ _ _ _ _ (9 :: _) _ _ _ _ | guard_target =~ dw _ _ _ _ _ (10 :: _) _ _ _ _); first | (refine dw_p rfl rfl (h := (fun τ => ro_x rfl (h := ro_end ⟨rfl, rfl⟩))) (hk := ?_))) | ((first | guard_target =~ dw _ _ _ _ _ (11 :: _) _ _ _ _ | guard_target =~ dw _ _ _ _ _ (12 :: _) _ _ _ _); first | (refine dw_p rfl rfl (h := (fun τ => ro_a rfl (h := ro_end ⟨rfl, rfl⟩))) (hk := ?_))) | (guard_target =~ dw _ _ _ _ _ [] _ _ _ _; first | (refine dw_nil ?_))) | (refine hK _ _ ?_; clear hK K))
     refine ⟨⟨i + 1, a + 1, ⟨catB o (rwB ⟨rk, ri, rn, rns, rv, rvs⟩), ⟨xt', st', mt'⟩⟩⟩, [0, 1, 2, 3], ⟨by dsimp only; omega, e2_step (o := ⟨ow, o1, o2, o3⟩) hfi (opAt_some ho) hr ht hk, ht1, by dsimp only; omega, by dsimp only; omega⟩, by dsimp only; omega, rfl, ?_, (by repeat' (first | exact agr_refl | refine agr_cons (by rfl) ?_)), ?_⟩
     ·dsimp only
      have hU := True.intro
      (refine ⟨⟨_, (by (try simp (disch := omega) only [go_sem, seval, ↓reduceIte, hU]) <;> rfl), ?_⟩, ⟨_, (by (try simp (disch := omega) only [go_sem, seval, ↓reduceIte, hU]) <;> rfl), ?_⟩, trivial⟩ <;> (try (first | exact ale_eq (by with_reducible rfl) | exact ale_full | exact ale_sl (fun _ => rfl) | exact ale_sl (by simp) | exact ale_junk | exact ale_eq rfl)))
      all_goals trace_state
     ·dsimp only
      first | rfl | (simp (disch := omega) only [go_sem, seval, ↓reduceIte]; done) | (simp (disch := omega) only [go_sem, seval, ↓reduceIte]; rfl) | trace_state
   obtain rfl := e2_end hlt hk
   try dsimp only
   repeat' (first | (guard_target =~ PWp _ _ _ _ _ _ _; first | (refine pwp_seq_k (fun K hK => ?_)) | (refine pwp_rg_then ?_) | (refine pwp_ret ?_) | (refine pwp_exit ?_) | ((refine pwp_cond_d (fun hcd => ?_) (fun hcd => ?_)) <;> (try simp only [hcP] at hcd) <;> (try (exfalso; first | omega | exact absurd hcd (by assumption) | exact absurd (by assumption) hcd)))) | (guard_target =~ rg _ _ _ _ _ _ _; first | (guard_target =~ rg _ _ _ [] _ _ _; first | (refine rg_end ?_)) | (refine rg_a rfl (h := ?_)) | (refine rg_v rfl (h := ?_))) | (guard_target =~ (_ ∨ _) ∧ _; first | ((refine end_d [0, 1, 2] (by rw [Tryd.results37, Lf.res2]) (ale_2 ?_ ?_) ?_) <;> (try (first | exact ale_eq (by with_reducible rfl) | exact ale_full | exact ale_sl (fun _ => rfl) | exact ale_sl (by simp) | exact ale_junk | exact ale_eq rfl | exact stq (by with_reducible rfl) | exact stq (by rfl) | exact stq (by simp (disch := omega) only [go_sem, seval, ↓reduceIte, hU]))))) | (refine hK _ _ ?_; clear hK K) | (apply_assumption (exfalso := false) (symm := false)))
   all_goals trace_state
end Go.Proofs.YtohbfcmmpaikhaaDoor

set_option linter.unusedVariables false
set_option linter.unusedSimpArgs false
namespace Go.Proofs.YtohbfcmmpaikhaaDoor
open Go Go.Lf Go.Proofs
attribute [local irreducible] Lf.rg Lf.ro Lf.PWp Lf.SOp Lf.ACall Lf.Scoped Lf.dg Lf.dw
set_option maxRecDepth 20000
set_option maxHeartbeats 4000000
attribute [local irreducible] wt sumW keptL flN addX stAt xsE addT plB plI nmI oneR oneT addL fitN rpB rwB rszB catB eResL eFldL op0
end Go.Proofs.YtohbfcmmpaikhaaDoor

