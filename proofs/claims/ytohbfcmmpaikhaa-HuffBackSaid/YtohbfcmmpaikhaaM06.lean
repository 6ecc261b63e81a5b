import Derived.Test.YtohbfcmmpaikhaaLc
import Derived.Lib.ConvBytes
set_option linter.unusedVariables false
set_option linter.unusedSimpArgs false
namespace Go.Lf
open Go
theorem sop_conv_row {P : Program} {N : Nat} {o : Oper} {Γ : Env} {σ : Sto} {K : AV → Sto → Prop} {t e e' oo s : Nat} {x : Operand} {xs : List (List AV)} (ho : o.op = .convert t t x) (ht : P.underlying t = some (.slice e)) (he : P.underlying e = some (.int .u8))
    (hx : ev Γ x = .row oo s) (hs : σ[oo]? = some (.row s e' 1 xs)) (hne : xs ≠ []) (hp : purl xs.flatten = true) (hK : K (.sl false false xs) (σ.set oo .gone)) : SOp P N o Γ σ K := by
  intro ρ w a next Q hF hr hn'
  have hv := hF.ev x
  rw [hx] at hv
  simp only [VR] at hv
  have hv2 := (hv.2 _ _ _ _ hs).2 rfl
  obtain ⟨h0, h00, hO⟩ := hr.obj _ _ hs
  rcases hO with ⟨_, h⟩ | ⟨b, cap, vs, sp, h1, h2, h3, h4, h5, h6, h7⟩
  · exact absurd h hne
  have hlen : 0 < xs.length := by cases xs with | nil => exact absurd rfl hne | cons _ _ => simp
  have hblk : blk (ρ oo) = some b := by rw [h1]; simp [blk]; omega
  have hlt : b < w.heap.size := (Array.getElem?_eq_some_iff.1 h2).1
  obtain ⟨w', hw⟩ : ∃ w', w.freeze ⟨b, (vs ++ sp).toArray.size, none⟩ 1 = w' := ⟨_, rfl⟩
  have hrun : (execOp a.eval o).run P w = .ok (.value (a.eval x)) w' := by
    rw [hv2, h1]
    have hsh : w.shape? b = some (e', (vs ++ sp).toArray.size) := by unfold World.shape?; rw [h2]
    rw [← hw]
    simp [execOp, ho, convert, run_underlying_some ht, run_underlying_some he, markStringish, hsh, hv2, h1]
  have hheap : w'.heap = w.heap.modify b fun
      | .cells c elem (lo, hi) => .cells c elem (if lo == hi then ((vs ++ sp).toArray.size, (vs ++ sp).toArray.size + 1) else (min lo (vs ++ sp).toArray.size, max hi ((vs ++ sp).toArray.size + 1)))
      | o => o := by rw [← hw]; unfold World.freeze; rw [if_neg (by decide)]; rfl
  have hold : ∀ c, c ≠ b → w'.heap[c]? = w.heap[c]? := by
    intro c hc
    rw [hheap, Array.getElem?_modify, if_neg (fun h => hc h.symm)]
  have hnew : ∃ fr, w'.heap[b]? = some (.cells (vs ++ sp).toArray e' fr) := by
    rw [hheap, Array.getElem?_modify, if_pos rfl, h2]
    exact ⟨_, rfl⟩
  have hsz : w'.heap.size = w.heap.size := by rw [hheap]; simp
  have hfl : w'.os = w.os ∧ w'.tape = w.tape ∧ w'.output = w.output := by rw [← hw]; unfold World.freeze; rw [if_neg (by decide)]; exact ⟨rfl, rfl, rfl⟩
  have hkb : ∀ c, c < w.heap.size → blk (ρ oo) ≠ some c → w'.heap[c]? = w.heap[c]? := by
    intro c _ h
    exact hold c (fun e => h (by rw [hblk, e]))
  have st := step_set (ob' := .gone) (r := ρ oo) hs rfl (by trivial) hfl.1 hfl.2.1 hfl.2.2 (by omega) hkb (fun c h _ => by simp [Ob.live] at h)
  have hr' := rel_set (ob' := .gone) (r := ρ oo) hr hs rfl (by trivial) hfl.1 hfl.2.1 hfl.2.2 (by omega) hkb (fun c h _ => by simp [Ob.live] at h) (by trivial)
  unfold Oper.wp
  rw [hrun, Oper.upon_value]
  refine hn' _ _ _ _ _ hK hr' ?_ st
  rw [hv2]
  have hoo : oo < σ.length := (List.getElem?_eq_some_iff.1 hs).1
  simp only [VR]
  refine ⟨some ⟨b, 0, none⟩, cap, 1, h1, h3, h4.2, by simp, by simp, h0, fun _ => ⟨b, 0, rfl, by omega, ?_, ?_⟩⟩
  · intro hB
    rcases (Bset.mset hB) with ⟨o2, ob2, q1, q2, q3⟩ | q
    · by_cases ho2 : o2 = oo
      · subst ho2
        rw [List.getElem?_set_self hoo] at q1
        simp at q1
        subst q1
        simp [Ob.live] at q2
      · rw [List.getElem?_set_ne (by omega)] at q1
        rw [upd_ne _ _ ho2] at q3
        exact ho2 (hr.inj _ _ _ _ _ q1 hs q2 rfl q3 hblk)
    · exact hr.dis b ⟨oo, _, hs, rfl, hblk⟩ q
  · refine PVss_of _ _ _ ?_
    have hpv := VRl.pv _ _ (VRl.carry st _ _ h7) hp
    refine PVs_of _ vs _ _ hpv h6 (fun j u hj => ?_)
    obtain ⟨fr, hfr⟩ := hnew
    have hjl := (List.getElem?_eq_some_iff.1 hj).1
    simp only [World.cell?, hfr, Nat.zero_add, Option.isSome_none]
    simp [List.getElem?_append_left hjl, hj]
theorem n_conv_row {P : Program} {N : Nat} {o : Oper} {Γ : Env} {σ σ2 : Sto} {K : AV → Sto → Prop} {t e e' oo s : Nat} {x : Operand} {xs xs2 : List (List AV)} (ho : o.op = .convert t t x) (ht : P.underlying t = some (.slice e)) (he : P.underlying e = some (.int .u8))
    (hx : ev Γ x = .row oo s) (hs : σ[oo]? = some (.row s e' 1 xs)) (hne : xs ≠ []) (hp : purl xs.flatten = true) (hxs : xs = xs2) (hσ : σ.set oo .gone = σ2) (hK : K (.sl false false xs2) σ2) : SOp P N o Γ σ K := by
  subst hxs; subst hσ
  exact sop_conv_row ho ht he hx hs hne hp hK
end Go.Lf
