import Derived.Test.YtohbfcmmpaikhaaDoorLc
import Derived.Lib.ConvBytes
set_option linter.unusedVariables false
set_option linter.unusedSimpArgs false
namespace Go.Lf
open Go
theorem PVl_bytes {M : Nat → Prop} {w : World} : ∀ l : List UInt8, PVl M w (l.map byteA).flatten (l.map fun x => Value.int .u8 x.toNat)
  | [] => by simp [PVl]
  | x :: l => by simp only [List.map_cons, List.flatten_cons, byteA, List.cons_append, List.nil_append, PVl, PV]; exact ⟨trivial, PVl_bytes l⟩
theorem sop_bytes {P : Program} {N : Nat} {o : Oper} {Γ : Env} {σ : Sto} {K : AV → Sto → Prop} {t t2 e : Nat} {x : Operand} {l : List UInt8} (ho : o.op = .convert t2 t x) (hs : P.underlying t2 = some .string) (ht : P.underlying t = some (.slice e)) (he : P.underlying e = some (.int .u8))
    (hx : ev Γ x = .lit (.string ⟨l.toArray⟩)) (hl : l.length ≤ 9223372036854775807) (hK : K (.sl false false (l.map byteA)) σ) : SOp P N o Γ σ K := by
  intro ρ w a next Q hF hr hn'
  have hv := hF.ev x
  rw [hx] at hv
  simp only [VR] at hv
  have hrun0 := Go.Lib.run_convert_string_bytes (P := P) w t2 t e ⟨l.toArray⟩ hs ht he
  have hls : (⟨l.toArray⟩ : ByteArray).size = l.length := rfl
  have hrun : (execOp a.eval o).run P w = .ok (.value (.slice (some ⟨w.heap.size, 0, none⟩) l.length (grownCap w l.length 0 e))) (Go.Lib.bytesWorld w e ⟨l.toArray⟩) := by
    rw [hls] at hrun0
    simp [execOp, ho, hv, hrun0]
  obtain ⟨w', hw⟩ : ∃ w', Go.Lib.bytesWorld w e ⟨l.toArray⟩ = w' := ⟨_, rfl⟩
  have hsz : w'.heap.size = w.heap.size + 1 := by rw [← hw]; exact Go.Lib.bytesWorld_size w e _
  have hkk : ∀ b, b < w.heap.size → w'.heap[b]? = w.heap[b]? := fun b hb => by rw [← hw]; exact Go.Lib.bytesWorld_at_old w e _ b hb
  have hcell : ∀ j (hj : j < l.length), w'.cell? ⟨w.heap.size, j, none⟩ = some (.int .u8 (l[j].toNat : Int)) := by
    intro j hj
    rw [← hw]
    have := Go.Lib.bytesWorld_cell w e ⟨l.toArray⟩ j hj
    rw [this]
    simp [List.getD, hj]
  have hfl : w'.os = w.os ∧ w'.tape = w.tape ∧ w'.output = w.output := by rw [← hw]; unfold Go.Lib.bytesWorld World.freeze; rw [if_neg (by decide)]; exact ⟨rfl, rfl, rfl⟩
  have st : Step σ.length σ ρ w σ ρ w' := ⟨hfl.1, hfl.2.1, hfl.2.2, by omega, fun b hb _ => hkk b hb, fun b hb => .inl hb, Nat.le_refl _, Nat.le_refl _, fun o ho => .refl _ _ (by simp; omega), rfl⟩
  have hr' : Rel σ ρ w' := by
    refine ⟨fun o ob h => ?_, hr.inj, fun b hb => Nat.lt_of_lt_of_le (hr.fol b hb) (by omega), hr.dis⟩
    have hO := hr.obj _ _ h
    cases hl : ob.live with
    | false => cases ob <;> simp [Ob.live] at hl; trivial
    | true => exact hO.carry st (fun b hb' => hkk b (hr.blk_lt _ _ _ h hl hb'))
  unfold Oper.wp
  rw [hrun, Oper.upon_value, hw]
  refine hn' _ _ _ _ _ hK hr' ?_ st
  simp only [VR]
  refine ⟨some ⟨w.heap.size, 0, none⟩, grownCap w l.length 0 e, 1, by rw [List.length_map], by rw [List.length_map]; exact grownCap_ge w _ _ _, grownCap_le_maxLen w _ _ _ (by simp only [maxLen]; omega), by simp, by simp, by intro y hy; simp only [List.mem_map] at hy; obtain ⟨_, _, rfl⟩ := hy; rfl, fun _ => ⟨w.heap.size, 0, rfl, by omega, ?_, ?_⟩⟩
  · intro hB
    rcases (Bset.mset hB) with ⟨o2, ob2, q1, q2, q3⟩ | q
    · have := hr.blk_lt _ _ _ q1 q2 q3
      omega
    · have := hr.fol _ q
      omega
  · refine PVss_of _ _ _ ?_
    refine PVs_of _ (l.map fun x => Value.int .u8 x.toNat) _ _ ?_ ?_ (fun j u hj => ?_)
    · exact PVl_bytes l
    · intro v hv
      simp only [List.mem_map] at hv
      obtain ⟨y, _, rfl⟩ := hv
      rfl
    · rw [Nat.zero_add]
      rw [List.getElem?_map] at hj
      cases hg : l[j]? with
      | none => rw [hg] at hj; cases hj
      | some y =>
        obtain ⟨hjl, hy⟩ := List.getElem?_eq_some_iff.1 hg
        rw [hg] at hj
        simp only [Option.map_some, Option.some.injEq] at hj
        rw [hcell j hjl, hy, ← hj]
theorem n_bytes {P : Program} {N : Nat} {o : Oper} {Γ : Env} {σ : Sto} {K : AV → Sto → Prop} {t t2 e : Nat} {x : Operand} {l : List UInt8} (ho : o.op = .convert t2 t x) (hs : P.underlying t2 = some .string) (ht : P.underlying t = some (.slice e)) (he : P.underlying e = some (.int .u8))
    (hx : ev Γ x = .lit (.string ⟨l.toArray⟩)) (hl : l.length ≤ 9223372036854775807) (hK : K (.sl false false (l.map byteA)) σ) : SOp P N o Γ σ K := sop_bytes ho hs ht he hx hl hK
end Go.Lf
