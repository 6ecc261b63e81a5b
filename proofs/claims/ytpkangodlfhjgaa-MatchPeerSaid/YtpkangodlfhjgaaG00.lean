import Derived.Test.YtpkangodlfhjgaaLc
set_option linter.unusedVariables false
set_option linter.unusedSimpArgs false
namespace Go.Lf
open Go
theorem sop_fz {P : Program} {N : Nat} {o : Oper} {Γ : Env} {σ : Sto} {K K' : AV → Sto → Prop} (h : SOp P N o Γ σ K') (hK : ∀ x σ', K' x σ' → K (fz (List.range σ.length) σ' x) (gcS (List.range σ.length) σ')) : SOp P N o Γ σ K := by
  intro ρ w a next Q hf hr hn
  refine h ρ w a next Q hf hr ?_
  intro x σ' ρ' w' v hx hr' hv hs
  refine hn _ _ (gcR (List.range σ.length) ρ') w' v (hK x σ' hx) (rel_gc List.nodup_range hr') (VR_gc hr' x v hv) ?_
  exact hs.trans (step_gc (by simp) hs.len' (by rw [List.take_of_length_le (by simp)]))
theorem n_make_p {P : Program} {N : Nat} {o : Oper} {Γ : Env} {σ σ2 : Sto} {K : AV → Sto → Prop} {t e sz bt n : Nat} {z : Value} {x y : Operand} {k k' : IntKind} {l c : Int} {zs : List AV} {x2 : AV} (ho : o.op = .makeSlice t x y) (ht : P.underlying t = some (.slice e)) (he : EO P e sz bt z)
    (hx : ev Γ x = .lit (.int k l)) (hy : ev Γ y = .lit (.int k' c)) (h0 : 0 ≤ l) (hlc : l ≤ c) (hb : bt * c ≤ 281474976710656) (h63 : c ≤ 9223372036854775807)
    (h1 : z.cells.toList.all (fun v => v.oneCell') = true) (hn : l.toNat = n) (hz : z.cells.toList.map alit = zs)
    (hf : fz (List.range σ.length) (σ ++ [.row 0 e sz (List.replicate n zs)]) (.row σ.length 0) = x2) (hg : gcS (List.range σ.length) (σ ++ [.row 0 e sz (List.replicate n zs)]) = σ2) (hK : K x2 σ2) : SOp P N o Γ σ K := by
  subst hn; subst hz; subst hf; subst hg
  refine sop_fz (K' := fun x σ' => x = .row σ.length 0 ∧ σ' = σ ++ [.row 0 e sz (List.replicate l.toNat (z.cells.toList.map alit))]) (sop_make ho ht he hx hy h0 hlc hb h63 h1 ⟨rfl, rfl⟩) ?_
  rintro _ _ ⟨rfl, rfl⟩
  exact hK
end Go.Lf
