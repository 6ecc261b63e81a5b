import Derived.Test.YtdalcgfnlbofdaaGreatDoorLc
set_option linter.unusedVariables false
set_option linter.unusedSimpArgs false
namespace Go.Lf
open Go
mutual
def nol : AV → Bool
 | .sl _ q _=>!q
 | .ip q _=>!q
 | .ag xs=>zjp xs
 | .tu xs=>zjp xs
 | .gd _ x=>nol x
 | .fn _ xs=>zjp xs
 | _=>true
def zjp : List AV → Bool
 | []=>true
 | x :: xs=>nol x && zjp xs
end
def nlx (x : AV) : AV:=if nol x = true then x else .junk
def nlE (Γ : Env) : Env:=Γ.map fun p=>(p.1,nlx p.2)
theorem zoc (x : AV) : nol (nlx x) = true:=by
 unfold nlx;split
 ·assumption
 ·rfl
theorem zie (Γ : Env) (t : Nat) : get (nlE Γ) t = nlx (get Γ t):=jJ nlx rfl Γ t
mutual
theorem zod : ∀ x : AV, pur x = true → nol x = true
 | .junk,_=>rfl
 | .lit _,_=>rfl
 | .sl _ q _,h=>by simpa [pur,nol] using h
 | .ip q _,h=>by simpa [pur,nol] using h
 | .row _ _,_=>rfl
 | .vw _ _ _ _,_=>rfl
 | .ptr _ _,_=>rfl
 | .ep _ _ _ _,_=>rfl
 | .ag xs,h=>by simp only [pur] at h;simp only [nol];exact jz xs h
 | .tu xs,h=>by simp only [pur] at h;simp only [nol];exact jz xs h
 | .gd _ _,h=>by simp [pur] at h
 | .fn _ _,h=>by simp [pur] at h
theorem jz : ∀ xs : List AV, yT xs = true → zjp xs = true
 | [],_=>rfl
 | x :: xs,h=>by simp only [yT,Bool.and_eq_true] at h;simp only [zjp,Bool.and_eq_true];exact ⟨zod x h.1,jz xs h.2⟩
end
def zuT : Ob → Bool
 | .gone=>true
 | .box cs=>zjp cs
 | .row _ _ _ xs=>zjp xs.flatten
structure GenH (c : Bool) (σ : Sto) (ρ : Rz) (w : World) (σ' : Sto) (ρ' : Rz) (w' : World) : Prop where
 hz : w.heap.size ≤ w'.heap.size
 hk : ∀ b,b < w.heap.size → ¬ Own σ ρ b → w'.heap[b]? = w.heap[b]?
 hm : ∀ b,jk σ' ρ' b → jk σ ρ b ∨ w.heap.size ≤ b
 ho : c = true → ∀ b,Own σ' ρ' b → Own σ ρ b ∨ w.heap.size ≤ b
 hl : σ.length ≤ σ'.length
 hobj : ∀ o,o < σ.length → σ'[o]? = σ[o]? ∧ ρ' o = ρ o
section gen
variable {c : Bool} {σ σ' : Sto} {ρ ρ' : Rz} {w w' : World}
theorem zfp (H : GenH c σ ρ w σ' ρ' w') {q : Bool} (hq : c = true ∨ (!q) = true) : ∀ b,Bset q σ' ρ' b → Bset q σ ρ b ∨ w.heap.size ≤ b:=by
 intro b h
 cases q with
 | false=>exact H.hm b h
 | true=>exact H.ho (by simpa using hq) b h
mutual
theorem VR.gen (H : GenH c σ ρ w σ' ρ' w') : ∀ (x : AV) (v : Value), (c = true ∨ nol x = true) → VR σ ρ w x v → VR σ' ρ' w' x v
 | .junk,_,_,_=>by simp [VR]
 | .lit _,_,_,h=>by simpa [VR] using h
 | .sl full q xs,v,hc,h=>by
  simp only [VR] at h ⊢
  obtain ⟨a,cap,sz,h1,h2,h3,h4,h5,h6,h7⟩:=h
  refine ⟨a,cap,sz,h1,h2,h3,h4,h5,h6,fun hx=>?_⟩
  obtain ⟨b,o,ha,hbs,hb,hp⟩:=h7 hx
  have:=H.hz;exact ⟨b,o,ha,by omega,fun hmb=>(zfp H (by simpa [nol] using hc) b hmb).elim hb (fun hle=>absurd hle (by omega)),PVss.carry H.hz (fun b hb hm=>H.hk b hb fun ho=>hm (.inl ho)) H.hm xs b o (H.hk b hbs fun ho=>hb ho.bset) hp⟩
 | .ip q xs,v,hc,h=>by
  simp only [VR] at h ⊢
  obtain ⟨b,o,ha,hbs,hb,hp⟩:=h
  have:=H.hz;exact ⟨b,o,ha,by omega,fun hmb=>(zfp H (by simpa [nol] using hc) b hmb).elim hb (fun hle=>absurd hle (by omega)),PVs.carry H.hz (fun b hb hm=>H.hk b hb fun ho=>hm (.inl ho)) H.hm xs b o (H.hk b hbs fun ho=>hb ho.bset) hp⟩
 | .vw o s i n,v,hc,h=>by
  simp only [VR] at h ⊢
  obtain ⟨h1,h2⟩:=h
  obtain ⟨e1,e2⟩:=H.hobj o h1
  exact ⟨Nat.lt_of_lt_of_le h1 H.hl,fun s' e sz xs hs=>by rw [e1] at hs;rw [e2];exact h2 _ _ _ _ hs⟩
 | .row o s,v,hc,h=>by
  simp only [VR] at h ⊢
  obtain ⟨h1,h2⟩:=h
  obtain ⟨e1,e2⟩:=H.hobj o h1
  exact ⟨Nat.lt_of_lt_of_le h1 H.hl,fun s' e sz xs hs=>by rw [e1] at hs;rw [e2];exact h2 _ _ _ _ hs⟩
 | .ptr o k,v,hc,h=>by
  simp only [VR] at h ⊢
  obtain ⟨h1,h2⟩:=h
  obtain ⟨e1,e2⟩:=H.hobj o h1
  exact ⟨Nat.lt_of_lt_of_le h1 H.hl,fun cs hs=>by rw [e1] at hs;rw [e2];exact h2 _ hs⟩
 | .ep o s i k,v,hc,h=>by
  simp only [VR] at h ⊢
  obtain ⟨h1,h2⟩:=h
  obtain ⟨e1,e2⟩:=H.hobj o h1
  exact ⟨Nat.lt_of_lt_of_le h1 H.hl,fun s' e sz xs hs=>by rw [e1] at hs;rw [e2];exact h2 _ _ _ _ hs⟩
 | .ag xs,v,hc,h=>by
  simp only [VR] at h ⊢
  obtain ⟨vs,h1,h2⟩:=h
  exact ⟨vs,h1,VRl.gen H xs vs (by simpa [nol] using hc) h2⟩
 | .tu xs,v,hc,h=>by
  simp only [VR] at h ⊢
  obtain ⟨vs,h1,h2⟩:=h
  exact ⟨vs,h1,VRl.gen H xs vs (by simpa [nol] using hc) h2⟩
 | .fn _ xs,v,hc,h=>by
  simp only [VR] at h ⊢
  obtain ⟨vs,h1,h2⟩:=h
  exact ⟨vs,h1,VRl.gen H xs vs (by simpa [nol] using hc) h2⟩
 | .gd g x,v,hc,h=>by
  simp only [VR] at h ⊢
  exact ⟨zai H.hl x h.1,fun e=>VR.gen H x v (by simpa [nol] using hc) (h.2.1 e),h.2.2⟩
theorem VRl.gen (H : GenH c σ ρ w σ' ρ' w') : ∀ (xs : List AV) (vs : List Value), (c = true ∨ zjp xs = true) → VRl σ ρ w xs vs → VRl σ' ρ' w' xs vs
 | [],[],_,_=>by simp [VRl]
 | [],_ :: _,_,h=>by simp [VRl] at h
 | _ :: _,[],_,h=>by simp [VRl] at h
 | x :: xs,v :: vs,hc,h=>by
  simp only [VRl] at h ⊢
  simp only [zjp,Bool.and_eq_true] at hc
  exact ⟨VR.gen H x v (hc.imp id And.left) h.1,VRl.gen H xs vs (hc.imp id And.right) h.2⟩
end
theorem RelO.gen (H : GenH c σ ρ w σ' ρ' w') {r : Value} {ob : Ob} (hc : c = true ∨ zuT ob = true) (hb : ∀ b,blk r = some b → w'.heap[b]? = w.heap[b]?) (h : RelO σ ρ w r ob) : RelO σ' ρ' w' r ob:=by
 cases ob with
 | gone=>trivial
 | box cs=>
  obtain ⟨b,ty,vs,rfl,h2,h3,h4⟩:=h
  exact ⟨b,ty,vs,rfl,by rw [hb b rfl];exact h2,h3,VRl.gen H _ _ hc h4⟩
 | row s e sz xs=>
  obtain ⟨h0,h00,h⟩:=h
  refine ⟨h0,h00,?_⟩
  rcases h with h|⟨b,cap,vs,sp,rfl,h2,h3,h4,h5,h6,h7⟩
  ·exact .inl h
  ·exact .inr ⟨b,cap,vs,sp,rfl,by rw [hb b (by simp [blk];omega)];exact h2,h3,h4,h5,h6,VRl.gen H _ _ hc h7⟩
end gen
def zpp (σ : Sto) : Bool:=σ.all zuT
theorem zoe {σ : Sto} {o : Nat} {ob : Ob} (h : zpp σ = true) (e : σ[o]? = some ob) : zuT ob = true:=by
 unfold zpp at h
 rw [List.all_eq_true] at h
 exact h ob (List.mem_of_getElem? e)
def foA (ρ : Rz) (b : Nat) : Rz:=⟨ρ.val,fun x=>ρ.fo x ∨ x = b⟩
theorem kp {σ : Sto} {ρ ρ' : Rz} (h : ρ'.val = ρ.val) {b : Nat} : Own σ ρ' b ↔ Own σ ρ b:=by
 unfold Own
 simp only [h]
theorem zif {σ : Sto} {ρ : Rz} {w : World} {ob : Obj} : GenH true σ ρ w σ (foA ρ w.heap.size) (w.alloc ob):=by
 refine ⟨by simp,fun b hb _=>heap_alloc_old w _ b hb,?_,?_,Nat.le_refl _,fun o _=>⟨rfl,rfl⟩⟩
 ·rintro b (h | h | h)
  ·exact .inl (.inl ((kp rfl).1 h))
  ·exact .inl (.inr h)
  ·exact .inr (by omega)
 ·intro _ b h
  exact .inl ((kp rfl).1 h)
theorem zfq {σ : Sto} {ρ : Rz} {w : World} {ob : Obj} (x : AV) (v : Value) (h : VR σ ρ w x v) : VR σ (foA ρ w.heap.size) (w.alloc ob) x v:=VR.gen zif x v (.inl rfl) h
theorem zig {σ : Sto} {ρ : Rz} {w : World} {ob : Obj} (hr : Rel σ ρ w) : Rel σ (foA ρ w.heap.size) (w.alloc ob):=by
 refine ⟨fun o x h=>?_,hr.inj,fun b hb=>?_,fun b hb=>?_⟩
 ·have hO := hr.obj _ _ h
  cases hl : x.live with
  | false=>cases x<;>simp [Ob.live] at hl;trivial
  | true=>
   exact RelO.gen zif (.inl rfl) (fun b hb'=>heap_alloc_old w _ b (hr.blk_lt _ _ _ h hl hb')) hO
 ·rcases hb with h | h
  ·have := hr.fol b h
   simp;omega
  ·simp;omega
 ·intro hf
  have hb2:=(kp (ρ:=ρ) (ρ':=foA ρ w.heap.size) rfl).1 hb
  rcases hf with h|h
  ·exact hr.dis b hb2 h
  ·obtain ⟨o, x, h1, h2, h3⟩ := hb2
   have:=hr.blk_lt _ _ _ h1 h2 h3
   omega
def ad2 (ρ : Rz) (F : Nat → Prop) (L bA bB : Nat) : Rz:=⟨fun o=>if o = L then .pointer (some ⟨bA,0,none⟩) else if o = L + 1 then .pointer (some ⟨bB,0,none⟩) else ρ.val o,F⟩
section ad2
variable {σ : Sto} {ρ : Rz} {w : World} {F : Nat → Prop} {bA bB : Nat} {csA csB : List Value}
theorem zcA {o : Nat} (h : o < σ.length) : (σ ++ [Ob.box (csA.map alit),Ob.box (csB.map alit)])[o]? = σ[o]? ∧ (ad2 ρ F σ.length bA bB) o = ρ o:=by
 refine ⟨by rw [List.getElem?_append_left h],?_⟩
 show (if o = σ.length then _ else if o = σ.length + 1 then _ else ρ.val o) = ρ.val o
 rw [if_neg (by omega),if_neg (by omega)]
theorem zek {b : Nat} (h : Own (σ ++ [Ob.box (csA.map alit),Ob.box (csB.map alit)]) (ad2 ρ F σ.length bA bB) b) : Own σ ρ b ∨ b = bA ∨ b = bB:=by
 obtain ⟨o,ob,h1,h2,h3⟩:=h
 have hlt:=(List.getElem?_eq_some_iff.1 h1).1
 rw [List.length_append] at hlt
 simp only [List.length_cons,List.length_nil] at hlt
 by_cases ho : o < σ.length
 ·obtain ⟨e1, e2⟩ := zcA (σ := σ) (ρ := ρ) (F := F) (bA := bA) (bB := bB) (csA := csA) (csB := csB) ho
  rw [e1] at h1;rw [e2] at h3
  exact .inl ⟨o,ob,h1,h2,h3⟩
 ·by_cases hoL : o = σ.length
  ·subst hoL
   have e : (ad2 ρ F σ.length bA bB) σ.length = .pointer (some ⟨bA,0,none⟩):=if_pos rfl
   rw [e] at h3
   simp [blk] at h3
   exact .inr (.inl h3.symm)
  ·obtain rfl : o = σ.length + 1 := by omega
   have e : (ad2 ρ F σ.length bA bB) (σ.length + 1) = .pointer (some ⟨bB,0,none⟩):=by
    show (if σ.length + 1 = σ.length then _ else if σ.length + 1 = σ.length + 1 then _ else _) = _
    rw [if_neg (by omega),if_pos rfl]
   rw [e] at h3
   simp [blk] at h3
   exact .inr (.inr h3.symm)
theorem zkH (hFA : ρ.fo bA) (hFB : ρ.fo bB) (hF : ∀ b,F b → ρ.fo b) {b : Nat} (h : jk (σ ++ [Ob.box (csA.map alit),Ob.box (csB.map alit)]) (ad2 ρ F σ.length bA bB) b) : jk σ ρ b ∨ w.heap.size ≤ b:=by
 rcases h with h|h
 ·rcases zek h with h | rfl | rfl
  ·exact .inl (.inl h)
  ·exact .inl (.inr hFA)
  ·exact .inl (.inr hFB)
 ·exact .inl (.inr (hF b h))
theorem zih (hFA : ρ.fo bA) (hFB : ρ.fo bB) (hF : ∀ b,F b → ρ.fo b) : GenH false σ ρ w (σ ++ [Ob.box (csA.map alit),Ob.box (csB.map alit)]) (ad2 ρ F σ.length bA bB) w:=
 ⟨Nat.le_refl _,fun _ _ _=>rfl,fun b hb=>zkH hFA hFB hF hb,(fun e=>absurd e (by decide)),(by rw [List.length_append];omega),fun o ho=>zcA ho⟩
theorem zrL (hFA : ρ.fo bA) (hFB : ρ.fo bB) (hF : ∀ b,F b → ρ.fo b) (x : AV) (v : Value) (hx : nol x = true) (h : VR σ ρ w x v) : VR (σ ++ [Ob.box (csA.map alit),Ob.box (csB.map alit)]) (ad2 ρ F σ.length bA bB) w x v:=
 VR.gen (zih hFA hFB hF) x v (.inr hx) h
theorem zof (hr : Rel σ ρ w) (hFA : ρ.fo bA) (hFB : ρ.fo bB) (hne : bA ≠ bB) (hF : ∀ b, F b → ρ.fo b) (hnA : ¬ F bA) (hnB : ¬ F bB) {tA tB : Nat} (hnS : zpp σ = true) (hA : w.heap[bA]? = some (.cells csA.toArray tA (0, 0))) (hB : w.heap[bB]? = some (.cells csB.toArray tB (0, 0))) (h1A : csA.all (fun v => v.oneCell') = true) (h1B : csB.all (fun v => v.oneCell') = true) :
    Rel (σ ++ [Ob.box (csA.map alit),Ob.box (csB.map alit)]) (ad2 ρ F σ.length bA bB) w:=by
  have eA : (ad2 ρ F σ.length bA bB) σ.length = .pointer (some ⟨bA,0,none⟩):=if_pos rfl
  have eB : (ad2 ρ F σ.length bA bB) (σ.length + 1) = .pointer (some ⟨bB,0,none⟩):=by
    show (if σ.length + 1 = σ.length then _ else if σ.length + 1 = σ.length + 1 then _ else _) = _
    rw [if_neg (by omega),if_pos rfl]
  have cases3 : ∀ {o : Nat} {ob : Ob},(σ ++ [Ob.box (csA.map alit),Ob.box (csB.map alit)])[o]? = some ob → (o < σ.length ∧ σ[o]? = some ob ∧ (ad2 ρ F σ.length bA bB) o = ρ o) ∨ (o = σ.length ∧ ob = .box (csA.map alit)) ∨ (o = σ.length + 1 ∧ ob = .box (csB.map alit)):=by
    intro o ob h
    have hlt:=(List.getElem?_eq_some_iff.1 h).1
    rw [List.length_append] at hlt
    simp only [List.length_cons,List.length_nil] at hlt
    by_cases ho : o < σ.length
    · obtain ⟨e1, e2⟩ := zcA (σ := σ) (ρ := ρ) (F := F) (bA := bA) (bB := bB) (csA := csA) (csB := csB) ho
      rw [e1] at h
      exact .inl ⟨ho,h,e2⟩
    · rw [List.getElem?_append_right (by omega)] at h
      by_cases hoL : o = σ.length
      · subst hoL
        rw [Nat.sub_self] at h
        exact .inr (.inl ⟨rfl,by simpa using h.symm⟩)
      · obtain rfl : o = σ.length + 1 := by omega
        rw [Nat.add_sub_cancel_left] at h
        exact .inr (.inr ⟨rfl,by simpa using h.symm⟩)
  have hown : ∀ {o : Nat} {ob : Ob} {b : Nat},σ[o]? = some ob → ob.live = true → blk (ρ o) = some b → ¬ ρ.fo b:=fun h1 h2 h3=>hr.dis _ ⟨_,_,h1,h2,h3⟩
  refine ⟨fun o ob h=>?_,fun o o' ob ob' b h h' hl hl' hb hb'=>?_,fun b hb=>hr.fol b (hF b hb),fun b hb=>?_⟩
  · rcases cases3 h with ⟨ho, h, e⟩ | ⟨rfl, rfl⟩ | ⟨rfl, rfl⟩
    · rw [e]
      exact RelO.gen (zih hFA hFB hF) (.inr (zoe hnS h)) (fun _ _=>rfl) (hr.obj _ _ h)
    · rw [eA]
      exact ⟨bA,tA,csA,rfl,hA,by simpa using h1A,vW _ _ _ _⟩
    · rw [eB]
      exact ⟨bB,tB,csB,rfl,hB,by simpa using h1B,vW _ _ _ _⟩
  · rcases cases3 h with ⟨ho, h, e⟩ | ⟨rfl, rfl⟩ | ⟨rfl, rfl⟩ <;> rcases cases3 h' with ⟨ho', h', e'⟩ | ⟨rfl, rfl⟩ | ⟨rfl, rfl⟩
    · rw [e] at hb; rw [e'] at hb'
      exact hr.inj _ _ _ _ _ h h' hl hl' hb hb'
    · rw [e] at hb; rw [eA] at hb'
      simp [blk] at hb';subst hb'
      exact absurd hFA (hown h hl hb)
    · rw [e] at hb; rw [eB] at hb'
      simp [blk] at hb';subst hb'
      exact absurd hFB (hown h hl hb)
    · rw [e'] at hb'; rw [eA] at hb
      simp [blk] at hb;subst hb
      exact absurd hFA (hown h' hl' hb')
    · rfl
    · rw [eA] at hb; rw [eB] at hb'
      simp [blk] at hb hb'
      exact absurd (hb.trans hb'.symm) hne
    · rw [e'] at hb'; rw [eB] at hb
      simp [blk] at hb;subst hb
      exact absurd hFB (hown h' hl' hb')
    · rw [eB] at hb; rw [eA] at hb'
      simp [blk] at hb hb'
      exact absurd (hb'.trans hb.symm) hne
    · rfl
  · intro hf
    rcases zek hb with h|rfl|rfl
    · exact hr.dis b h (hF b hf)
    · exact hnA hf
    · exact hnB hf
end ad2
theorem zkI (g : Nat) : nol (zdB g) = true:=by
 unfold zdB
 split<;>rfl
section al2
variable {P : Program} {N : Nat}
def ztg (l : List Oper) (m d t : Nat) : Bool := match l[m]? with
 | some o => (match o.dst, o.op, o.guard with
  | some e,.alloc u,none=>e == d && u == t
  | _,_,_=>false)
 | none=>false
theorem zii {l : List Oper} {m d t : Nat} (h : ztg l m d t = true) : ∃ o,l[m]? = some o ∧ o.dst = some d ∧ o.op = .alloc t ∧ o.guard = none:=by
 unfold ztg at h
 split at h
 ·rename_i o ho
  split at h
  ·rename_i e u h1 h2 h3
   simp only [Bool.and_eq_true,beq_iff_eq] at h
   obtain ⟨rfl,rfl⟩:=h
   exact ⟨o,ho,h1,h2,h3⟩
  ·cases h
 ·cases h
theorem zmb {t : Nat} {cs : List Value} {o : Oper} (ho : o.op = .alloc t) (hz : ((P.info? t).bind fun i => i.zero.map fun z => z.cells.toList) = some cs) (a : Act) (w : World) :
    (execOp a.eval o).run P w = .ok (.value (.pointer (some ⟨w.heap.size,0,none⟩))) (w.alloc (.cells cs.toArray t)):=by
  obtain ⟨i,hi,z,hz0,hz1⟩ : ∃ i,P.info? t = some i ∧ ∃ z,i.zero = some z ∧ z.cells.toList = cs:=by
    cases hi : P.info? t with
    | none=>rw [hi] at hz;simp at hz
    | some i=>
      rw [hi] at hz
      cases hz0 : i.zero with
      | none=>simp [hz0] at hz
      | some z=>simp [hz0] at hz;exact ⟨i,rfl,z,hz0,hz⟩
  have : z.cells = cs.toArray:=by rw [← hz1]
  simp [execOp,ho,Instr.alloc,zeroValue,typeInfo,hi,hz0,newVar,newRow,this]
theorem vR {a : Act} {d : Option Nat} {v : Value} {e : Nat} (h : d ≠ some e) : (a.put d v).tmps.getD e undef = a.tmps.getD e undef:=by
 cases d with
 | none=>rfl
 | some d=>
  have : e ≠ d:=fun q=>h (by rw [q])
  simp only [Act.put,Array.getD_eq_getD_getElem?,Array.getElem?_setIfInBounds_ne (Ne.symm this)]
theorem zax {a : Act} {v : Value} {e : Nat} (h : e < a.tmps.size) : (a.put (some e) v).tmps.getD e undef = v:=by
 simp [Act.put,Array.getD_eq_getD_getElem?,h]
structure AlV (σ : Sto) (ρ' : Rz) (w w' : World) (a' : Act) (d t b : Nat) (cs : List Value) : Prop where
 at_ : a'.tmps.getD d undef = .pointer (some ⟨b,0,none⟩)
 fo : ρ'.fo b
 ge : w.heap.size ≤ b
 lt : b < w'.heap.size
 he : w'.heap[b]? = some (.cells cs.toArray t (0,0))
structure AlI (n : Nat) (σ : Sto) (ρ : Rz) (w : World) (lA lB : Bool) (dA dB tA tB : Nat) (csA csB : List Value) (ρ' : Rz) (w' : World) (a' : Act) : Prop where
 st : Step n σ ρ w σ ⟨ρ'.val,ρ.fo⟩ w'
 fo : ∀ b,ρ.fo b → ρ'.fo b
 vA : lA = true → ∃ b,AlV σ ρ' w w' a' dA tA b csA
 vB : lB = true → ∃ b,AlV σ ρ' w w' a' dB tB b csB
 ne : lA = true → lB = true → a'.tmps.getD dA undef ≠ a'.tmps.getD dB undef
theorem AlV.step {σ : Sto} {ρ1 ρ2 : Rz} {w w1 w2 : World} {a1 a2 : Act} {d t b : Nat} {cs : List Value} (h : AlV σ ρ1 w w1 a1 d t b cs) (hr : Rel σ ρ1 w1) (st : Step σ.length σ ρ1 w1 σ ρ2 w2) (ha : a2.tmps.getD d undef = a1.tmps.getD d undef) : AlV σ ρ2 w w2 a2 d t b cs:=
 ⟨by rw [ha];exact h.at_,by rw [st.fo];exact h.fo,h.ge,Nat.lt_of_lt_of_le h.lt st.size,by rw [st.kept b h.lt (fun ho=>hr.dis b ho h.fo)];exact h.he⟩
theorem AlI.step {n : Nat} {σ : Sto} {ρ : Rz} {w : World} {lA lB : Bool} {dA dB tA tB : Nat} {csA csB : List Value} {ρ1 ρ2 : Rz} {w1 w2 : World} {a1 a2 : Act} (h : AlI n σ ρ w lA lB dA dB tA tB csA csB ρ1 w1 a1) (hr : Rel σ ρ1 w1) (st : Step σ.length σ ρ1 w1 σ ρ2 w2)
    (hA : a2.tmps.getD dA undef = a1.tmps.getD dA undef) (hB : a2.tmps.getD dB undef = a1.tmps.getD dB undef) : AlI n σ ρ w lA lB dA dB tA tB csA csB ρ2 w2 a2:=by
  have st2 : Step n σ ⟨ρ1.val,ρ.fo⟩ w1 σ ⟨ρ2.val,ρ.fo⟩ w2:=
    ⟨st.os,st.tape,st.output,st.size,fun b hb ho=>st.kept b hb (fun h=>ho ((kp rfl).2 h)),fun b hb=>(st.own b ((kp rfl).1 hb)).imp (kp rfl).2 id,h.st.len,h.st.len',fun o ho=>st.obj o (Nat.lt_of_lt_of_le ho h.st.len),rfl⟩
  exact ⟨h.st.trans st2,fun b hb=>by rw [st.fo];exact h.fo b hb,fun e=>(h.vA e).imp fun b k=>k.step hr st hA,fun e=>(h.vB e).imp fun b k=>k.step hr st hB,fun e1 e2=>by rw [hA,hB];exact h.ne e1 e2⟩
theorem zgf {l : List Oper} (hok : kb l.toArray = true) {m : Nat} (htl : zbE l.toArray (m + 1) = true) (Q : Exit → Act → World → Prop) :
    ∀ (rest : List Oper) (k : Nat) (listed : Array Bool) (a : Act) (w : World), l.drop k = rest → m ≤ k → k ≤ l.length → listed.size = l.length → (∀ i, i < l.length → (listed.getD i false = true ↔ i < k)) →
      wpList P l.toArray Q rest a w → wpAny P .any l.toArray Q rest.length listed a w:=by
  intro rest
  induction rest with
  | nil=>
    intro k listed a w hd hm hk hsz hl h
    have hkl : k = l.length:=by
      have:=congrArg List.length hd
      simp at this;omega
    refine ⟨?_,h⟩
    unfold Region.ready
    rw [List.filter_eq_nil_iff]
    intro i hi
    have hi' : i < l.length:=by simpa using hi
    have:=(hl i hi').2 (by omega)
    have h2 : listed.getD i true = true:=by
      have hlt : i < listed.size:=by omega
      simpa [Array.getD,hlt] using this
    simp [h2]
  | cons o rest ih=>
    intro k listed a w hd hm hk hsz hl h
    have hkl : k < l.length:=by
      have:=congrArg List.length hd
      simp at this;omega
    have ho : l.toArray[k]? = some o:=by
      have:=congrArg List.head? hd
      rw [List.head?_drop] at this
      simpa using this
    have hd' : l.drop (k + 1) = rest:=by
      rw [← List.tail_drop,hd];rfl
    have hfalse : ∀ i,i < l.length → k ≤ i → listed.getD i true = false:=by
      intro i hi hki
      have hlt : i < listed.size:=by omega
      cases hq : listed.getD i true with
      | false=>rfl
      | true=>
        have : listed.getD i false = true:=by simpa [Array.getD,hlt] using hq
        have:=(hl i hi).1 this
        omega
    have htrue : ∀ i,i < k → listed.getD i false = true:=fun i hi=>(hl i (by omega)).2 hi
    have hpre : ∀ e ∈ o.after,Region.binds .any e = true → listed.getD e.on false = true:=fun e he hb=>htrue _ (vG hok ho e he hb)
    refine ⟨fun hnil=>?_,fun i hi=>?_⟩
    · exfalso
      have hmem : k ∈ Region.ready .any l.toArray listed:=by
        unfold Region.ready
        rw [List.mem_filter]
        refine ⟨by simpa using hkl,?_⟩
        rw [ho]
        simp only [Option.map_some,Option.getD_some,Bool.and_eq_true,Bool.not_eq_true',hfalse k hkl (Nat.le_refl _),true_and]
        rw [Array.all_eq_true']
        intro e he
        cases hb : Region.binds .any e with
        | false=>rfl
        | true=>simpa using hpre e he hb
      rw [hnil] at hmem
      simp at hmem
    · have hik : i = k:=by
        unfold Region.ready at hi
        rw [List.mem_filter] at hi
        obtain ⟨hi1,hi2⟩:=hi
        have hil : i < l.length:=by simpa using hi1
        obtain ⟨p,hp⟩ : ∃ p,l.toArray[i]? = some p:=⟨l[i],by simp [hil]⟩
        rw [hp] at hi2
        simp only [Option.map_some,Option.getD_some,Bool.and_eq_true,Bool.not_eq_true'] at hi2
        obtain ⟨hi2,hi3⟩:=hi2
        rw [Array.all_eq_true'] at hi3
        rcases Nat.lt_trichotomy i k with hlt|rfl|hgt
        · exfalso
          have:=htrue i hlt
          have hlt' : i < listed.size:=by omega
          have h2 : listed.getD i true = true:=by simpa [Array.getD,hlt'] using this
          rw [h2] at hi2;cases hi2
        · rfl
        · exfalso
          have hcl : ∀ i o,listed.getD i false = true → l.toArray[i]? = some o → ∀ e ∈ o.after,Region.binds .any e = true → listed.getD e.on false = true:=by
            intro j q hj hq e he hb
            have hjl : j < l.length:=by have:=(Array.getElem?_eq_some_iff.1 hq).1;simpa using this
            have:=(hl j hjl).1 hj
            exact htrue _ (by have:=vG hok hq e he hb;omega)
          have:=yi hcl 4 i (fun q hq e he hb=>by
            rw [hp] at hq;simp at hq;subst hq
            have:=hi3 e he
            simpa [hb] using this) k (vN htl (by omega) (by simpa using hil) hgt)
          have hlt : k < listed.size:=by omega
          have h2 : listed.getD k true = true:=by simpa [Array.getD,hlt] using this
          rw [hfalse k hkl (Nat.le_refl _)] at h2
          cases h2
      subst hik
      have hl' : ∀ j,j < l.length → ((listed.setIfInBounds i true).getD j false = true ↔ j < i + 1):=by
        intro j hj
        by_cases hji : j = i
        · subst hji
          have hi0 : j < listed.size:=by omega
          simp [Array.getD_eq_getD_getElem?,hi0]
        · have := hl j hj
          rw [Array.getD_eq_getD_getElem?,Array.getElem?_setIfInBounds_ne (Ne.symm hji),← Array.getD_eq_getD_getElem?,this]
          omega
      have go : ∀ a' w',wpList P l.toArray Q rest a' w' → wpAny P .any l.toArray Q rest.length (listed.setIfInBounds i true) a' w':=
        fun a' w' h'=>ih (i + 1) _ a' w' hd' (by omega) (by omega) (by simpa using hsz) hl' h'
      unfold wpOp
      rw [ho]
      unfold wpList at h
      simp only
      split
      · rename_i hw
        rw [if_pos hw] at h
        rcases h with h|h
        · exact .inl (Oper.wp_mono go h)
        · exact .inr h
      · rename_i hw
        rw [if_neg hw] at h
        exact go _ _ h
theorem zkJ {l : List Oper} {listed : Array Bool} {m : Nat} (hml : m ≤ l.length) (hsz : listed.size = l.length) (ht : ∀ i, m ≤ i → i < l.length → listed.getD i false = false) (hall : ∀ i, i < m → listed.getD i false = true) :
    ((List.range l.length).filter (fun i=>!listed.getD i true)).length = (l.drop m).length:=by
  have hsplit : List.range l.length = List.range m ++ (List.range (l.length - m)).map (m + ·):=by
    rw [← List.range_add];congr 1;omega
  have hN : ∀ i,i < m → listed.getD i true = true:=by
    intro i hi
    have h1:=hall i hi
    have h2 : i < listed.size:=by omega
    simpa [Array.getD,h2] using h1
  have hT : ∀ i,i < l.length - m → listed.getD (m + i) true = false:=by
    intro i hi
    have h1:=ht (m + i) (by omega) (by omega)
    have h2 : m + i < listed.size:=by omega
    simpa [Array.getD,h2] using h1
  rw [hsplit,List.filter_append,List.length_append]
  have e1 : (List.range m).filter (fun i=>!listed.getD i true) = []:=by
    rw [List.filter_eq_nil_iff]
    intro i hi
    simp [hN i (by simpa using hi)]
  have e2 : ((List.range (l.length - m)).map (m + ·)).filter (fun i=>!listed.getD i true) = (List.range (l.length - m)).map (m + ·):=by
    rw [List.filter_eq_self]
    intro i hi
    rw [List.mem_map] at hi
    obtain ⟨j,hj,rfl⟩:=hi
    simp [hT j (by simpa using hj)]
  rw [e1,e2]
  simp
theorem zcB {l : List Oper} {listed : Array Bool} {i fuel : Nat} (hil : i < l.length) (hi2 : listed.getD i true = false) (hcnt : ((List.range l.length).filter (fun i=>!listed.getD i true)).length = fuel + 1) : ((List.range l.length).filter (fun k=>!(listed.setIfInBounds i true).getD k true)).length = fuel:=by
 have hperm : ((List.range l.length).filter (fun k=>!listed.getD k true)).length = ((List.range l.length).filter (fun k=>!(listed.setIfInBounds i true).getD k true)).length + 1:=by
  have hsplit : ∀ (r : List Nat),r.Nodup → i ∈ r → (r.filter (fun k=>!listed.getD k true)).length = (r.filter (fun k=>!(listed.setIfInBounds i true).getD k true)).length + 1:=by
   intro r
   induction r with
   | nil=>intro _ h;simp at h
   | cons k r ihr=>
    intro hnd hmem
    rw [List.nodup_cons] at hnd
    by_cases hki : k = i
    ·subst hki
     have hsame : r.filter (fun q=>!(listed.setIfInBounds k true).getD q true) = r.filter (fun q=>!listed.getD q true):=by
      apply List.filter_congr
      intro q hq
      have hqk : q ≠ k:=fun e=>hnd.1 (e ▸ hq)
      simp only [Array.getD_eq_getD_getElem?,Array.getElem?_setIfInBounds_ne (Ne.symm hqk)]
     have h1 : (listed.setIfInBounds k true).getD k true = true:=by simp [Array.getD_eq_getD_getElem?,Array.getElem?_setIfInBounds];split<;>simp_all
     simp only [List.filter_cons,hi2,h1,Bool.not_false,if_true,Bool.not_true,List.length_cons,hsame]
     simp
    ·have hmem' : i ∈ r := by simpa [Ne.symm hki] using hmem
     have hk : (listed.setIfInBounds i true).getD k true = listed.getD k true:=by
      simp only [Array.getD_eq_getD_getElem?,Array.getElem?_setIfInBounds_ne (Ne.symm hki)]
     have:=ihr hnd.2 hmem'
     simp only [List.filter_cons,hk]
     split<;>simp_all
  exact hsplit _ List.nodup_range (by simpa using hil)
 omega
structure al3K (P : Program) (N : Nat) (ops : Array Oper) (ok oS : Oper) (l2 : List Oper) (dA dB L L2 : Nat) (σ2 : Sto) (K : Env → Sto → Prop) (Γ : Env) : Prop where
 p_ : ∃ x σ3, (∀ τ, ro P N ops [ok] (rst ops ok Γ) τ (fun Γ1 τ' => Γ1 = put (rst ops ok Γ) ok.dst x ∧ τ' = τ)) ∧ (rst ops ok Γ).all (fun p => nol p.2) = true ∧
  ro P N ops [oS] (rst ops oS ((dB,.ptr L2 0) :: (dA,.ptr L 0) :: nlE (put Γ ok.dst x))) σ2 (fun Γ1 τ=>Γ1 = put (rst ops oS ((dB,.ptr L2 0) :: (dA,.ptr L 0) :: nlE (put Γ ok.dst x))) oS.dst .junk ∧ τ = σ3) ∧
  rg P N ops l2 ((dB,.ptr L2 0) :: (dA,.ptr L 0) :: nlE (put Γ ok.dst x)) σ3 K
theorem zrM {ops : Array Oper} {d : Nat} {op op' : Op} {ty ty' : TypeId} {pos pos' : String} {af af' : Array Edge} {g g' : Option (Nat × Bool)} {l2 : List Oper} {dA dB L L2 : Nat} {σ2 σ3 : Sto} {K : Env → Sto → Prop} {Γ R RS : Env} {x : AV} (hR : rst ops ⟨some d, op, ty, pos, af, g⟩ Γ = R) (hk : ∀ τ, ro P N ops [⟨some d, op, ty, pos, af, g⟩] R τ (fun Γ1 τ' => Γ1 = (d, x) :: R ∧ τ' = τ)) (hn : R.all (fun p => nol p.2) = true)
    (hE : nlE ((d,x) :: Γ) = (d,x) :: Γ) (hRS : rst ops ⟨none,op',ty',pos',af',g'⟩ ((dB,.ptr L2 0) :: (dA,.ptr L 0) :: (d,x) :: Γ) = RS) (hS : ro P N ops [⟨none,op',ty',pos',af',g'⟩] RS σ2 (fun Γ1 τ=>Γ1 = RS ∧ τ = σ3)) (hK : rg P N ops l2 ((dB,.ptr L2 0) :: (dA,.ptr L 0) :: (d,x) :: Γ) σ3 K) : al3K P N ops ⟨some d,op,ty,pos,af,g⟩ ⟨none,op',ty',pos',af',g'⟩ l2 dA dB L L2 σ2 K Γ:=by
  subst hR hRS
  refine ⟨x,σ3,hk,hn,?_,?_⟩
  · have e : nlE (put Γ (some d) x) = (d, x) :: Γ := hE
    show ro P N ops _ (rst ops _ (_ :: _ :: nlE (put Γ (some d) x))) σ2 (fun Γ1 τ=>Γ1 = rst ops _ (_ :: _ :: nlE (put Γ (some d) x)) ∧ τ = σ3)
    rw [e];exact hS
  · show rg P N ops l2 (_ :: _ :: nlE ((d, x) :: Γ)) σ3 K
    rw [hE];exact hK
def zel (ops : Array Oper) (k m : Nat) : Bool:=(List.range m).all fun j=>j == k || (reachB ops 4 m).contains j
theorem zgg {ops : Array Oper} {k m j : Nat} (h : zel ops k m = true) (hj : j < m) (hk : j ≠ k) : j ∈ reachB ops 4 m:=by
 unfold zel at h
 rw [List.all_eq_true] at h
 have:=h j (by simpa using hj)
 simpa [hk] using this
def zfr (ops : Array Oper) (o : Oper) (ds : List Nat) : Bool:=ds.all fun d=>!(o.looksAt ops).contains d
theorem za7 {ops : Array Oper} {o : Oper} {ds : List Nat} {d : Nat} (h : zfr ops o ds = true) (hd : d ∈ ds) : d ∉ o.looksAt ops:=by
 unfold zfr at h
 rw [List.all_eq_true] at h
 have:=h d hd
 simpa using this
def jT (ops : Array Oper) (m : Nat) : Nat → Nat → List Nat
 | 0,_=>[]
 | n + 1, i => match ops[i]? with
  | none=>[]
  | some o=>(o.after.toList.filter (Region.binds .any)).flatMap fun e=>if e.on = m then [] else e.on :: jT ops m n e.on
def zog (ops : Array Oper) (k m : Nat) : Bool:=(List.range ops.size).all fun i=>decide (i ≤ m) || (jT ops m 4 i).contains k
theorem zkK {ops : Array Oper} {k m i : Nat} (h : zog ops k m = true) (hm : m < i) (hi : i < ops.size) : k ∈ jT ops m 4 i:=by
 unfold zog at h
 rw [List.all_eq_true] at h
 have:=h i (by simpa using hi)
 simp only [Bool.or_eq_true,decide_eq_true_eq] at this
 have h2:=this.resolve_left (by omega)
 simpa using h2
set_option maxHeartbeats 2000000 in
theorem j8 {n id : Nat} {l : List Oper} {Γ : Env} {σ : Sto} {Q : Exit → Env → Sto → Prop} {K : Env → Sto → Prop} {dk dA dB tA tB : Nat} {csA csB : List Value} {ok oS : Oper} (k : Nat) (hm : P.follows .mixedOrders = true) (hok : kb l.toArray = true) (htl : zbE l.toArray (k + 4) = true) (hbt : zog l.toArray k (k + 3) = true) (hsO : zel l.toArray k (k + 3) = true) (hml : decide (k + 4 ≤ l.length) = true)
    (hAl : ztg l (k + 1) dA tA = true) (hBl : ztg l (k + 2) dB tB = true) (hNA : decide (dA < N) = true) (hNB : decide (dB < N) = true)
    (hok1 : l[k]? = some ok) (hok2 : ok.dst = some dk) (hok3 : ok.guard = none) (hoS1 : l[k + 3]? = some oS) (hoS2 : oS.dst = none) (hoS3 : oS.guard = none) (hfk : zfr l.toArray ok [dA,dB] = true) (hfS : zfr l.toArray oS [dk] = true)
    (hzA : ((P.info? tA).bind fun i=>i.zero.map fun z=>z.cells.toList) = some csA) (hzB : ((P.info? tB).bind fun i=>i.zero.map fun z=>z.cells.toList) = some csB) (h1A : csA.all (fun v=>v.oneCell') = true) (h1B : csB.all (fun v=>v.oneCell') = true) (hnS : zpp σ = true)
    {l1 l2 : List Oper} {σ2 : Sto} {L L2 : Nat} (hl1 : l.take k = l1) (hl2 : l.drop (k + 4) = l2) (hL : σ.length = L) (hL2 : L + 1 = L2) (hσ : σ ++ [.box (csA.map alit),.box (csB.map alit)] = σ2)
    (h : dg P N l.toArray l1 Γ σ (fun Γ' σ'=>al3K P N l.toArray ok oS l2 dA dB L L2 σ2 K Γ')) :
    PWp P N n (.region id l.toArray true) Γ σ (yW K Q):=by
  intro ρ w a hn hf hr
  subst hl1 hl2 hL hL2 hσ
  refine wp_region_any hm ?_
  have hml4 : k + 4 ≤ l.length:=of_decide_eq_true hml
  have hNA : dA < N:=of_decide_eq_true hNA
  have hNB : dB < N:=of_decide_eq_true hNB
  obtain ⟨oA,hoA,hdA,hopA,hgA⟩:=zii hAl
  obtain ⟨oB,hoB,hdB,hopB,hgB⟩:=zii hBl
  obtain ⟨xs00,hlen00,hK0,hops00⟩:=zb6 (l.take k) Γ σ h
  obtain ⟨xk,σ3,hkro,hknol,hSro,hKrg⟩:=hK0.p_
  obtain ⟨m0,hm0⟩ : ∃ m0,m0 = k + 1:=⟨_,rfl⟩
  obtain ⟨m,hmm⟩ : ∃ m,m = k + 3:=⟨_,rfl⟩
  have hlk : (l.take k).length = k:=by rw [List.length_take];omega
  have hlm : (l.take m0).length = m0:=by rw [List.length_take];omega
  rw [show k + 4 = m + 1 from by omega] at htl hKrg
  rw [show k + 3 = m from by omega] at hoS1 hsO hbt
  rw [show k + 1 = m0 from by omega] at hoA
  rw [show k + 2 = m0 + 1 from by omega] at hoB
  have hml : m + 1 ≤ l.length:=by omega
  -- values for the whole text;those of the new variables and of the tail are of no account
  obtain ⟨xs0,hxs0⟩ : ∃ xs0,xs0 = xs00 ++ [xk]:=⟨_,rfl⟩
  have hlen0 : xs0.length = (l.take m0).length:=by rw [hxs0,List.length_append,hlen00,hlk,hlm,hm0];rfl
  obtain ⟨xs,hxs⟩ : ∃ xs,xs = xs0 ++ List.replicate (l.length - m0) AV.junk:=⟨_,rfl⟩
  have hlen : xs.length = l.length:=by rw [hxs,List.length_append,List.length_replicate,hlen0,hlm];omega
  have htx : ∀ (l1 l2 : List Oper) (ys zs : List AV) (Δ : Env) (i : Nat),l1.length = ys.length → i ≤ l1.length → zm Δ (l1 ++ l2) (ys ++ zs) i = zm Δ l1 ys i:=by
    intro l1
    induction l1 with
    | nil=>intro l2 ys zs Δ i _ hi;simp at hi;subst hi;cases (([] : List Oper) ++ l2)<;>cases ys<;>simp [zm]
    | cons o l1 ih=>
      intro l2 ys zs Δ i hl hi
      cases ys with
      | nil=>simp at hl
      | cons y ys=>
        cases i with
        | zero=>simp [zm]
        | succ i=>simp only [List.cons_append,zm];exact ih l2 ys zs _ i (by simpa using hl) (by simpa using hi)
  have hte : ∀ i,i ≤ k → zm Γ l xs i = zm Γ (l.take k) xs00 i:=by
    intro i hi
    have e1 : zm Γ l xs i = zm Γ (l.take m0) xs0 i:=by
      conv=>lhs;rw [← List.take_append_drop m0 l,hxs]
      exact htx _ _ _ _ _ _ hlen0.symm (by omega)
    have e2 : l.take m0 = l.take k ++ [ok]:=by rw [hm0,List.take_add_one,hok1];rfl
    rw [e1,e2,hxs0]
    exact htx _ _ _ _ _ _ hlen00.symm (by omega)
  have hxk : xs[k]? = some xk:=by
    rw [hxs,List.getElem?_append_left (by omega),hxs0,List.getElem?_append_right (by omega),hlen00,hlk,Nat.sub_self];rfl
  have htk : zm Γ l xs m0 = put (zm Γ l xs k) ok.dst xk:=by
    rw [hm0]
    exact j1 l xs Γ k (by omega) hlen ok xk hok1 hxk
  have htk0 : zm Γ (l.take k) xs00 (l.take k).length = zm Γ l xs k:=by rw [hlk,hte k (Nat.le_refl _)]
  rw [htk0] at hkro hknol hSro hKrg
  rw [← htk] at hSro hKrg
  have hops : ∀ i o x,i < m0 → l[i]? = some o → xs[i]? = some x → ro P N l.toArray [o] (rst l.toArray o (zm Γ l xs i)) σ (fun Γ1 τ=>Γ1 = put (rst l.toArray o (zm Γ l xs i)) o.dst x ∧ τ = σ):=by
    intro i o x hi ho hx
    by_cases hik : i = k
    · subst hik
      rw [hok1] at ho
      obtain rfl:=Option.some.inj ho
      rw [hxk] at hx
      obtain rfl:=Option.some.inj hx
      exact hkro σ
    · rw [hte i (by omega)]
      refine hops00 i o x (by rw [List.getElem?_take_of_lt (by omega)];exact ho) ?_
      rw [hxs,List.getElem?_append_left (by omega),hxs0,List.getElem?_append_left (by omega)] at hx
      exact hx
  have hjunk : ∀ i x,m0 ≤ i → xs[i]? = some x → x = .junk:=by
    intro i x hi hx
    rw [hxs,List.getElem?_append_right (by omega)] at hx
    exact List.eq_of_mem_replicate (List.mem_of_getElem? hx)
  generalize hQ : (fun e a' w'=>∃ Γ' σ' ρ',yW K Q e Γ' σ' ∧ FR N Γ' σ' ρ' w' a' ∧ Rel σ' ρ' w' ∧ Step n σ ρ w σ' ρ' w') = Q0
  have hdist : ∀ (i j : Nat) (o p : Oper) (d : Nat),i ≠ j → l.toArray[i]? = some o → l.toArray[j]? = some p → p.dst = some d → o.dst ≠ some d:=fun i j o p d hij ho hp hd=>(ki hok ho hp (Ne.symm hij) hd).1
  have hlen' : xs.length = l.toArray.size:=by simpa using hlen
  have htext:=zb7 hdist Γ xs hlen'
  have hoA' : l.toArray[m0]? = some oA:=by simpa using hoA
  have hoB' : l.toArray[m0 + 1]? = some oB:=by simpa using hoB
  have hdne : dA ≠ dB:=fun e=>hdist m0 (m0 + 1) oA oB dB (by omega) hoA' hoB' hdB (by rw [hdA,e])
  have hokA : l.toArray[k]? = some ok:=by simpa using hok1
  have hoSA : l.toArray[m]? = some oS:=by simpa using hoS1
  have see : ∀ (listed : Array Bool) (Γ' : Env) (i : Nat) (o : Oper), (∀ i o, listed.getD i false = true → l.toArray[i]? = some o → ∀ e ∈ o.after, Region.binds .any e = true → listed.getD e.on false = true) → Agr l.toArray xs Γ (fun j => listed.getD j false = true) Γ' → i < l.length → l.toArray[i]? = some o →
      (∀ e ∈ o.after,Region.binds .any e = true → listed.getD e.on false = true) → listed.getD i false = false → ∀ t ∈ o.looksAt l.toArray,get Γ' t = get (zm Γ l xs i) t:=by
    intro listed Γ' i o hcl hag hil ho hpre hli t ht
    have hT:=htext i (by simp;omega)
    have hsee : get Γ' t = get (zm Γ l xs i) t:=by
      by_cases hex : ∃ j p,j ≠ i ∧ l.toArray[j]? = some p ∧ p.dst = some t
      · obtain ⟨j, p, hji, hp, hpd⟩ := hex
        obtain ⟨_,hpair⟩:=ki hok ho hp hji hpd
        obtain ⟨hlt,hge⟩:=hpair ht
        have hj:=(Array.getElem?_eq_some_iff.1 hp).1
        have hxj : xs[j]? = some xs[j]:=List.getElem?_eq_getElem (by omega)
        by_cases hji' : j < i
        · obtain ⟨e, he, hb, heon⟩ := hlt hji'
          have hlj:=hpre e he hb
          rw [heon] at hlj
          rw [(hag t).1 j p _ hlj hp hpd hxj,(hT t).1 j p _ hji' hp hpd hxj]
        · obtain ⟨e, he, hb, heon⟩ := hge hji'
          have huniq : ∀ k q,l.toArray[k]? = some q → q.dst = some t → k = j:=by
            intro k q hq hqd
            by_cases hkj : k = j
            · exact hkj
            · exact absurd hqd (hdist k j q p t hkj hq hp hpd)
          have hnj : ¬ listed.getD j false = true:=by
            intro hlj
            have:=hcl j p hlj hp e he hb
            rw [heon,hli] at this
            cases this
          rw [(hag t).2 (fun k q hL hq hqd=>hnj (by rw [← huniq k q hq hqd];exact hL)),(hT t).2 (fun k q hk hq hqd=>by have:=huniq k q hq hqd;omega)]
      · have hn : ∀ k q, k ≠ i → l.toArray[k]? = some q → q.dst ≠ some t := fun k q hk hq hqd => hex ⟨k, q, hk, hq, hqd⟩
        rw [(hag t).2 (fun k q hL hq hqd=>hn k q (by intro e;have hL' : listed.getD k false = true:=hL;rw [e,hli] at hL';cases hL') hq hqd),(hT t).2 (fun k q hk hq hqd=>hn k q (by omega) hq hqd)]
    exact hsee
  have main : ∀ (fuel : Nat) (listed : Array Bool) (Γ' : Env) (ρ' : Rz) (a' : Act) (w' : World), listed.size = l.length → ((List.range l.length).filter (fun i => !listed.getD i true)).length = fuel →
      (∀ i,m ≤ i → i < l.length → listed.getD i false = false) →
      (∀ i o,listed.getD i false = true → l.toArray[i]? = some o → ∀ e ∈ o.after,Region.binds .any e = true → listed.getD e.on false = true) →
      Agr l.toArray xs Γ (fun j=>listed.getD j false = true) Γ' → FR N Γ' σ ρ' w' a' → Rel σ ρ' w' → AlI n σ ρ w (listed.getD m0 false) (listed.getD (m0 + 1) false) dA dB tA tB csA csB ρ' w' a' → wpAny P .any l.toArray Q0 fuel listed a' w':=by
    intro fuel
    -- the store,and what follows
    have sto : ∀ (fuel : Nat) (listed : Array Bool) (Γ' : Env) (ρ' : Rz) (a' : Act) (w' : World), listed.size = l.length → ((List.range l.length).filter (fun i => !listed.getD i true)).length = fuel + 1 →
        (∀ i,m ≤ i → i < l.length → listed.getD i false = false) → (∀ i,i < m → i ≠ k → listed.getD i false = true) →
        (∀ i o,listed.getD i false = true → l.toArray[i]? = some o → ∀ e ∈ o.after,Region.binds .any e = true → listed.getD e.on false = true) →
        Agr l.toArray xs Γ (fun j=>listed.getD j false = true) Γ' → FR N Γ' σ ρ' w' a' → Rel σ ρ' w' → AlI n σ ρ w (listed.getD m0 false) (listed.getD (m0 + 1) false) dA dB tA tB csA csB ρ' w' a' → wpOp P l.toArray Q0 m (wpAny P .any l.toArray Q0 fuel (listed.setIfInBounds m true)) a' w':=by
      intro fuel listed Γ' ρ' a' w' hsz hcnt ht hall hcl hag hf' hr' st
      have hlA:=hall m0 (by omega) (by omega)
      have hlB:=hall (m0 + 1) (by omega) (by omega)
      rw [hlA,hlB] at st
      obtain ⟨bA,vA⟩:=st.vA rfl
      obtain ⟨bB,vB⟩:=st.vB rfl
      have hne : bA ≠ bB:=fun e=>st.ne rfl rfl (by rw [vA.at_,vB.at_,e])
      have hnA : ¬ ρ.fo bA:=fun h=>by have:=hr.fol _ h;have:=vA.ge;omega
      have hnB : ¬ ρ.fo bB:=fun h=>by have:=hr.fol _ h;have:=vB.ge;omega
      have hrel:=zof hr' vA.fo vB.fo hne st.fo hnA hnB hnS vA.he vB.he h1A h1B
      have hVR:=fun (x : AV) (v : Value)=>zrL (σ:=σ) (w:=w') (csA:=csA) (csB:=csB) vA.fo vB.fo st.fo x v
      have hlenS : (σ ++ [Ob.box (csA.map alit),Ob.box (csB.map alit)]).length = σ.length + 2:=by rw [List.length_append];rfl
      have stp : Step n σ ρ w (σ ++ [Ob.box (csA.map alit),Ob.box (csB.map alit)]) (ad2 ρ' ρ.fo σ.length bA bB) w':=by
        refine ⟨st.st.os,st.st.tape,st.st.output,st.st.size,st.st.kept,fun b hb=>?_,st.st.len,by have:=st.st.len';omega,fun o ho=>?_,rfl⟩
        · rcases zek hb with h | rfl | rfl
          · exact st.st.own b ((kp rfl).2 h)
          · exact .inr vA.ge
          · exact .inr vB.ge
        · have hol : o < σ.length := Nat.lt_of_lt_of_le ho st.st.len
          obtain ⟨e1,e2⟩:=zcA (σ:=σ) (ρ:=ρ') (F:=ρ.fo) (bA:=bA) (bB:=bB) (csA:=csA) (csB:=csB) hol
          rw [e1,e2]
          exact st.st.obj o ho
      have eA : (ad2 ρ' ρ.fo σ.length bA bB) σ.length = .pointer (some ⟨bA,0,none⟩):=if_pos rfl
      have eB : (ad2 ρ' ρ.fo σ.length bA bB) (σ.length + 1) = .pointer (some ⟨bB,0,none⟩):=by
        show (if σ.length + 1 = σ.length then _ else if σ.length + 1 = σ.length + 1 then _ else _) = _
        rw [if_neg (by omega),if_pos rfl]
      have hGV : GV (σ ++ [Ob.box (csA.map alit),Ob.box (csB.map alit)]) (ad2 ρ' ρ.fo σ.length bA bB) w':=fun g=>hVR _ _ (zkI g) (hf'.2.1.2 g)
      -- what the slots hold
      have hsee : ∀ i,i ≠ dA → i ≠ dB → i ≠ dk → get Γ' i = get (zm Γ l xs m0) i:=by
        intro i hiA hiB hik
        have hT:=htext m0 (by simp;omega) i
        have hG:=hag i
        by_cases hex : ∃ j o,j < m0 ∧ l.toArray[j]? = some o ∧ o.dst = some i
        · obtain ⟨j, o, hj, ho, hd⟩ := hex
          have hjk : j ≠ k:=by
            rintro rfl
            rw [hokA] at ho
            obtain rfl:=Option.some.inj ho
            rw [hok2] at hd
            exact hik (Option.some.inj hd).symm
          have hxj : xs[j]? = some xs[j]:=List.getElem?_eq_getElem (by omega)
          rw [hG.1 j o _ (hall j (by omega) hjk) ho hd hxj,hT.1 j o _ hj ho hd hxj]
        · rw [hG.2 (fun j o hj ho hd => ?_), hT.2 (fun j o hj ho hd => hex ⟨j, o, hj, ho, hd⟩)]
          have hjl : j < l.length:=by have:=(Array.getElem?_eq_some_iff.1 ho).1;simpa using this
          have hj' : listed.getD j false = true:=hj
          have hjm : j < m:=by
            rcases Nat.lt_or_ge j m with h1|h1
            · exact h1
            · rw [ht j h1 hjl] at hj';cases hj'
          by_cases hj0 : j < m0
          · exact hex ⟨j,o,hj0,ho,hd⟩
          · by_cases hjA : j = m0
            · subst hjA
              rw [hoA'] at ho
              obtain rfl:=Option.some.inj ho
              rw [hdA] at hd
              exact hiA (Option.some.inj hd).symm
            · obtain rfl : j = m0 + 1 := by omega
              rw [hoB'] at ho
              obtain rfl:=Option.some.inj ho
              rw [hdB] at hd
              exact hiB (Option.some.inj hd).symm
      have hdkA : dk ≠ dA:=fun e=>hdist m0 k oA ok dk (by omega) hoA' hokA hok2 (by rw [hdA,e])
      have hdkB : dk ≠ dB:=fun e=>hdist (m0 + 1) k oB ok dk (by omega) hoB' hokA hok2 (by rw [hdB,e])
      obtain ⟨Γs,hΓs⟩ : ∃ Γs,Γs = (dB,AV.ptr (σ.length + 1) 0) :: (dA,AV.ptr σ.length 0) :: nlE Γ':=⟨_,rfl⟩
      obtain ⟨Γ3,hΓ3⟩ : ∃ Γ3,Γ3 = (dB,AV.ptr (σ.length + 1) 0) :: (dA,AV.ptr σ.length 0) :: nlE (zm Γ l xs m0):=⟨_,rfl⟩
      rw [← hΓ3] at hSro hKrg
      have gs : ∀ i,get Γs i = if i = dB then AV.ptr (σ.length + 1) 0 else if i = dA then AV.ptr σ.length 0 else nlx (get Γ' i):=fun i=>by rw [hΓs,← zie];rfl
      have g3 : ∀ i,get Γ3 i = if i = dB then AV.ptr (σ.length + 1) 0 else if i = dA then AV.ptr σ.length 0 else nlx (get (zm Γ l xs m0) i):=fun i=>by rw [hΓ3,← zie];rfl
      have g3k : get Γ3 dk = nlx xk:=by
        rw [g3,if_neg hdkB,if_neg hdkA,htk,hok2]
        show nlx (if dk = dk then xk else _) = _
        rw [if_pos rfl]
      have gss : ∀ i,i ≠ dk → get Γs i = get Γ3 i:=by
        intro i hik
        rw [gs,g3]
        by_cases hiB : i = dB
        · rw [if_pos hiB,if_pos hiB]
        · by_cases hiA : i = dA
          · rw [if_neg hiB,if_pos hiA,if_neg hiB,if_pos hiA]
          · rw [if_neg hiB,if_neg hiA,if_neg hiB,if_neg hiA,hsee i hiA hiB hik]
      have hfs : FR N Γs (σ ++ [Ob.box (csA.map alit),Ob.box (csB.map alit)]) (ad2 ρ' ρ.fo σ.length bA bB) w' a':=by
        refine ⟨hf'.1,⟨hf'.2.1.1,hGV⟩,fun i=>?_⟩
        rw [gs]
        by_cases hiB : i = dB
        · subst hiB
          rw [if_pos rfl,vB.at_]
          simp only [VR]
          exact ⟨by omega,fun cs _=>⟨bB,eB,rfl⟩⟩
        · by_cases hiA : i = dA
          · subst hiA
            rw [if_neg hiB,if_pos rfl,vA.at_]
            simp only [VR]
            exact ⟨by omega,fun cs _=>⟨bA,eA,rfl⟩⟩
          · rw [if_neg hiB, if_neg hiA]
            refine hVR _ _ (zoc _) ?_
            unfold nlx
            split
            · exact hf'.2.2 i
            · simp only [VR]
      have hi0 : m < listed.size:=by omega
      have hcnt1:=zcB (l:=l) (listed:=listed) (i:=m) (by omega) (by have:=ht m (Nat.le_refl _) (by omega);have h2 : m < listed.size:=hi0;simpa [Array.getD,h2] using this) hcnt
      have hoth : ∀ j,j ≠ m → (listed.setIfInBounds m true).getD j false = listed.getD j false:=fun j hj=>by
        simp only [Array.getD_eq_getD_getElem?,Array.getElem?_setIfInBounds_ne (Ne.symm hj)]
      have hself : (listed.setIfInBounds m true).getD m false = true:=by simp [Array.getD_eq_getD_getElem?,hi0]
      -- the end
      have fin : ∀ (listed2 : Array Bool) (fuel2 : Nat) (ρ4 : Rz) (a4 : Act) (w4 : World),listed2.size = l.length → ((List.range l.length).filter (fun i=>!listed2.getD i true)).length = fuel2 → (∀ i,i < l.length → (listed2.getD i false = true ↔ i < m + 1)) → FR N Γ3 σ3 ρ4 w4 a4 → Rel σ3 ρ4 w4 → Step n σ ρ w σ3 ρ4 w4 → wpAny P .any l.toArray Q0 fuel2 listed2 a4 w4:=by
        intro listed2 fuel2 ρ4 a4 w4 hsz2 hc2 hl2 hf4 hr4 st4
        have hfu:=zkJ (m:=m + 1) hml hsz2 (fun i h1 h2=>by
          cases hq : listed2.getD i false with
          | false=>rfl
          | true=>have:=(hl2 i h2).1 hq;omega) (fun i h1=>(hl2 i (by omega)).2 h1)
        rw [hc2] at hfu
        subst hfu
        refine zgf (m:=m) hok htl Q0 (l.drop (m + 1)) (m + 1) listed2 a4 w4 rfl (by omega) hml hsz2 hl2 (hKrg n Q0 σ ρ w ?_ ρ4 a4 w4 hf4 hr4 st4)
        intro Γ2 σ2 ρ2 a2 w2 hK2 hf2 hr2 st2
        rw [← hQ]
        exact ⟨Γ2,σ2,ρ2,hK2,hf2,hr2,st2⟩
      -- the store runs
      unfold wpOp
      rw [hoSA]
      simp only
      rw [if_pos (by simp [Region.wanted,hoS3])]
      refine .inl ?_
      have hfrS:=hfs.rst (ops:=l.toArray) (o:=oS) (Γ:=Γ3) (fun t ht=>gss t (fun e=>za7 hfS List.mem_cons_self (e ▸ ht)))
      unfold ro rgn at hSro
      rw [hoS3] at hSro
      simp only [rgn] at hSro
      refine hSro.2 _ w' a' _ Q0 hfrS hrel ?_
      intro x' σ' ρ5 w5 v hK5 hr5 hv5 st5
      obtain ⟨_,hs5⟩:=hK5
      subst hs5
      rw [hoS2]
      have hf5 : FR N Γs σ' ρ5 w5 a':=hfs.carry st5
      have stn : Step n σ ρ w σ' ρ5 w5:=stp.trans (st5.mono stp.len')
      show wpAny P .any l.toArray Q0 fuel (listed.setIfInBounds m true) a' w5
      cases hlk2 : listed.getD k false with
      | true=>
        refine fin _ _ ρ5 a' w5 (by simpa using hsz) hcnt1 (fun i hi=>?_) ⟨hf5.1,hf5.2.1,fun i=>?_⟩ hr5 stn
        · by_cases him : i = m
          · subst him;rw [hself];simp
          · rw [hoth i him]
            constructor
            · intro h1
              rcases Nat.lt_or_ge i m with h2|h2
              · omega
              · rw [ht i h2 hi] at h1;cases h1
            · intro h1
              by_cases hik : i = k
              · rw [hik];exact hlk2
              · exact hall i (by omega) hik
        · by_cases hik : i = dk
          · subst hik
            have e : get Γ' i = xk:=(hag i).1 k ok xk hlk2 hokA hok2 hxk
            have:=hf5.2.2 i
            rw [gs,if_neg hdkB,if_neg hdkA,e] at this
            rw [g3k];exact this
          · rw [← gss i hik];exact hf5.2.2 i
      | false=>
        have hk0 : k < listed.size:=by omega
        have hkt : listed.getD k true = false:=by simpa [Array.getD,hk0] using hlk2
        have hkm : k ≠ m:=by omega
        have hkt2 : (listed.setIfInBounds m true).getD k true = false:=by
          simp only [Array.getD_eq_getD_getElem?,Array.getElem?_setIfInBounds_ne (Ne.symm hkm)] at hkt ⊢;exact hkt
        cases fuel with
        | zero=>
          exfalso
          have:=List.eq_nil_of_length_eq_zero hcnt1
          rw [List.filter_eq_nil_iff] at this
          have:=this k (by simp;omega)
          simp [hkt2] at this
        | succ fuel=>
          have hpre : ∀ e ∈ ok.after,Region.binds .any e = true → listed.getD e.on false = true:=fun e he hb=>by
            have:=vG hok hokA e he hb
            exact hall e.on (by omega) (by omega)
          have hready : ∀ i ∈ Region.ready .any l.toArray (listed.setIfInBounds m true),i = k:=by
            intro i hi
            unfold Region.ready at hi
            rw [List.mem_filter] at hi
            obtain ⟨hi1,hi2⟩:=hi
            have hil : i < l.length:=by simpa using hi1
            obtain ⟨o,ho⟩ : ∃ o,l.toArray[i]? = some o:=⟨l[i],by simp [hil]⟩
            rw [ho] at hi2
            simp only [Option.map_some,Option.getD_some,Bool.and_eq_true,Bool.not_eq_true'] at hi2
            obtain ⟨hi2,hi3⟩:=hi2
            rw [Array.all_eq_true'] at hi3
            have hunl : (listed.setIfInBounds m true).getD i false = false:=by
              have hlt : i < (listed.setIfInBounds m true).size:=by simp;omega
              simp only [Array.getD_eq_getD_getElem?,Array.getElem?_eq_getElem hlt,Option.getD_some] at hi2 ⊢
              exact hi2
            have him : i ≠ m:=by rintro rfl;rw [hself] at hunl;cases hunl
            rw [hoth i him] at hunl
            rcases Nat.lt_or_ge i m with h1|h1
            · by_cases hik : i = k
              · exact hik
              · rw [hall i h1 hik] at hunl;cases hunl
            · exfalso
              have hcl2 : ∀ i o,(listed.setIfInBounds m true).getD i false = true → l.toArray[i]? = some o → i ≠ m → ∀ e ∈ o.after,Region.binds .any e = true → listed.getD e.on false = true:=fun j q hj hq hjm e he hb=>hcl j q (by rw [← hoth j hjm];exact hj) hq e he hb
              have hkr : k ∈ reachB l.toArray 4 i:=vN htl (by omega) (by simpa using hil) (by omega)
              have hcl3 : ∀ j q,(fun j=>j = m ∨ listed.getD j false = true) j → l.toArray[j]? = some q → ∀ e ∈ q.after,Region.binds .any e = true → (fun j=>j = m ∨ (listed.getD j false = true ∧ j ≠ m)) e.on ∨ True:=fun _ _ _ _ _ _ _=>.inr trivial
              -- i is bound behind k,over operations that are listed or m
              have key2 : ∀ (f j : Nat),j ≠ m → (∀ o,l.toArray[j]? = some o → ∀ e ∈ o.after,Region.binds .any e = true → (listed.setIfInBounds m true).getD e.on false = true) → k ∈ jT l.toArray m f j → False:=by
                intro f
                induction f with
                | zero=>intro j _ _ h;simp [jT] at h
                | succ f ih=>
                  intro j hjm hj h
                  unfold jT at h
                  split at h
                  · simp at h
                  · rename_i q hq
                    rw [List.mem_flatMap] at h
                    obtain ⟨e,he,h⟩:=h
                    rw [List.mem_filter] at he
                    have hle:=hj q hq e (by simpa using he.1) he.2
                    split at h
                    · simp at h
                    · rename_i hem
                      rw [hoth _ hem] at hle
                      rw [List.mem_cons] at h
                      rcases h with h|h
                      · rw [← h,hlk2] at hle;cases hle
                      · exact ih e.on hem (fun q' hq' e' he' hb'=>by
                          have:=hcl e.on q' hle hq' e' he' hb'
                          by_cases hem' : e'.on = m
                          · rw [hem'];exact hself
                          · rw [hoth _ hem'];exact this) h
              exact key2 4 i him (fun q hq e he hb=>by
                rw [ho] at hq;obtain rfl:=Option.some.inj hq
                have:=hi3 e he
                simpa [hb] using this) (zkK hbt (by omega) (by simpa using hil))
          refine ⟨fun hnil=>?_,fun i hi=>?_⟩
          · exfalso
            have hmem : k ∈ Region.ready .any l.toArray (listed.setIfInBounds m true):=by
              unfold Region.ready
              rw [List.mem_filter]
              refine ⟨by simp;omega,?_⟩
              rw [hokA]
              simp only [Option.map_some,Option.getD_some,Bool.and_eq_true,Bool.not_eq_true',hkt2,true_and]
              rw [Array.all_eq_true']
              intro e he
              cases hb : Region.binds .any e with
              | false=>rfl
              | true=>
                have:=hpre e he hb
                have hem : e.on ≠ m:=by have:=vG hok hokA e he hb;omega
                rw [← hoth _ hem] at this
                simpa using this
            rw [hnil] at hmem
            simp at hmem
          · obtain rfl := hready i hi
            have hcnt2:=zcB (l:=l) (listed:=listed.setIfInBounds m true) (i:=i) (by omega) hkt2 hcnt1
            have hsk:=see listed Γ' i ok hcl hag (by omega) hokA hpre hlk2
            have hfrk : FR N (rst l.toArray ok (zm Γ l xs i)) σ' ρ5 w5 a':=by
              refine ⟨hf5.1,hf5.2.1,fun t=>?_⟩
              unfold Lf.rst
              rw [zg7]
              split
              · rename_i ht2
                have htA : t ≠ dA:=fun e=>za7 hfk List.mem_cons_self (e ▸ ht2)
                have htB : t ≠ dB:=fun e=>za7 hfk (List.mem_cons_of_mem _ List.mem_cons_self) (e ▸ ht2)
                have:=hf5.2.2 t
                rw [gs,if_neg htB,if_neg htA,hsk t ht2] at this
                have hno : nol (get (zm Γ l xs i) t) = true:=by
                  rw [List.all_eq_true] at hknol
                  exact hknol (t,get (zm Γ l xs i) t) (by unfold Lf.rst;exact List.mem_map.2 ⟨t,ht2,rfl⟩)
                unfold nlx at this
                rw [if_pos hno] at this
                exact this
              · simp only [VR]
            unfold wpOp
            rw [hokA]
            simp only
            rw [if_pos (by simp [Region.wanted,hok3])]
            refine .inl ?_
            have hk5:=hkro σ'
            unfold ro rgn at hk5
            rw [hok3] at hk5
            simp only [rgn] at hk5
            refine hk5.2 ρ5 w5 a' _ Q0 hfrk hr5 ?_
            intro x6 σ6 ρ6 w6 v6 hK6 hr6 hv6 st6
            obtain ⟨he6,hs6⟩:=hK6
            subst hs6
            have hf6:=zI (hf5.carry st6) hk5.1 he6 hv6
            rw [hok2] at hf6 ⊢
            refine fin _ _ ρ6 _ w6 (by simp [hsz]) hcnt2 (fun j hj=>?_) ⟨hf6.1,hf6.2.1,fun t=>?_⟩ hr6 (stn.trans (st6.mono stn.len'))
            · by_cases hji : j = i
              · subst hji
                have hlt : j < (listed.setIfInBounds m true).size:=by simp;omega
                have : ((listed.setIfInBounds m true).setIfInBounds j true).getD j false = true:=by simp [Array.getD_eq_getD_getElem?,hlt,hk0]
                rw [this]
                constructor
                · intro _;omega
                · intro _;rfl
              · have : ((listed.setIfInBounds m true).setIfInBounds i true).getD j false = (listed.setIfInBounds m true).getD j false:=by
                  simp only [Array.getD_eq_getD_getElem?,Array.getElem?_setIfInBounds_ne (Ne.symm hji)]
                rw [this]
                by_cases hjm : j = m
                · subst hjm;rw [hself];simp
                · rw [hoth j hjm]
                  constructor
                  · intro h1
                    rcases Nat.lt_or_ge j m with h2|h2
                    · omega
                    · rw [ht j h2 hj] at h1;cases h1
                  · intro h1
                    exact hall j (by omega) hji
            · have := hf6.2.2 t
              by_cases htk2 : t = dk
              · subst htk2
                have e : get (put Γs (some t) xk) t = xk:=if_pos rfl
                rw [e] at this
                rw [g3k]
                unfold nlx
                split
                · exact this
                · simp only [VR]
              · have e : get (put Γs (some dk) xk) t = get Γs t := if_neg htk2
                rw [e,gss t htk2] at this
                exact this
    induction fuel with
    | zero=>
      intro listed Γ' ρ' a' w' hsz hcnt ht hcl hag hf' hr' st
      exfalso
      have : (List.range l.length).filter (fun i=>!listed.getD i true) = []:=List.eq_nil_of_length_eq_zero hcnt
      rw [List.filter_eq_nil_iff] at this
      have h1:=this m (by simp;omega)
      have h2 : m < listed.size:=by omega
      have h3:=ht m (Nat.le_refl _) (by omega)
      have h4 : listed.getD m true = false:=by simpa [Array.getD,h2] using h3
      simp [h4] at h1
    | succ fuel ih=>
      intro listed Γ' ρ' a' w' hsz hcnt ht hcl hag hf' hr' st
      refine ⟨fun hnil=>?_,fun i hi=>?_⟩
      · exfalso
        -- the least that is not listed is ready
        have hex : ∃ i,i < l.length ∧ listed.getD i true = false:=by
          have hne : (List.range l.length).filter (fun i=>!listed.getD i true) ≠ []:=by intro e;rw [e] at hcnt;simp at hcnt
          obtain ⟨i,hi⟩:=List.exists_mem_of_ne_nil _ hne
          rw [List.mem_filter] at hi
          exact ⟨i,by simpa using hi.1,by simpa using hi.2⟩
        obtain ⟨i,⟨hi1,hi2⟩,hmin⟩:=exists_least hex
        obtain ⟨o,ho⟩ : ∃ o,l.toArray[i]? = some o:=⟨l[i],by simp [hi1]⟩
        have hmem : i ∈ Region.ready .any l.toArray listed:=by
          unfold Region.ready
          rw [List.mem_filter]
          refine ⟨by simpa using hi1,?_⟩
          rw [ho]
          simp only [Option.map_some,Option.getD_some,Bool.and_eq_true,Bool.not_eq_true',hi2,true_and]
          rw [Array.all_eq_true']
          intro e he
          cases hb : Region.binds .any e with
          | false=>rfl
          | true=>
            have hlt:=vG hok ho e he hb
            have : listed.getD e.on false = true:=by
              cases hge : listed.getD e.on true with
              | true => have hlt' : e.on < listed.size := by omega
                        simpa [Array.getD,hlt'] using hge
              | false=>have:=hmin e.on ⟨by omega,hge⟩;omega
            simpa using this
        rw [hnil] at hmem
        simp at hmem
      · unfold Region.ready at hi
        rw [List.mem_filter] at hi
        obtain ⟨hi1,hi2⟩:=hi
        have hil : i < l.length:=by simpa using hi1
        obtain ⟨o,ho⟩ : ∃ o,l.toArray[i]? = some o:=⟨l[i],by simp [hil]⟩
        obtain ⟨x,hx⟩ : ∃ x,xs[i]? = some x:=⟨xs[i],List.getElem?_eq_getElem (by omega)⟩
        rw [ho] at hi2
        simp only [Option.map_some,Option.getD_some,Bool.and_eq_true,Bool.not_eq_true'] at hi2
        obtain ⟨hi2,hi3⟩:=hi2
        rw [Array.all_eq_true'] at hi3
        have hpre : ∀ e ∈ o.after,Region.binds .any e = true → listed.getD e.on false = true:=by
          intro e he hb
          have:=hi3 e he
          simpa [hb] using this
        have hli : listed.getD i false = false:=by
          have hlt' : i < listed.size:=by omega
          simpa [Array.getD,hlt'] using hi2
        have hsee:=see listed Γ' i o hcl hag hil ho hpre hli
        by_cases himm : i = m
        · subst himm
          exact sto fuel listed Γ' ρ' a' w' hsz hcnt ht (fun j hj hjk=>yi hcl 4 i (fun q hq e he hb=>by rw [ho] at hq;simp at hq;subst hq;exact hpre e he hb) j (zgg hsO hj hjk)) hcl hag hf' hr' st
        have him : i < m:=by
          rcases Nat.lt_or_ge i m with h1|h1
          · exact h1
          · exfalso
            have:=yi hcl 4 i (fun q hq e he hb=>by rw [ho] at hq;simp at hq;subst hq;exact hpre e he hb) m (vN htl (by omega) (by simpa using hil) (by omega))
            rw [ht m (Nat.le_refl _) (by omega)] at this;cases this
        have hcnt':=zcB (l:=l) (listed:=listed) hil hi2 hcnt
        have key : ∀ (ρ2 : Rz) (w2 : World) (v : Value),FR N (put Γ' o.dst x) σ ρ2 w2 (a'.put o.dst v) → Rel σ ρ2 w2 → AlI n σ ρ w ((listed.setIfInBounds i true).getD m0 false) ((listed.setIfInBounds i true).getD (m0 + 1) false) dA dB tA tB csA csB ρ2 w2 (a'.put o.dst v) → wpAny P .any l.toArray Q0 fuel (listed.setIfInBounds i true) (a'.put o.dst v) w2:=by
          intro ρ2 w2 v hf2 hr2 st2
          refine ih _ (put Γ' o.dst x) ρ2 _ w2 (by simpa using hsz) hcnt' ?_ ?_ ?_ hf2 hr2 st2
          · intro k hk hkl
            have hki : k ≠ i:=by omega
            rw [Array.getD_eq_getD_getElem?,Array.getElem?_setIfInBounds_ne (Ne.symm hki),← Array.getD_eq_getD_getElem?]
            exact ht k hk hkl
          · intro k q hk hq e he hb
            have hmono : ∀ m,listed.getD m false = true → (listed.setIfInBounds i true).getD m false = true:=by
              intro m hm
              by_cases hmi : m = i
              · have hi0 : i < listed.size := by omega
                simp [hmi,Array.getD_eq_getD_getElem?,hi0]
              · simpa [Array.getD_eq_getD_getElem?,Array.getElem?_setIfInBounds_ne (Ne.symm hmi)] using hm
            by_cases hki : k = i
            · subst hki
              rw [ho] at hq
              simp at hq
              subst hq
              exact hmono _ (hpre e he hb)
            · refine hmono _ (hcl k q ?_ hq e he hb)
              simpa [Array.getD_eq_getD_getElem?,Array.getElem?_setIfInBounds_ne (Ne.symm hki)] using hk
          · have := hag.put ho hx (fun j p d hji hp hpd => hdist i j o p d (Ne.symm hji) ho hp hpd)
            intro t
            have hL : ∀ j,(listed.setIfInBounds i true).getD j false = true ↔ (j = i ∨ listed.getD j false = true):=by
              intro j
              by_cases hji : j = i
              · have hi0 : i < listed.size := by omega
                simp [hji,Array.getD_eq_getD_getElem?,hi0]
              · simp [Array.getD_eq_getD_getElem?,Array.getElem?_setIfInBounds_ne (Ne.symm hji),hji]
            exact ⟨fun j p y hj=>(this t).1 j p y ((hL j).1 hj),fun hn=>(this t).2 (fun j p hj=>hn j p ((hL j).2 hj))⟩
        have hoth : ∀ j,j ≠ i → (listed.setIfInBounds i true).getD j false = listed.getD j false:=fun j hj=>by
          simp only [Array.getD_eq_getD_getElem?,Array.getElem?_setIfInBounds_ne (Ne.symm hj)]
        have hself : (listed.setIfInBounds i true).getD i false = true:=by
          have hi0 : i < listed.size:=by omega
          simp [Array.getD_eq_getD_getElem?,hi0]
        by_cases hiA : i = m0
        · subst hiA
          rw [hoA'] at ho
          obtain rfl:=Option.some.inj ho
          obtain rfl:=hjunk i x (Nat.le_refl _) hx
          unfold wpOp
          rw [hoA']
          simp only
          rw [if_pos (by simp [Region.wanted,hgA])]
          refine .inl ?_
          unfold Oper.wp
          rw [zmb hopA hzA,Oper.upon_value]
          have hdstB : oA.dst ≠ some dB:=by rw [hdA];intro e;exact hdne (Option.some.inj e)
          refine key (foA ρ' w'.heap.size) _ _ ?_ (zig hr') ?_
          · refine FR.put ⟨hf'.1,⟨hf'.2.1.1,fun g=>zfq _ _ (hf'.2.1.2 g)⟩,fun k=>zfq _ _ (hf'.2.2 k)⟩ _ (fun k hk=>by rw [hdA] at hk;have:=Option.some.inj hk;omega) _ _ (by simp only [VR])
          · rw [hself, hoth _ (by omega)]
            have hsz' : w'.heap.size ≤ (w'.alloc (.cells csA.toArray tA)).heap.size:=by simp
            refine ⟨?_,fun b hb=>.inl (st.fo b hb),fun _=>⟨w'.heap.size,by rw [hdA];exact zax (by rw [hf'.1];exact hNA),.inr rfl,st.st.size,by simp,heap_alloc_new w' _⟩,fun e=>?_,fun _ e=>?_⟩
            · exact ⟨st.st.os,st.st.tape,st.st.output,Nat.le_trans st.st.size hsz',fun b hb ho=>by rw [heap_alloc_old w' _ b (Nat.lt_of_lt_of_le hb st.st.size)];exact st.st.kept b hb ho,fun b hb=>st.st.own b ((kp rfl).2 ((kp rfl).1 hb)),st.st.len,st.st.len',fun o ho=>st.st.obj o ho,rfl⟩
            · obtain ⟨b, vB⟩ := st.vB e
              exact ⟨b,by rw [vR hdstB];exact vB.at_,.inl vB.fo,vB.ge,Nat.lt_of_lt_of_le vB.lt hsz',by rw [heap_alloc_old w' _ b vB.lt];exact vB.he⟩
            · obtain ⟨b, vB⟩ := st.vB e
              have e1 : (a'.put oA.dst (.pointer (some ⟨w'.heap.size,0,none⟩))).tmps.getD dA undef = .pointer (some ⟨w'.heap.size,0,none⟩):=by rw [hdA];exact zax (by rw [hf'.1];exact hNA)
              rw [e1,vR hdstB,vB.at_]
              intro q
              have:=vB.lt
              simp only [Value.pointer.injEq,Option.some.injEq,Addr.mk.injEq] at q
              omega
        by_cases hiB : i = m0 + 1
        · subst hiB
          rw [hoB'] at ho
          obtain rfl:=Option.some.inj ho
          obtain rfl:=hjunk (m0 + 1) x (by omega) hx
          unfold wpOp
          rw [hoB']
          simp only
          rw [if_pos (by simp [Region.wanted,hgB])]
          refine .inl ?_
          unfold Oper.wp
          rw [zmb hopB hzB,Oper.upon_value]
          have hdstA : oB.dst ≠ some dA:=by rw [hdB];intro e;exact hdne (Option.some.inj e).symm
          refine key (foA ρ' w'.heap.size) _ _ ?_ (zig hr') ?_
          · refine FR.put ⟨hf'.1,⟨hf'.2.1.1,fun g=>zfq _ _ (hf'.2.1.2 g)⟩,fun k=>zfq _ _ (hf'.2.2 k)⟩ _ (fun k hk=>by rw [hdB] at hk;have:=Option.some.inj hk;omega) _ _ (by simp only [VR])
          · rw [hself, hoth _ (by omega)]
            have hsz' : w'.heap.size ≤ (w'.alloc (.cells csB.toArray tB)).heap.size:=by simp
            refine ⟨?_,fun b hb=>.inl (st.fo b hb),fun e=>?_,fun _=>⟨w'.heap.size,by rw [hdB];exact zax (by rw [hf'.1];exact hNB),.inr rfl,st.st.size,by simp,heap_alloc_new w' _⟩,fun e _=>?_⟩
            · exact ⟨st.st.os,st.st.tape,st.st.output,Nat.le_trans st.st.size hsz',fun b hb ho=>by rw [heap_alloc_old w' _ b (Nat.lt_of_lt_of_le hb st.st.size)];exact st.st.kept b hb ho,fun b hb=>st.st.own b ((kp rfl).2 ((kp rfl).1 hb)),st.st.len,st.st.len',fun o ho=>st.st.obj o ho,rfl⟩
            · obtain ⟨b, vA⟩ := st.vA e
              exact ⟨b,by rw [vR hdstA];exact vA.at_,.inl vA.fo,vA.ge,Nat.lt_of_lt_of_le vA.lt hsz',by rw [heap_alloc_old w' _ b vA.lt];exact vA.he⟩
            · obtain ⟨b, vA⟩ := st.vA e
              have e1 : (a'.put oB.dst (.pointer (some ⟨w'.heap.size,0,none⟩))).tmps.getD dB undef = .pointer (some ⟨w'.heap.size,0,none⟩):=by rw [hdB];exact zax (by rw [hf'.1];exact hNB)
              rw [e1,vR hdstA,vA.at_]
              intro q
              have:=vA.lt
              simp only [Value.pointer.injEq,Option.some.injEq,Addr.mk.injEq] at q
              omega
        have hop:=hops i o x (by omega) (by simpa using ho) hx
        have hdstA : o.dst ≠ some dA:=hdist i m0 o oA dA hiA ho hoA' hdA
        have hdstB : o.dst ≠ some dB:=hdist i (m0 + 1) o oB dB hiB ho hoB' hdB
        have hAl2 : ∀ (ρ2 : Rz) (w2 : World) (v : Value),Step σ.length σ ρ' w' σ ρ2 w2 → AlI n σ ρ w ((listed.setIfInBounds i true).getD m0 false) ((listed.setIfInBounds i true).getD (m0 + 1) false) dA dB tA tB csA csB ρ2 w2 (a'.put o.dst v):=fun ρ2 w2 v st2=>by
          rw [hoth _ (Ne.symm hiA),hoth _ (Ne.symm hiB)]
          exact st.step hr' st2 (vR hdstA) (vR hdstB)
        have hAl1 : ∀ v : Value,AlI n σ ρ w ((listed.setIfInBounds i true).getD m0 false) ((listed.setIfInBounds i true).getD (m0 + 1) false) dA dB tA tB csA csB ρ' w' (a'.put o.dst v):=fun v=>hAl2 ρ' w' v (.refl _ _ _ _ (Nat.le_refl _))
        have hfr:=hf'.rst (ops:=l.toArray) (o:=o) hsee
        unfold wpOp
        rw [ho]
        simp only
        generalize hR : rst l.toArray o (zm Γ l xs i) = R at hop hfr
        have run : Oper.dstOk N o = true → SOp P N o R σ (fun x' σ'=>put R o.dst x' = put R o.dst x ∧ σ' = σ) → o.wp P a' w' (wpAny P .any l.toArray Q0 fuel (listed.setIfInBounds i true)) Q0:=by
          intro hd hop
          refine hop ρ' w' a' _ Q0 hfr hr' ?_
          intro x' σ' ρ2 w2 v hK hr2 hv st2
          obtain ⟨he,hs⟩:=hK
          subst hs
          exact key ρ2 w2 v (zI (hf'.carry st2) hd he hv) hr2 (hAl2 ρ2 w2 v st2)
        unfold ro rgn at hop
        cases hg : o.guard with
        | none=>
          rw [hg] at hop
          simp only [rgn] at hop
          rw [if_pos (by simp [Region.wanted,hg])]
          exact .inl (run hop.1 hop.2)
        | some jw=>
          obtain ⟨j,want⟩:=jw
          rw [hg] at hop
          simp only [rgn] at hop
          cases hgd : gdv l.toArray R j with
          | none=>
            rw [hgd] at hop
            obtain ⟨h1,hdo,h⟩:=hop
            have hy:=vk h1 hfr
            rw [if_neg (by simp [Region.wanted,hg,hy])]
            exact key _ _ _ (zI hf' hdo h.1 (by simp [VR])) hr' (hAl1 _)
          | some t=>
            rw [hgd] at hop
            simp only at hop
            obtain ⟨hdo,h⟩:=hop
            have hy:=v5 hgd hfr
            rcases h with ⟨x',hx',h⟩|h
            · obtain ⟨hsc, hgv⟩ := kh P N _ _ _ _ _ hx' ρ' w' a' hfr hr'
              by_cases htw : t = want
              · rw [if_pos (by simp [Region.wanted, hg, hy, htw])]
                refine .inl ?_
                obtain ⟨v,h1,h2⟩:=hgv (by simp [htw])
                unfold Oper.wp
                rw [h1,Oper.upon_value]
                exact key _ _ _ (zI hf' hdo h.1 (by simp only [VR];exact ⟨hsc,fun _=>h2,fun e=>by simp [htw] at e⟩)) hr' (hAl1 _)
              · rw [if_neg (by simp [Region.wanted, hg, hy, htw])]
                exact key _ _ _ (zI hf' hdo h.1 (by simp only [VR];exact ⟨hsc,fun e=>absurd e (by simp [htw]),fun _=>trivial⟩)) hr' (hAl1 _)
            · by_cases htw : t = want
              · rw [if_pos (by simp [Region.wanted, hg, hy, htw])]
                exact .inl (run hdo (h.1 htw))
              · rw [if_neg (by simp [Region.wanted, hg, hy, htw])]
                exact key _ _ _ (zI hf' hdo (h.2 htw).1 (by simp [VR])) hr' (hAl1 _)
  refine main l.length (Array.replicate l.length false) Γ ρ a _ (by simp) ?_ (by intro i _ hi;simp [Array.getD,hi]) ?_ ?_ ?_ (zam hr) ⟨yH hn,fun b h=>h,fun e=>by simp [Array.getD] at e,fun e=>by simp [Array.getD] at e,fun e=>by simp [Array.getD] at e⟩
  · have : (List.range l.length).filter (fun i=>!(Array.replicate l.length false).getD i true) = List.range l.length:=by
      rw [List.filter_eq_self]
      intro i hi
      have : i < l.length:=by simpa using hi
      simp [Array.getD,this]
    rw [this];simp
  · intro i o hi;simp [Array.getD] at hi
  · intro t;exact ⟨fun j o x hj=>by simp [Array.getD] at hj,fun _=>rfl⟩
  · exact hf.carry (yH (Nat.le_refl _))
end al2
def zuU : Ob → Bool
 | .gone=>true
 | .box cs=>yT cs
 | .row _ _ _ xs=>yT xs.flatten
theorem zmc {σ : Sto} (h : σ.all zuU = true) : zpp σ = true:=by
 unfold zpp
 rw [List.all_eq_true] at h ⊢
 intro ob hob
 have:=h ob hob
 cases ob with
 | gone=>rfl
 | box cs=>exact jz _ this
 | row _ _ _ xs=>exact jz _ this
end Go.Lf
