import Derived.Maps.Own
import Derived.Test.YtdalcgfnlbofdaaGreatDoorPc
set_option linter.unusedVariables false
set_option linter.unusedSimpArgs false
namespace Go.Lf
open Go Go.ChangeMaps Go.MapKept
open Go.WideElems (Fit rd rg pl rd_val elemAt)
open Go.Maps (Keyed)
def mpI (P : Program) (k e : TypeId) (n : Nat) (D : DataW Unit) : Obj → Prop:=fun ob=>∃ es clock,ob = .map es clock ∧ Fit P k (plainElem (H:=Unit) P e) es clock ∧ es.size ≤ n ∧ D = .map ((es.toList.map (Go.WideElems.rg P k (plainElem P e))).foldr DataW.insert [])
theorem zez {P : Program} {k e : TypeId} {n : Nat} {D : DataW Unit} {w : World} {b : Nat} : w.ownsMap P k (plainElem P e) b n D ↔ ∃ ob,w.heap[b]? = some ob ∧ mpI P k e n D ob:=by
 constructor
 ·rintro ⟨es, c, h1, h2⟩
  exact ⟨_,h1,es,c,rfl,h2⟩
 ·rintro ⟨ob, h1, es, c, rfl, h2⟩
  exact ⟨es,c,h1,h2⟩
theorem ziz {P : Program} {N : Nat} {o : Oper} {Γ : Env} {σ : Sto} {K : AV → Sto → Prop} {t k e : TypeId} (ho : o.op = .makeMap t none) (hK : K (.mref σ.length) (σ ++ [.mp (mpI P k e 0 (.map []))])) : SOp P N o Γ σ K:=by
 intro ρ w a next Q hf hr hn
 have hown : (w.alloc (.map #[] 0)).ownsMap P k (plainElem (H:=Unit) P e) w.heap.size 0 (.map []):=World.ownsMap_made w P k _
 have hk : ∀ b,b < w.heap.size → (w.alloc (.map #[] 0)).heap[b]? = w.heap[b]?:=fun b hb=>heap_alloc_old w _ b hb
 have hz : w.heap.size ≤ (w.alloc (.map #[] 0)).heap.size:=by simp
 have hb : ∀ b,blk (.map (some w.heap.size)) = some b → w.heap.size ≤ b:=by intro b hb;simp [blk] at hb;omega
 have st:=js (w:=w) (w':=w.alloc (.map #[] 0)) (σ:=σ) (ρ:=ρ) (ob:=.mp (mpI P k e 0 (.map []))) (r:=.map (some w.heap.size)) rfl rfl rfl hz hk hb
 have hrun : (execOp a.eval o).run P w = .ok (.value (.map (some w.heap.size))) (w.alloc (.map #[] 0)):=by
  simp [execOp,ho,Go.RowKit.run_makeMap]
 unfold Oper.wp
 rw [hrun,Oper.upon_value]
 obtain ⟨ob,h1,h2⟩:=zez.1 hown
 refine hn _ _ (upd ρ σ.length (.map (some w.heap.size))) _ _ hK (zbQ hr hr.blk_lt rfl rfl rfl hz hk hb ⟨w.heap.size,ob,rfl,h1,h2⟩) ?_ st
 simp only [VR]
 exact ⟨by simp,fun _ _=>by rw [yf]⟩
theorem zrY {σ : Sto} {ρ : Rz} {w : World} (hr : Rel σ ρ w) {j : Nat} {P : Program} {k e : TypeId} {n : Nat} {D : DataW Unit} (hs : σ[j]? = some (.mp (mpI P k e n D))) : ∃ b,ρ j = .map (some b) ∧ w.ownsMap P k (plainElem P e) b n D:=by
 obtain ⟨b,ob,h1,h2,h3⟩:=hr.obj _ _ hs
 exact ⟨b,h1,zez.2 ⟨ob,h2,h3⟩⟩
theorem vz {P : Program} {N : Nat} {o : Oper} {Γ : Env} {σ : Sto} {K : AV → Sto → Prop} {t k e : TypeId} {m x : Operand} {j n : Nat} {D : DataW Unit} {q : IntKind} {kv : Value} {kl : Lit} (c : Int) (ho : o.op = .lookup t m x false) (hm : ev Γ m = .mref j) (hs : σ[j]? = some (.mp (mpI P k e n D))) (hx : ev Γ x = .lit kv)
    (KK : Keyed P k) (ht : P.underlying t = some (.map k e)) (he : P.underlying e = some (.int q)) (hz : ∀ w,(zeroValue e).run P w = .ok (.int q 0) w) (hkey : keyOf P k kv = some kl) (hc : D.atKey kl (.lit (.int q 0)) = .lit (.int q c)) (hK : K (.lit (.int q c)) σ) : SOp P N o Γ σ K:=by
  refine SOp.pure (.lit (.int q c)) (fun ρ w a hf hr=>?_) hK
  obtain ⟨b,hb,hown⟩:=zrY hr hs
  have hM:=hf.ev m
  rw [hm] at hM
  simp only [VR] at hM
  have hX:=hf.lit hx
  obtain ⟨c',hrun,hat,_⟩:=hown.lookup_int KK ht he (hz w) hkey
  rw [hc] at hat
  have e1 : c' = c:=by injection hat with h;injection h with _ h;exact h.symm
  subst e1
  refine ⟨.int q c',?_,by simp [VR]⟩
  have hMv : a.eval m = .map (some b):=by rw [hM.2 _ hs,hb]
  simp [execOp,ho,hMv,hX,hrun]
theorem zgg {P : Program} {N : Nat} {o : Oper} {Γ : Env} {σ : Sto} {K : AV → Sto → Prop} {t k e : TypeId} {m x y : Operand} {j n : Nat} {D : DataW Unit} {q : IntKind} {kv : Value} {kl : Lit} {v : Int} (ho : o.op = .mapUpdate t m x y) (hm : ev Γ m = .mref j) (hs : σ[j]? = some (.mp (mpI P k e n D))) (hx : ev Γ x = .lit kv) (hy : ev Γ y = .lit (.int q v))
    (KK : Keyed P k) (ht : P.underlying t = some (.map k e)) (he : P.underlying e = some (.int q)) (hn : n < maxLen) (hkey : keyOf P k kv = some kl) (hw : (Lit.int q v).wf = true) (hK : K .junk (σ.set j (.mp (mpI P k e (n + 1) (D.put kl (.lit (.int q v))))))) : SOp P N o Γ σ K:=by
  intro ρ w a next Q hf hr hnx
  obtain ⟨b,hb,hown⟩:=zrY hr hs
  have hM:=hf.ev m
  rw [hm] at hM
  simp only [VR] at hM
  have hX:=hf.lit hx
  have hY:=hf.lit hy
  obtain ⟨w',hrun,hown',hg⟩:=hown.update KK ht hn hkey (plainElem_int he hw)
  have hMv : a.eval m = .map (some b):=by rw [hM.2 _ hs,hb]
  have hrun2 : (execOp a.eval o).run P w = .ok (.skip) w':=by
    simp [execOp,ho,hMv,hX,hY,hrun]
  unfold Oper.wp
  rw [hrun2,Oper.upon_skip]
  obtain ⟨ob,h1,h2⟩:=zez.1 hown'
  have hobj : ObjStep (some (Ob.mp (mpI P k e n D))) (some (Ob.mp (mpI P k e (n + 1) (D.put kl (.lit (.int q v)))))) (ρ j) (ρ j):=by simp only [ObjStep]
  have hkk : ∀ c,c < w.heap.size → blk (ρ j) ≠ some c → w'.heap[c]? = w.heap[c]?:=fun c hc hne=>hg.block c hc (by rw [hb] at hne;simp [blk] at hne;intro e;cases e;exact hne rfl)
  have hbb : ∀ c,(Ob.mp (mpI P k e (n + 1) (D.put kl (.lit (.int q v))))).live = true → blk (ρ j) = some c → blk (ρ j) = some c ∨ w.heap.size ≤ c:=fun c _ h=>.inl h
  have st:=vr (w:=w) (w':=w') hs rfl hobj hg.os hg.tape hg.output hg.size hkk hbb
  refine hnx _ _ (upd ρ j (ρ j)) _ _ hK (kt hr hs rfl hobj hg.os hg.tape hg.output hg.size hkk hbb ⟨b,ob,hb,h1,h2⟩) ?_ st
  simp only [VR]
end Go.Lf
namespace Go.Lf
open Go
theorem zeA {P : Program} {N : Nat} {o : Oper} {Γ : Env} {σ : Sto} {K : AV → Sto → Prop} {t t' e : TypeId} {x y : Operand} (ho : o.op = .call { callee := .builtin .copy, args := #[x, y], argTypes := #[t, t'] }) (ht : P.underlying t = some (.slice e)) (he : (P.underlying e).isSome = true)
    {oo s sz i n : Nat} {xs ys : List (List AV)} (hx : ev Γ x = .vw oo s i n) (hs : σ[oo]? = some (.row s e sz xs)) (hcs : P.cellsOf e = sz) (hy : rd σ (ev Γ y) = some ys) (hys : ∀ y ∈ ys,y.length = sz) (hn : ys.length ≤ n) (h0n : n ≠ 0)
    (hK : K (.lit (.int .i64 (ys.length : Nat))) (σ.set oo (.row s e sz (xs.take i ++ ys ++ xs.drop (i + ys.length))))) : SOp P N o Γ σ K:=by
  intro ρ w a next Q hf hr hnx
  obtain ⟨d,hd⟩:=z8 he
  have hS:=zu hd w
  rw [hcs] at hS
  obtain ⟨ay,cy,vy,ey,ly,my,ny,sy,ry,oy,Vy⟩:=zaK hr (hf.ev y) hy
  have hX:=hf.ev x
  rw [hx] at hX
  simp only [VR] at hX
  obtain ⟨ax,cx,hv,hx1,hx2,hx3,hx4⟩:=(hX.2 _ _ _ _ hs).2 rfl
  obtain ⟨b1,N1,C1,hb1,hin,hax⟩:=hx4 h0n
  subst hax
  obtain ⟨h0,h00,hO⟩:=hr.obj _ _ hs
  have hly:=yA hys
  have hlv:=zO _ _ Vy
  have hlx:=yA h0
  have hcells : (Builtin.firstCells sz ys.length (.slice ay ys.length cy)).run P w = .ok vy.toArray w:=by
    cases ay with
    | none=>
      have : ys = []:=by
        have:=ny rfl
        exact List.eq_nil_of_length_eq_zero (by omega)
      subst this
      simp at hlv
      have : vy = []:=by cases vy with|nil=>rfl|cons _ _=>simp at hlv
      subst this
      simp [Builtin.firstCells]
    | some ad=>
      have:=run_loadCells_list (P:=P) (w:=w) ad vy (fun j u hj=>ry ad rfl j u hj)
      rw [← hlv,hly] at this
      simpa [Builtin.firstCells] using this
  have base : ∀ v,a.eval x = v → ∀ w',(Builtin.copy_ #[t,t'] o.type #[v,.slice ay ys.length cy]).run P w = .ok (goInt (ys.length : Nat)) w' → (execOp a.eval o).run P w = .ok (.value (.int .i64 (ys.length : Nat))) w':=by
    rintro v rfl w' h
    rw [← ey] at h
    simp [execOp,ho,resolve,invoke,builtin,h,goInt]
  unfold Oper.wp
  rcases hO with ⟨⟨ad,hO⟩,hnil⟩|⟨b,cap,vs,sp,hb,hh,hle,hm,hc,hone,hl⟩
  · rw [hO] at hb1
    cases hb1
    omega
  · rw [hb] at hb1
    obtain ⟨rfl,rfl,rfl⟩ : b = b1 ∧ xs.length = N1 ∧ cap = C1:=by injection hb1 with h1 h2 h3;injection h1 with h1;injection h1 with h1;exact ⟨h1,h2,h3⟩
    have hlvs:=zO _ _ hl
    have hvl : vy.length = ys.length * sz:=by rw [← hlv,hly]
    have hvs : vs.length = xs.length * sz:=by rw [← hlvs,hlx]
    have hmul : i * sz + ys.length * sz ≤ xs.length * sz:=by rw [← Nat.add_mul];exact Nat.mul_le_mul_right _ (by omega)
    have hst:=run_storeCells_at (P:=P) b (i * sz) e vy 0 (vs ++ sp).toArray w hh (by simp;omega) oy
    have hcell : ((vs ++ sp).toArray.toList.take (i * sz + 0) ++ vy ++ (vs ++ sp).toArray.toList.drop (i * sz + 0 + vy.length)) = (vs.take (i * sz) ++ vy ++ vs.drop (i * sz + vy.length)) ++ sp:=by
      rw [Nat.add_zero]
      show (vs ++ sp).take (i * sz) ++ vy ++ (vs ++ sp).drop (i * sz + vy.length) = _
      rw [List.take_append_of_le_length (by omega),List.drop_append_of_le_length (by omega),← List.append_assoc]
    rw [hcell] at hst
    have:=base _ hv (w.setRow b ((vs.take (i * sz) ++ vy ++ vs.drop (i * sz + vy.length)) ++ sp).toArray) (by
      have hmin : min ys.length n = ys.length:=Nat.min_eq_left hn
      simp [Builtin.copy_,zg ht,Builtin.lenOf,hS,hmin,hcells,hst])
    rw [this,Oper.upon_value]
    have hfl1:=vd h0 i (by omega)
    have hfl2:=vd h0 (i + ys.length) (by omega)
    have hVn : VRl σ ρ w (xs.take i ++ ys ++ xs.drop (i + ys.length)).flatten (vs.take (i * sz) ++ vy ++ vs.drop (i * sz + vy.length)):=by
      rw [List.flatten_append,List.flatten_append]
      refine yD _ _ _ _ (yD _ _ _ _ ?_ Vy) ?_
      · rw [hfl1.1];exact vq _ _ _ hl
      · rw [hfl2.2,hvl,← Nat.add_mul];exact yJ _ _ _ hl
    obtain ⟨k1, k2⟩ := zbX (xs' := xs.take i ++ ys ++ xs.drop (i + ys.length)) (nw := vs.take (i * sz) ++ vy ++ vs.drop (i * sz + vy.length)) hr hs hb hh (by simp; omega)
      (by intro q hq;simp only [List.mem_append] at hq;exact hq.elim (fun h=>h.elim (fun h=>h0 q (List.mem_of_mem_take h)) (fun h=>hys q h)) (fun h=>h0 q (List.mem_of_mem_drop h))) h00 hle hm
      (by simp only [List.length_append,List.length_drop,List.length_take] at hc ⊢;omega) (by intro v hv;simp only [List.mem_append] at hv;exact hv.elim (fun h=>h.elim (fun h=>hone v (List.mem_of_mem_take h)) (oy v)) (fun h=>hone v (List.mem_of_mem_drop h))) hVn
    exact hnx _ _ _ _ _ hK k1 (by simp [VR]) k2
theorem zbd {P : Program} {N : Nat} {o : Oper} {Γ : Env} {σ σ2 : Sto} {K : AV → Sto → Prop} {t t' e : TypeId} {x y : Operand} {oo s sz i n m : Nat} {xs ys xs2 : List (List AV)} {Y : AV} (ho : o.op = .call { callee := .builtin .copy, args := #[x, y], argTypes := #[t, t'] }) (ht : P.underlying t = some (.slice e)) (he : (P.underlying e).isSome = true)
    (hx : ev Γ x = .vw oo s i n) (hs : σ[oo]? = some (.row s e sz xs)) (hcs : P.cellsOf e = sz) (hY : ev Γ y = Y) (hy : rd σ Y = some ys) (hys : ∀ y ∈ ys,y.length = sz) (hn : ys.length ≤ n) (h0n : n ≠ 0)
    (hm : ys.length = m) (hxs : xs.take i ++ ys ++ xs.drop (i + ys.length) = xs2) (hσ : σ.set oo (.row s e sz xs2) = σ2) (hK : K (.lit (.int .i64 m)) σ2) : SOp P N o Γ σ K:=by
  subst hY;subst hm;subst hxs;subst hσ
  exact zeA ho ht he hx hs hcs hy hys hn h0n hK
end Go.Lf
