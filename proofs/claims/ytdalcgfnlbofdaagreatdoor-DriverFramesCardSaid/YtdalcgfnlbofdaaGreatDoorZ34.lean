import Derived.Test.YtdalcgfnlbofdaaGreatDoorTg
import Derived.Test.YtdalcgfnlbofdaaGreatDoorZ33
import Derived.Test.YtdalcgfnlbofdaaGreatDoorZ15
import Derived.Test.YtdalcgfnlbofdaaGreatDoorLc
set_option linter.unusedVariables false
set_option linter.unusedSimpArgs false
namespace Go.Proofs.YtdalcgfnlbofdaaGreatDoor
open Go Go.Lf Go.Proofs
attribute [local irreducible] Lf.rg Lf.ro Lf.PWp Lf.SOp Lf.ACall Lf.Scoped Lf.dg Lf.dw
set_option maxRecDepth 20000
set_option maxHeartbeats 4000000
theorem zmv (f2 f3 f4 : Bool) (sizes : List Int) (l : List Fl) (wy : List Op4) (hsl : sizes.length ≤ 100) (hll : l.length ≤ 100) (hol : wy.length ≤ 100000) (hlb : ∀ f ∈ l,f.n.size ≤ 1000 ∧ f.v.size ≤ 1000) (hz : zeh sizes = false) (o : List UInt8) (xt : List Fl) (st : Nat) (mt : Int) (hQ : zfl sizes l wy ⟨xsE,0,0⟩ = ⟨o,⟨xt,st,mt⟩⟩) : AEq Tryz.prog 86 [.ag [.sl true false [],i64 0],.sl f2 false (sizes.map y8),.sl f3 false (l.map flA),.sl f4 false (wy.map opA)] [] (.tu [.sl false false (o.map zf),.ag [.sl false false (xt.reverse.map flA),i64 mt],bl true]) []:=
 have hok:=zoi (m:=0) (by decide) (by decide)
 zij true f2 f3 f4 sizes l wy hsl hll hol hlb xsE 0 0 (by decide) hok.1 hok.2.1 hok.2.2.1 hok.2.2.2 hz _ hQ
theorem zsE (t n : Int) (fl : List Fl) (ss : List (Int × Int)) (hfl2 : fl.length ≤ 100) (hz : ∀ f ∈ fl,f.n.size ≤ 1000 ∧ f.v.size ≤ 1000) : AEq Tryz.prog 41 [.ag [i64 1,i64 t,i64 n,bl true,.sl false false (fl.map flA),.sl false false (ss.map zV)]] [] (.ag [i64 1,i64 5,i64 t,i64 (-1),.sl false false ((yr fl).map zf),.sl true false [],i64 0,i64 0,bl false,i64 0,i64 0,i64 0,i64 0]) []:=by
 rcases hQ : zfl lz0 fl lo2 ⟨xsE,0,0⟩ with ⟨o,⟨xt,st,mt⟩⟩
 have ho : yr fl = o:=by
  show (zfl lz0 fl lo2 ⟨xsE,0,0⟩).o = o
  rw [hQ]
 have hsl : lz0.length ≤ 100:=by decide
 have hol : lo2.length ≤ 100000:=by decide
 have hzz : zeh lz0 = false:=by decide
 rw [ho]
 refine zc Tryz.func41 rfl Tryz.ntmps41 (by simp) (fun hsc=>?_);simp only [Lf.enter,Nat.reduceAdd];clear hsc
 have hU:=True.intro
 repeat' (first|(refine goR ?_)|(refine za (fun K hK=>?_))|((refine zb (fun hcd=>?_) (fun hcd=>?_))<;>(try simp only [hcP] at hcd)<;>(try exact cdT))|(guard_target =~ SOp _ _ ⟨_,.buildSlice _ _ _,_,_,_,none⟩ _ _ _;refine zF (xs:=List.map (y8) (lz0)) rfl (he:=eoT) (hc:=hcT) (hK:=?_))|(guard_target =~ SOp _ _ ⟨_,.buildSlice _ _ _,_,_,_,none⟩ _ _ _;refine zF (xs:=List.map (opA) (lo2)) rfl (he:=eoT) (hc:=hcT) (hK:=?_))|(refine zd (f:=86) rfl Tryz.call86 (h:=AEq.pure' agT (zmv _ _ _ _ _ _ (by assumption) (by assumption) (by assumption) (by assumption) (by assumption) _ _ _ _ (by assumption)) (hq:=?_)))|((refine zY [] exT (by rfl) (by rw [Tryz.results41,Lf.yM];(try simp (disch:=omega) only [Lf.zD,go_sem,seval,↓reduceIte,hU]);rfl) sT sT (zj ?_) ?_)<;>(try (first|exact zh|exact stT)))|(refine hK _ _ ?_;clear hK K))
theorem zsF (t n : Int) (fl : List Fl) (ss : List (Int × Int)) (hfl2 : fl.length ≤ 100) (hz : ∀ f ∈ fl,f.n.size ≤ 1000 ∧ f.v.size ≤ 1000) : AEq Tryz.prog 41 [.ag [i64 1,i64 t,i64 n,bl false,.sl false false (fl.map flA),.sl false false (ss.map zV)]] [] (.ag [i64 1,i64 4,i64 t,i64 (-1),.sl false false ((yr fl).map zf),.sl true false [],i64 0,i64 0,bl false,i64 0,i64 0,i64 0,i64 0]) []:=by
 rcases hQ : zfl lz0 fl lo2 ⟨xsE,0,0⟩ with ⟨o,⟨xt,st,mt⟩⟩
 have ho : yr fl = o:=by
  show (zfl lz0 fl lo2 ⟨xsE,0,0⟩).o = o
  rw [hQ]
 have hsl : lz0.length ≤ 100:=by decide
 have hol : lo2.length ≤ 100000:=by decide
 have hzz : zeh lz0 = false:=by decide
 rw [ho]
 refine zc Tryz.func41 rfl Tryz.ntmps41 (by simp) (fun hsc=>?_);simp only [Lf.enter,Nat.reduceAdd];clear hsc
 have hU:=True.intro
 repeat' (first|(refine goR ?_)|(refine za (fun K hK=>?_))|((refine zb (fun hcd=>?_) (fun hcd=>?_))<;>(try simp only [hcP] at hcd)<;>(try exact cdT))|(guard_target =~ SOp _ _ ⟨_,.buildSlice _ _ _,_,_,_,none⟩ _ _ _;refine zF (xs:=List.map (y8) (lz0)) rfl (he:=eoT) (hc:=hcT) (hK:=?_))|(guard_target =~ SOp _ _ ⟨_,.buildSlice _ _ _,_,_,_,none⟩ _ _ _;refine zF (xs:=List.map (opA) (lo2)) rfl (he:=eoT) (hc:=hcT) (hK:=?_))|(refine zd (f:=86) rfl Tryz.call86 (h:=AEq.pure' agT (zmv _ _ _ _ _ _ (by assumption) (by assumption) (by assumption) (by assumption) (by assumption) _ _ _ _ (by assumption)) (hq:=?_)))|((refine zY [] exT (by rfl) (by rw [Tryz.results41,Lf.yM];(try simp (disch:=omega) only [Lf.zD,go_sem,seval,↓reduceIte,hU]);rfl) sT sT (zj ?_) ?_)<;>(try (first|exact zh|exact stT)))|(refine hK _ _ ?_;clear hK K))
theorem zsG (t n : Int) (fl : List Fl) (ss : List (Int × Int)) (hn : 0 ≤ n ∧ n ≤ 16384) : AEq Tryz.prog 41 [.ag [i64 2,i64 t,i64 n,bl true,.sl false false (fl.map flA),.sl false false (ss.map zV)]] [] (.ag [i64 0,i64 1,i64 t,i64 (-1),.sl false false (List.map zf (List.replicate n.toNat 0)),.sl true false [],i64 0,i64 0,bl false,i64 0,i64 0,i64 0,i64 0]) []:=by
 have hmr : List.replicate n.toNat [AV.lit (Value.int IntKind.u8 0)] = List.map zf (List.replicate n.toNat 0):=by rw [List.map_replicate];rfl
 refine zc Tryz.func41 rfl Tryz.ntmps41 (by simp) (fun hsc=>?_);simp only [Lf.enter,Nat.reduceAdd];clear hsc
 have hU:=@hmr
 repeat' (first|(refine goR ?_)|(refine za (fun K hK=>?_))|((refine zb (fun hcd=>?_) (fun hcd=>?_))<;>(try simp only [hcP] at hcd)<;>(try exact cdT))|(guard_target =~ SOp _ _ ⟨_,.makeSlice _ _ _,_,_,_,none⟩ _ _ _;refine zbD rfl (he:=eoT) (hK:=?_))|((refine zY [] exT (by rfl) (by rw [Tryz.results41,Lf.yM];(try simp (disch:=omega) only [Lf.zD,go_sem,seval,↓reduceIte,hU]);rfl) sT sT (zj ?_) ?_)<;>(try (first|exact zh|exact stT)))|(refine hK _ _ ?_;clear hK K))
theorem zsH (t n : Int) (fl : List Fl) (ss : List (Int × Int)) (hn : 0 ≤ n ∧ n ≤ 16384) : AEq Tryz.prog 41 [.ag [i64 2,i64 t,i64 n,bl false,.sl false false (fl.map flA),.sl false false (ss.map zV)]] [] (.ag [i64 0,i64 0,i64 t,i64 (-1),.sl false false (List.map zf (List.replicate n.toNat 0)),.sl true false [],i64 0,i64 0,bl false,i64 0,i64 0,i64 0,i64 0]) []:=by
 have hmr : List.replicate n.toNat [AV.lit (Value.int IntKind.u8 0)] = List.map zf (List.replicate n.toNat 0):=by rw [List.map_replicate];rfl
 refine zc Tryz.func41 rfl Tryz.ntmps41 (by simp) (fun hsc=>?_);simp only [Lf.enter,Nat.reduceAdd];clear hsc
 have hU:=@hmr
 repeat' (first|(refine goR ?_)|(refine za (fun K hK=>?_))|((refine zb (fun hcd=>?_) (fun hcd=>?_))<;>(try simp only [hcP] at hcd)<;>(try exact cdT))|(guard_target =~ SOp _ _ ⟨_,.makeSlice _ _ _,_,_,_,none⟩ _ _ _;refine zbD rfl (he:=eoT) (hK:=?_))|((refine zY [] exT (by rfl) (by rw [Tryz.results41,Lf.yM];(try simp (disch:=omega) only [Lf.zD,go_sem,seval,↓reduceIte,hU]);rfl) sT sT (zj ?_) ?_)<;>(try (first|exact zh|exact stT)))|(refine hK _ _ ?_;clear hK K))
theorem zsI (t n : Int) (fl : List Fl) (ss : List (Int × Int)) (hs2 : ss.length ≤ 10000) : AEq Tryz.prog 41 [.ag [i64 3,i64 t,i64 n,bl false,.sl false false (fl.map flA),.sl false false (ss.map zV)]] [] (.ag [i64 4,i64 0,i64 t,i64 (-1),.sl true false [],.sl false false (ss.map zV),i64 0,i64 0,bl false,i64 0,i64 0,i64 0,i64 0]) []:=by
 refine zc Tryz.func41 rfl Tryz.ntmps41 (by simp) (fun hsc=>?_);simp only [Lf.enter,Nat.reduceAdd];clear hsc
 have hU:=True.intro
 repeat' (first|(refine goR ?_)|(refine za (fun K hK=>?_))|((refine zb (fun hcd=>?_) (fun hcd=>?_))<;>(try simp only [hcP] at hcd)<;>(try exact cdT))|((refine zY [] exT (by rfl) (by rw [Tryz.results41,Lf.yM];(try simp (disch:=omega) only [Lf.zD,go_sem,seval,↓reduceIte,hU]);rfl) sT sT (zj ?_) ?_)<;>(try (first|exact zh|exact stT)))|(refine hK _ _ ?_;clear hK K))
theorem zsJ (t n : Int) (fl : List Fl) (ss : List (Int × Int))  : AEq Tryz.prog 41 [.ag [i64 4,i64 t,i64 n,bl false,.sl false false (fl.map flA),.sl false false (ss.map zV)]] [] (.ag [i64 8,i64 0,i64 t,i64 (-1),.sl true false [],.sl true false [],i64 0,i64 0,bl false,i64 0,i64 0,i64 0,i64 n]) []:=by
 refine zc Tryz.func41 rfl Tryz.ntmps41 (by simp) (fun hsc=>?_);simp only [Lf.enter,Nat.reduceAdd];clear hsc
 have hU:=True.intro
 repeat' (first|(refine goR ?_)|(refine za (fun K hK=>?_))|((refine zb (fun hcd=>?_) (fun hcd=>?_))<;>(try simp only [hcP] at hcd)<;>(try exact cdT))|((refine zY [] exT (by rfl) (by rw [Tryz.results41,Lf.yM];(try simp (disch:=omega) only [Lf.zD,go_sem,seval,↓reduceIte,hU]);rfl) sT sT (zj ?_) ?_)<;>(try (first|exact zh|exact stT)))|(refine hK _ _ ?_;clear hK K))
theorem zsK (t n : Int) (fl : List Fl) (ss : List (Int × Int))  : AEq Tryz.prog 41 [.ag [i64 5,i64 t,i64 n,bl false,.sl false false (fl.map flA),.sl false false (ss.map zV)]] [] (.ag [i64 3,i64 0,i64 t,i64 (-1),.sl true false [],.sl true false [],i64 0,i64 0,bl false,i64 0,i64 0,i64 n,i64 0]) []:=by
 refine zc Tryz.func41 rfl Tryz.ntmps41 (by simp) (fun hsc=>?_);simp only [Lf.enter,Nat.reduceAdd];clear hsc
 have hU:=True.intro
 repeat' (first|(refine goR ?_)|(refine za (fun K hK=>?_))|((refine zb (fun hcd=>?_) (fun hcd=>?_))<;>(try simp only [hcP] at hcd)<;>(try exact cdT))|((refine zY [] exT (by rfl) (by rw [Tryz.results41,Lf.yM];(try simp (disch:=omega) only [Lf.zD,go_sem,seval,↓reduceIte,hU]);rfl) sT sT (zj ?_) ?_)<;>(try (first|exact zh|exact stT)))|(refine hK _ _ ?_;clear hK K))
theorem zsL (t : Int) (fl : List Fl) (ss : List (Int × Int)) (m : UInt8) : AEq Tryz.prog 41 [.ag [i64 6,i64 t,i64 (m.toNat : Int),bl false,.sl false false (fl.map flA),.sl false false (ss.map zV)]] [] (.ag [i64 6,i64 0,i64 t,i64 (-1),.sl true false ((zgz m).map zf),.sl true false [],i64 0,i64 0,bl false,i64 0,i64 0,i64 0,i64 0]) []:=by
 have hm:=m.toNat_lt
 refine zc Tryz.func41 rfl Tryz.ntmps41 (by simp) (fun hsc=>?_);simp only [Lf.enter,Nat.reduceAdd];clear hsc
 have hU:=True.intro
 repeat' (first|(refine goR ?_)|(refine za (fun K hK=>?_))|((refine zb (fun hcd=>?_) (fun hcd=>?_))<;>(try simp only [hcP] at hcd)<;>(try exact cdT))|(guard_target =~ SOp _ _ ⟨_,.buildSlice _ _ _,_,_,_,none⟩ _ _ _;refine zF (xs:=List.map (zf) (zgz m)) rfl (he:=eoT) (hc:=hcT) (hK:=?_))|((refine zY [] exT (by rfl) (by rw [Tryz.results41,Lf.yM];(try simp (disch:=omega) only [Lf.zD,go_sem,seval,↓reduceIte,hU]);rfl) sT sT (zj ?_) ?_)<;>(try (first|exact zh|exact stT)))|(refine hK _ _ ?_;clear hK K))
theorem zsM (t n : Int) (fl : List Fl) (ss : List (Int × Int))  : AEq Tryz.prog 41 [.ag [i64 7,i64 t,i64 n,bl false,.sl false false (fl.map flA),.sl false false (ss.map zV)]] [] (.ag [i64 7,i64 0,i64 t,i64 (-1),.sl true false [],.sl true false [],i64 0,i64 0,bl false,i64 0,i64 n,i64 0,i64 0]) []:=by
 refine zc Tryz.func41 rfl Tryz.ntmps41 (by simp) (fun hsc=>?_);simp only [Lf.enter,Nat.reduceAdd];clear hsc
 have hU:=True.intro
 repeat' (first|(refine goR ?_)|(refine za (fun K hK=>?_))|((refine zb (fun hcd=>?_) (fun hcd=>?_))<;>(try simp only [hcP] at hcd)<;>(try exact cdT))|((refine zY [] exT (by rfl) (by rw [Tryz.results41,Lf.yM];(try simp (disch:=omega) only [Lf.zD,go_sem,seval,↓reduceIte,hU]);rfl) sT sT (zj ?_) ?_)<;>(try (first|exact zh|exact stT)))|(refine hK _ _ ?_;clear hK K))
theorem zdy (t g st p : Int) (fd : Bool) (d : List UInt8) (fs : Bool) (wt pa : Int) (al : Bool) (pr la co sp : Int) (w : Int) (hd : d.length ≤ 900000) (hg1 : g ≤ 9223372036854775807) (hem : jj w t g st p d [] wt pa al pr la co sp) : AEq Tryz.prog 40 [.ag [i64 t,i64 g,i64 st,i64 p,.sl fd false (d.map zf),.sl fs false [],i64 wt,i64 pa,bl al,i64 pr,i64 la,i64 co,i64 sp],i64 w] [] (.tu [.ag [i64 w,i64 t,i64 g,i64 st,bl false,.sl false false ((wrB t g p d [] wt pa al pr la co sp).map zf)],bl true]) []:=zi0 t g st p fd d fs [] wt pa al pr la co sp w hd (by decide) hg1 hem
theorem zsN (t g st p : Int) (fd : Bool) (fs : Bool) (e : List (Int × Int)) (wt pa : Int) (al : Bool) (pr la co sp : Int) (w : Int) (hl : e.length ≤ 10000) (hg1 : g ≤ 9223372036854775807) (hem : jj w t g st p [] e wt pa al pr la co sp) : AEq Tryz.prog 40 [.ag [i64 t,i64 g,i64 st,i64 p,.sl fd false [],.sl fs false (e.map zV),i64 wt,i64 pa,bl al,i64 pr,i64 la,i64 co,i64 sp],i64 w] [] (.tu [.ag [i64 w,i64 t,i64 g,i64 st,bl false,.sl false false ((wrB t g p [] e wt pa al pr la co sp).map zf)],bl true]) []:=zi0 t g st p fd [] fs e wt pa al pr la co sp w (by decide) hl hg1 hem
theorem zjj (t g st p : Int) (fd : Bool) (fs : Bool) (wt pa : Int) (al : Bool) (pr la co sp : Int) (w : Int) (hg1 : g ≤ 9223372036854775807) (hem : jj w t g st p [] [] wt pa al pr la co sp) : AEq Tryz.prog 40 [.ag [i64 t,i64 g,i64 st,i64 p,.sl fd false [],.sl fs false [],i64 wt,i64 pa,bl al,i64 pr,i64 la,i64 co,i64 sp],i64 w] [] (.tu [.ag [i64 w,i64 t,i64 g,i64 st,bl false,.sl false false ((wrB t g p [] [] wt pa al pr la co sp).map zf)],bl true]) []:=zi0 t g st p fd [] fs [] wt pa al pr la co sp w (by decide) (by decide) hg1 hem
theorem zsO (sd k t n : Int) (e : Bool) (fl : List Fl) (ss : List (Int × Int)) (hfl : fl.length ≤ 9223372036854775807) (hss : ss.length ≤ 1000000) (hno : ¬ ((sd = 0 ∨ sd = 1) ∧ rsB ⟨k,t,n,e,fl,ss⟩ = true ∧ ¬ k = 8)) : AEq Tryz.prog 13 [i64 sd,.ag [i64 k,i64 t,i64 n,bl e,.sl false false (fl.map flA),.sl false false (ss.map zV)]] [] (.sl false false (List.map frA [])) []:=by
 by_cases hs : sd = 0 ∨ sd = 1
 ·cases hR : rsB ⟨k, t, n, e, fl, ss⟩ with
  | false=>
   refine zc Tryz.func13 rfl Tryz.ntmps13 (by simp) (fun hsc=>?_);simp only [Lf.enter,Nat.reduceAdd];clear hsc
   have hU:=@hR
   repeat' (first|(refine goR ?_)|(refine za (fun K hK=>?_))|((refine zb (fun hcd=>?_) (fun hcd=>?_))<;>(try simp only [hcP] at hcd)<;>(try exact cdT))|(guard_target =~ rg _ _ _ (⟨_,_,_,_,_,some _⟩ :: _) _ _ _;(first|refine zv gT (fun hcd=>?_) (fun hcd=>?_)|refine zp gT (fun hcd=>?_) (fun hcd=>?_))<;>(try simp only [hcd])<;>(try (simp only [Bool.not_eq_true',Bool.not_eq_false'] at hcd;try simp only [hcd]))<;>(refine vC (Γ2:=_) ewT ?_)<;>(try simp only [hcP] at hcd)<;>(try exact cdT))|(refine zd (f:=39) rfl Tryz.call39 (h:=AEq.pure' agT (yK _ _ _ _ _ _ (by assumption) (by assumption)) (hq:=?_)))|((refine ze [] (by rw [Tryz.results13,Lf.zt]) (zj ?_) ?_)<;>(try (first|exact zh|exact stT)))|(refine hK _ _ ?_;clear hK K))
  | true=>
   have h8 : k = 8:=by
    by_cases h : k = 8
    ·exact h
    ·exact absurd ⟨hs,hR,h⟩ hno
   subst h8
   refine zc Tryz.func13 rfl Tryz.ntmps13 (by simp) (fun hsc=>?_);simp only [Lf.enter,Nat.reduceAdd];clear hsc
   have hU:=@hR
   repeat' (first|(refine goR ?_)|(refine za (fun K hK=>?_))|((refine zb (fun hcd=>?_) (fun hcd=>?_))<;>(try simp only [hcP] at hcd)<;>(try exact cdT))|(guard_target =~ rg _ _ _ (⟨_,_,_,_,_,some _⟩ :: _) _ _ _;(first|refine zv gT (fun hcd=>?_) (fun hcd=>?_)|refine zp gT (fun hcd=>?_) (fun hcd=>?_))<;>(try simp only [hcd])<;>(try (simp only [Bool.not_eq_true',Bool.not_eq_false'] at hcd;try simp only [hcd]))<;>(refine vC (Γ2:=_) ewT ?_)<;>(try simp only [hcP] at hcd)<;>(try exact cdT))|(refine zd (f:=39) rfl Tryz.call39 (h:=AEq.pure' agT (yK _ _ _ _ _ _ (by assumption) (by assumption)) (hq:=?_)))|((refine ze [] (by rw [Tryz.results13,Lf.zt]) (zj ?_) ?_)<;>(try (first|exact zh|exact stT)))|(refine hK _ _ ?_;clear hK K))
 ·refine zc Tryz.func13 rfl Tryz.ntmps13 (by simp) (fun hsc => ?_); simp only [Lf.enter, Nat.reduceAdd]; clear hsc
  have hU:=True.intro
  repeat' (first|(refine goR ?_)|(refine za (fun K hK=>?_))|((refine zb (fun hcd=>?_) (fun hcd=>?_))<;>(try simp only [hcP] at hcd)<;>(try exact cdT))|(guard_target =~ rg _ _ _ (⟨_,_,_,_,_,some _⟩ :: _) _ _ _;(first|refine zv gT (fun hcd=>?_) (fun hcd=>?_)|refine zp gT (fun hcd=>?_) (fun hcd=>?_))<;>(try simp only [hcd])<;>(try (simp only [Bool.not_eq_true',Bool.not_eq_false'] at hcd;try simp only [hcd]))<;>(refine vC (Γ2:=_) ewT ?_)<;>(try simp only [hcP] at hcd)<;>(try exact cdT))|((refine ze [] (by rw [Tryz.results13,Lf.zt]) (zj ?_) ?_)<;>(try (first|exact zh|exact stT)))|(refine hK _ _ ?_;clear hK K))
theorem zsP (sd t n : Int) (fl : List Fl) (ss : List (Int × Int)) (hfl : fl.length ≤ 9223372036854775807) (hss : ss.length ≤ 1000000) (hs : sd = 0 ∨ sd = 1) (hR : rsB ⟨1,t,n,true,fl,ss⟩ = true) (hem : jj sd 1 5 t (-1) (yr fl) [] 0 0 false 0 0 0 0) (hfl2 : fl.length ≤ 100) (hz : ∀ f ∈ fl,f.n.size ≤ 1000 ∧ f.v.size ≤ 1000) (hdl0 : (yr fl).length ≤ 900000) : AEq Tryz.prog 13 [i64 sd,.ag [i64 1,i64 t,i64 n,bl true,.sl false false (fl.map flA),.sl false false (ss.map zV)]] [] (.sl false false ((ke sd 1 5 t (wrB 1 5 (-1) (yr fl) [] 0 0 false 0 0 0 0)).map frA)) []:=by
 have hdl : (yr fl).length ≤ 900000:=hdl0
 have hl0 : ([] : List (Int × Int)).length ≤ 10000:=by decide
 have hl1 : ([] : List UInt8).length ≤ 900000:=by decide
 refine zc Tryz.func13 rfl Tryz.ntmps13 (by simp) (fun hsc=>?_);simp only [Lf.enter,Nat.reduceAdd];clear hsc
 have hU:=@hR
 repeat' (first|(refine goR ?_)|(refine za (fun K hK=>?_))|((refine zb (fun hcd=>?_) (fun hcd=>?_))<;>(try simp only [hcP] at hcd)<;>(try exact cdT))|(guard_target =~ rg _ _ _ (⟨_,_,_,_,_,some _⟩ :: _) _ _ _;(first|refine zv gT (fun hcd=>?_) (fun hcd=>?_)|refine zp gT (fun hcd=>?_) (fun hcd=>?_))<;>(try simp only [hcd])<;>(try (simp only [Bool.not_eq_true',Bool.not_eq_false'] at hcd;try simp only [hcd]))<;>(refine vC (Γ2:=_) ewT ?_)<;>(try simp only [hcP] at hcd)<;>(try exact cdT))|(refine zd (f:=39) rfl Tryz.call39 (h:=AEq.pure' agT (yK _ _ _ _ _ _ aoT aoT) (hq:=?_)))|(refine zd (f:=40) rfl Tryz.call40 (h:=AEq.pure' agT (zdy _ _ _ _ _ _ _ _ _ _ _ _ _ _ _ aoT aoT aoT) (hq:=?_)))|(guard_target =~ SOp _ _ ⟨_,.buildSlice _ _ _,_,_,_,none⟩ _ _ _;refine zF (xs:=List.map (frA) (ke sd 1 5 t (wrB 1 5 (-1) (yr fl) [] 0 0 false 0 0 0 0))) rfl (he:=eoT) (hc:=hcT) (hK:=?_))|(refine zd (f:=41) rfl Tryz.call41 (h:=AEq.pure' agT (zsE _ _ _ _ aoT aoT) (hq:=?_)))|((refine ze [] (by rw [Tryz.results13,Lf.zt]) (zj ?_) ?_)<;>(try (first|exact zh|exact stT)))|(refine hK _ _ ?_;clear hK K))
theorem zsQ (sd t n : Int) (fl : List Fl) (ss : List (Int × Int)) (hfl : fl.length ≤ 9223372036854775807) (hss : ss.length ≤ 1000000) (hs : sd = 0 ∨ sd = 1) (hR : rsB ⟨1,t,n,false,fl,ss⟩ = true) (hem : jj sd 1 4 t (-1) (yr fl) [] 0 0 false 0 0 0 0) (hfl2 : fl.length ≤ 100) (hz : ∀ f ∈ fl,f.n.size ≤ 1000 ∧ f.v.size ≤ 1000) (hdl0 : (yr fl).length ≤ 900000) : AEq Tryz.prog 13 [i64 sd,.ag [i64 1,i64 t,i64 n,bl false,.sl false false (fl.map flA),.sl false false (ss.map zV)]] [] (.sl false false ((ke sd 1 4 t (wrB 1 4 (-1) (yr fl) [] 0 0 false 0 0 0 0)).map frA)) []:=by
 have hdl : (yr fl).length ≤ 900000:=hdl0
 have hl0 : ([] : List (Int × Int)).length ≤ 10000:=by decide
 have hl1 : ([] : List UInt8).length ≤ 900000:=by decide
 refine zc Tryz.func13 rfl Tryz.ntmps13 (by simp) (fun hsc=>?_);simp only [Lf.enter,Nat.reduceAdd];clear hsc
 have hU:=@hR
 repeat' (first|(refine goR ?_)|(refine za (fun K hK=>?_))|((refine zb (fun hcd=>?_) (fun hcd=>?_))<;>(try simp only [hcP] at hcd)<;>(try exact cdT))|(guard_target =~ rg _ _ _ (⟨_,_,_,_,_,some _⟩ :: _) _ _ _;(first|refine zv gT (fun hcd=>?_) (fun hcd=>?_)|refine zp gT (fun hcd=>?_) (fun hcd=>?_))<;>(try simp only [hcd])<;>(try (simp only [Bool.not_eq_true',Bool.not_eq_false'] at hcd;try simp only [hcd]))<;>(refine vC (Γ2:=_) ewT ?_)<;>(try simp only [hcP] at hcd)<;>(try exact cdT))|(refine zd (f:=39) rfl Tryz.call39 (h:=AEq.pure' agT (yK _ _ _ _ _ _ aoT aoT) (hq:=?_)))|(refine zd (f:=40) rfl Tryz.call40 (h:=AEq.pure' agT (zdy _ _ _ _ _ _ _ _ _ _ _ _ _ _ _ aoT aoT aoT) (hq:=?_)))|(guard_target =~ SOp _ _ ⟨_,.buildSlice _ _ _,_,_,_,none⟩ _ _ _;refine zF (xs:=List.map (frA) (ke sd 1 4 t (wrB 1 4 (-1) (yr fl) [] 0 0 false 0 0 0 0))) rfl (he:=eoT) (hc:=hcT) (hK:=?_))|(refine zd (f:=41) rfl Tryz.call41 (h:=AEq.pure' agT (zsF _ _ _ _ aoT aoT) (hq:=?_)))|((refine ze [] (by rw [Tryz.results13,Lf.zt]) (zj ?_) ?_)<;>(try (first|exact zh|exact stT)))|(refine hK _ _ ?_;clear hK K))
theorem zsR (sd t n : Int) (fl : List Fl) (ss : List (Int × Int)) (hfl : fl.length ≤ 9223372036854775807) (hss : ss.length ≤ 1000000) (hs : sd = 0 ∨ sd = 1) (hR : rsB ⟨2,t,n,true,fl,ss⟩ = true) (hem : jj sd 0 1 t (-1) (List.replicate n.toNat 0) [] 0 0 false 0 0 0 0) (hn : 0 ≤ n ∧ n ≤ 16384) : AEq Tryz.prog 13 [i64 sd,.ag [i64 2,i64 t,i64 n,bl true,.sl false false (fl.map flA),.sl false false (ss.map zV)]] [] (.sl false false ((ke sd 0 1 t (wrB 0 1 (-1) (List.replicate n.toNat 0) [] 0 0 false 0 0 0 0)).map frA)) []:=by
 have hdl : (List.replicate n.toNat (0 : UInt8)).length ≤ 900000:=by rw [List.length_replicate];omega
 have hl0 : ([] : List (Int × Int)).length ≤ 10000:=by decide
 have hl1 : ([] : List UInt8).length ≤ 900000:=by decide
 refine zc Tryz.func13 rfl Tryz.ntmps13 (by simp) (fun hsc=>?_);simp only [Lf.enter,Nat.reduceAdd];clear hsc
 have hU:=@hR
 repeat' (first|(refine goR ?_)|(refine za (fun K hK=>?_))|((refine zb (fun hcd=>?_) (fun hcd=>?_))<;>(try simp only [hcP] at hcd)<;>(try exact cdT))|(guard_target =~ rg _ _ _ (⟨_,_,_,_,_,some _⟩ :: _) _ _ _;(first|refine zv gT (fun hcd=>?_) (fun hcd=>?_)|refine zp gT (fun hcd=>?_) (fun hcd=>?_))<;>(try simp only [hcd])<;>(try (simp only [Bool.not_eq_true',Bool.not_eq_false'] at hcd;try simp only [hcd]))<;>(refine vC (Γ2:=_) ewT ?_)<;>(try simp only [hcP] at hcd)<;>(try exact cdT))|(refine zd (f:=39) rfl Tryz.call39 (h:=AEq.pure' agT (yK _ _ _ _ _ _ aoT aoT) (hq:=?_)))|(refine zd (f:=40) rfl Tryz.call40 (h:=AEq.pure' agT (zdy _ _ _ _ _ _ _ _ _ _ _ _ _ _ _ aoT aoT aoT) (hq:=?_)))|(guard_target =~ SOp _ _ ⟨_,.buildSlice _ _ _,_,_,_,none⟩ _ _ _;refine zF (xs:=List.map (frA) (ke sd 0 1 t (wrB 0 1 (-1) (List.replicate n.toNat 0) [] 0 0 false 0 0 0 0))) rfl (he:=eoT) (hc:=hcT) (hK:=?_))|(refine zd (f:=41) rfl Tryz.call41 (h:=AEq.pure' agT (zsG _ _ _ _ aoT) (hq:=?_)))|((refine ze [] (by rw [Tryz.results13,Lf.zt]) (zj ?_) ?_)<;>(try (first|exact zh|exact stT)))|(refine hK _ _ ?_;clear hK K))
theorem zsS (sd t n : Int) (fl : List Fl) (ss : List (Int × Int)) (hfl : fl.length ≤ 9223372036854775807) (hss : ss.length ≤ 1000000) (hs : sd = 0 ∨ sd = 1) (hR : rsB ⟨2,t,n,false,fl,ss⟩ = true) (hem : jj sd 0 0 t (-1) (List.replicate n.toNat 0) [] 0 0 false 0 0 0 0) (hn : 0 ≤ n ∧ n ≤ 16384) : AEq Tryz.prog 13 [i64 sd,.ag [i64 2,i64 t,i64 n,bl false,.sl false false (fl.map flA),.sl false false (ss.map zV)]] [] (.sl false false ((ke sd 0 0 t (wrB 0 0 (-1) (List.replicate n.toNat 0) [] 0 0 false 0 0 0 0)).map frA)) []:=by
 have hdl : (List.replicate n.toNat (0 : UInt8)).length ≤ 900000:=by rw [List.length_replicate];omega
 have hl0 : ([] : List (Int × Int)).length ≤ 10000:=by decide
 have hl1 : ([] : List UInt8).length ≤ 900000:=by decide
 refine zc Tryz.func13 rfl Tryz.ntmps13 (by simp) (fun hsc=>?_);simp only [Lf.enter,Nat.reduceAdd];clear hsc
 have hU:=@hR
 repeat' (first|(refine goR ?_)|(refine za (fun K hK=>?_))|((refine zb (fun hcd=>?_) (fun hcd=>?_))<;>(try simp only [hcP] at hcd)<;>(try exact cdT))|(guard_target =~ rg _ _ _ (⟨_,_,_,_,_,some _⟩ :: _) _ _ _;(first|refine zv gT (fun hcd=>?_) (fun hcd=>?_)|refine zp gT (fun hcd=>?_) (fun hcd=>?_))<;>(try simp only [hcd])<;>(try (simp only [Bool.not_eq_true',Bool.not_eq_false'] at hcd;try simp only [hcd]))<;>(refine vC (Γ2:=_) ewT ?_)<;>(try simp only [hcP] at hcd)<;>(try exact cdT))|(refine zd (f:=39) rfl Tryz.call39 (h:=AEq.pure' agT (yK _ _ _ _ _ _ aoT aoT) (hq:=?_)))|(refine zd (f:=40) rfl Tryz.call40 (h:=AEq.pure' agT (zdy _ _ _ _ _ _ _ _ _ _ _ _ _ _ _ aoT aoT aoT) (hq:=?_)))|(guard_target =~ SOp _ _ ⟨_,.buildSlice _ _ _,_,_,_,none⟩ _ _ _;refine zF (xs:=List.map (frA) (ke sd 0 0 t (wrB 0 0 (-1) (List.replicate n.toNat 0) [] 0 0 false 0 0 0 0))) rfl (he:=eoT) (hc:=hcT) (hK:=?_))|(refine zd (f:=41) rfl Tryz.call41 (h:=AEq.pure' agT (zsH _ _ _ _ aoT) (hq:=?_)))|((refine ze [] (by rw [Tryz.results13,Lf.zt]) (zj ?_) ?_)<;>(try (first|exact zh|exact stT)))|(refine hK _ _ ?_;clear hK K))
theorem zsT (sd t n : Int) (fl : List Fl) (ss : List (Int × Int)) (hfl : fl.length ≤ 9223372036854775807) (hss : ss.length ≤ 1000000) (hs : sd = 0 ∨ sd = 1) (hR : rsB ⟨3,t,n,false,fl,ss⟩ = true) (hem : jj sd 4 0 t (-1) [] ss 0 0 false 0 0 0 0) (hs2 : ss.length ≤ 10000) : AEq Tryz.prog 13 [i64 sd,.ag [i64 3,i64 t,i64 n,bl false,.sl false false (fl.map flA),.sl false false (ss.map zV)]] [] (.sl false false ((ke sd 4 0 t (wrB 4 0 (-1) [] ss 0 0 false 0 0 0 0)).map frA)) []:=by
 have hl0 : ([] : List (Int × Int)).length ≤ 10000:=by decide
 have hl1 : ([] : List UInt8).length ≤ 900000:=by decide
 refine zc Tryz.func13 rfl Tryz.ntmps13 (by simp) (fun hsc=>?_);simp only [Lf.enter,Nat.reduceAdd];clear hsc
 have hU:=@hR
 repeat' (first|(refine goR ?_)|(refine za (fun K hK=>?_))|((refine zb (fun hcd=>?_) (fun hcd=>?_))<;>(try simp only [hcP] at hcd)<;>(try exact cdT))|(guard_target =~ rg _ _ _ (⟨_,_,_,_,_,some _⟩ :: _) _ _ _;(first|refine zv gT (fun hcd=>?_) (fun hcd=>?_)|refine zp gT (fun hcd=>?_) (fun hcd=>?_))<;>(try simp only [hcd])<;>(try (simp only [Bool.not_eq_true',Bool.not_eq_false'] at hcd;try simp only [hcd]))<;>(refine vC (Γ2:=_) ewT ?_)<;>(try simp only [hcP] at hcd)<;>(try exact cdT))|(refine zd (f:=39) rfl Tryz.call39 (h:=AEq.pure' agT (yK _ _ _ _ _ _ aoT aoT) (hq:=?_)))|(refine zd (f:=40) rfl Tryz.call40 (h:=AEq.pure' agT (zsN _ _ _ _ _ _ _ _ _ _ _ _ _ _ _ aoT aoT aoT) (hq:=?_)))|(guard_target =~ SOp _ _ ⟨_,.buildSlice _ _ _,_,_,_,none⟩ _ _ _;refine zF (xs:=List.map (frA) (ke sd 4 0 t (wrB 4 0 (-1) [] ss 0 0 false 0 0 0 0))) rfl (he:=eoT) (hc:=hcT) (hK:=?_))|(refine zd (f:=41) rfl Tryz.call41 (h:=AEq.pure' agT (zsI _ _ _ _ aoT) (hq:=?_)))|((refine ze [] (by rw [Tryz.results13,Lf.zt]) (zj ?_) ?_)<;>(try (first|exact zh|exact stT)))|(refine hK _ _ ?_;clear hK K))
theorem zsU (sd t n : Int) (fl : List Fl) (ss : List (Int × Int)) (hfl : fl.length ≤ 9223372036854775807) (hss : ss.length ≤ 1000000) (hs : sd = 0 ∨ sd = 1) (hR : rsB ⟨4,t,n,false,fl,ss⟩ = true) (hem : jj sd 8 0 t (-1) [] [] 0 0 false 0 0 0 n)  : AEq Tryz.prog 13 [i64 sd,.ag [i64 4,i64 t,i64 n,bl false,.sl false false (fl.map flA),.sl false false (ss.map zV)]] [] (.sl false false ((ke sd 8 0 t (wrB 8 0 (-1) [] [] 0 0 false 0 0 0 n)).map frA)) []:=by
 have hl0 : ([] : List (Int × Int)).length ≤ 10000:=by decide
 have hl1 : ([] : List UInt8).length ≤ 900000:=by decide
 refine zc Tryz.func13 rfl Tryz.ntmps13 (by simp) (fun hsc=>?_);simp only [Lf.enter,Nat.reduceAdd];clear hsc
 have hU:=@hR
 repeat' (first|(refine goR ?_)|(refine za (fun K hK=>?_))|((refine zb (fun hcd=>?_) (fun hcd=>?_))<;>(try simp only [hcP] at hcd)<;>(try exact cdT))|(guard_target =~ rg _ _ _ (⟨_,_,_,_,_,some _⟩ :: _) _ _ _;(first|refine zv gT (fun hcd=>?_) (fun hcd=>?_)|refine zp gT (fun hcd=>?_) (fun hcd=>?_))<;>(try simp only [hcd])<;>(try (simp only [Bool.not_eq_true',Bool.not_eq_false'] at hcd;try simp only [hcd]))<;>(refine vC (Γ2:=_) ewT ?_)<;>(try simp only [hcP] at hcd)<;>(try exact cdT))|(refine zd (f:=39) rfl Tryz.call39 (h:=AEq.pure' agT (yK _ _ _ _ _ _ aoT aoT) (hq:=?_)))|(refine zd (f:=40) rfl Tryz.call40 (h:=AEq.pure' agT (zjj _ _ _ _ _ _ _ _ _ _ _ _ _ _ aoT aoT) (hq:=?_)))|(guard_target =~ SOp _ _ ⟨_,.buildSlice _ _ _,_,_,_,none⟩ _ _ _;refine zF (xs:=List.map (frA) (ke sd 8 0 t (wrB 8 0 (-1) [] [] 0 0 false 0 0 0 n))) rfl (he:=eoT) (hc:=hcT) (hK:=?_))|(refine zd (f:=41) rfl Tryz.call41 (h:=AEq.pure' agT (zsJ _ _ _ _) (hq:=?_)))|((refine ze [] (by rw [Tryz.results13,Lf.zt]) (zj ?_) ?_)<;>(try (first|exact zh|exact stT)))|(refine hK _ _ ?_;clear hK K))
theorem zsV (sd t n : Int) (fl : List Fl) (ss : List (Int × Int)) (hfl : fl.length ≤ 9223372036854775807) (hss : ss.length ≤ 1000000) (hs : sd = 0 ∨ sd = 1) (hR : rsB ⟨5,t,n,false,fl,ss⟩ = true) (hem : jj sd 3 0 t (-1) [] [] 0 0 false 0 0 n 0)  : AEq Tryz.prog 13 [i64 sd,.ag [i64 5,i64 t,i64 n,bl false,.sl false false (fl.map flA),.sl false false (ss.map zV)]] [] (.sl false false ((ke sd 3 0 t (wrB 3 0 (-1) [] [] 0 0 false 0 0 n 0)).map frA)) []:=by
 have hl0 : ([] : List (Int × Int)).length ≤ 10000:=by decide
 have hl1 : ([] : List UInt8).length ≤ 900000:=by decide
 refine zc Tryz.func13 rfl Tryz.ntmps13 (by simp) (fun hsc=>?_);simp only [Lf.enter,Nat.reduceAdd];clear hsc
 have hU:=@hR
 repeat' (first|(refine goR ?_)|(refine za (fun K hK=>?_))|((refine zb (fun hcd=>?_) (fun hcd=>?_))<;>(try simp only [hcP] at hcd)<;>(try exact cdT))|(guard_target =~ rg _ _ _ (⟨_,_,_,_,_,some _⟩ :: _) _ _ _;(first|refine zv gT (fun hcd=>?_) (fun hcd=>?_)|refine zp gT (fun hcd=>?_) (fun hcd=>?_))<;>(try simp only [hcd])<;>(try (simp only [Bool.not_eq_true',Bool.not_eq_false'] at hcd;try simp only [hcd]))<;>(refine vC (Γ2:=_) ewT ?_)<;>(try simp only [hcP] at hcd)<;>(try exact cdT))|(refine zd (f:=39) rfl Tryz.call39 (h:=AEq.pure' agT (yK _ _ _ _ _ _ aoT aoT) (hq:=?_)))|(refine zd (f:=40) rfl Tryz.call40 (h:=AEq.pure' agT (zjj _ _ _ _ _ _ _ _ _ _ _ _ _ _ aoT aoT) (hq:=?_)))|(guard_target =~ SOp _ _ ⟨_,.buildSlice _ _ _,_,_,_,none⟩ _ _ _;refine zF (xs:=List.map (frA) (ke sd 3 0 t (wrB 3 0 (-1) [] [] 0 0 false 0 0 n 0))) rfl (he:=eoT) (hc:=hcT) (hK:=?_))|(refine zd (f:=41) rfl Tryz.call41 (h:=AEq.pure' agT (zsK _ _ _ _) (hq:=?_)))|((refine ze [] (by rw [Tryz.results13,Lf.zt]) (zj ?_) ?_)<;>(try (first|exact zh|exact stT)))|(refine hK _ _ ?_;clear hK K))
theorem zsW (sd t n : Int) (fl : List Fl) (ss : List (Int × Int)) (hfl : fl.length ≤ 9223372036854775807) (hss : ss.length ≤ 1000000) (hs : sd = 0 ∨ sd = 1) (m : UInt8) (hnm : n = (m.toNat : Int)) (hR : rsB ⟨6,t,n,false,fl,ss⟩ = true) (hem : jj sd 6 0 t (-1) (zgz m) [] 0 0 false 0 0 0 0)  : AEq Tryz.prog 13 [i64 sd,.ag [i64 6,i64 t,i64 n,bl false,.sl false false (fl.map flA),.sl false false (ss.map zV)]] [] (.sl false false ((ke sd 6 0 t (wrB 6 0 (-1) (zgz m) [] 0 0 false 0 0 0 0)).map frA)) []:=by
 subst hnm
 have hl0 : ([] : List (Int × Int)).length ≤ 10000:=by decide
 have hl1 : ([] : List UInt8).length ≤ 900000:=by decide
 have hpl : (zgz m).length ≤ 900000:=by show 8 ≤ _;decide
 refine zc Tryz.func13 rfl Tryz.ntmps13 (by simp) (fun hsc=>?_);simp only [Lf.enter,Nat.reduceAdd];clear hsc
 have hU:=@hR
 repeat' (first|(refine goR ?_)|(refine za (fun K hK=>?_))|((refine zb (fun hcd=>?_) (fun hcd=>?_))<;>(try simp only [hcP] at hcd)<;>(try exact cdT))|(guard_target =~ rg _ _ _ (⟨_,_,_,_,_,some _⟩ :: _) _ _ _;(first|refine zv gT (fun hcd=>?_) (fun hcd=>?_)|refine zp gT (fun hcd=>?_) (fun hcd=>?_))<;>(try simp only [hcd])<;>(try (simp only [Bool.not_eq_true',Bool.not_eq_false'] at hcd;try simp only [hcd]))<;>(refine vC (Γ2:=_) ewT ?_)<;>(try simp only [hcP] at hcd)<;>(try exact cdT))|(refine zd (f:=39) rfl Tryz.call39 (h:=AEq.pure' agT (yK _ _ _ _ _ _ aoT aoT) (hq:=?_)))|(refine zd (f:=40) rfl Tryz.call40 (h:=AEq.pure' agT (zdy _ _ _ _ _ _ _ _ _ _ _ _ _ _ _ aoT aoT aoT) (hq:=?_)))|(guard_target =~ SOp _ _ ⟨_,.buildSlice _ _ _,_,_,_,none⟩ _ _ _;refine zF (xs:=List.map (frA) (ke sd 6 0 t (wrB 6 0 (-1) (zgz m) [] 0 0 false 0 0 0 0))) rfl (he:=eoT) (hc:=hcT) (hK:=?_))|(refine zd (f:=41) rfl Tryz.call41 (h:=AEq.pure' agT (zsL _ _ _ _) (hq:=?_)))|((refine ze [] (by rw [Tryz.results13,Lf.zt]) (zj ?_) ?_)<;>(try (first|exact zh|exact stT)))|(refine hK _ _ ?_;clear hK K))
theorem zsX (sd t n : Int) (fl : List Fl) (ss : List (Int × Int)) (hfl : fl.length ≤ 9223372036854775807) (hss : ss.length ≤ 1000000) (hs : sd = 0 ∨ sd = 1) (hR : rsB ⟨7,t,n,false,fl,ss⟩ = true) (hem : jj sd 7 0 t (-1) [] [] 0 0 false 0 n 0 0)  : AEq Tryz.prog 13 [i64 sd,.ag [i64 7,i64 t,i64 n,bl false,.sl false false (fl.map flA),.sl false false (ss.map zV)]] [] (.sl false false ((ke sd 7 0 t (wrB 7 0 (-1) [] [] 0 0 false 0 n 0 0)).map frA)) []:=by
 have hl0 : ([] : List (Int × Int)).length ≤ 10000:=by decide
 have hl1 : ([] : List UInt8).length ≤ 900000:=by decide
 refine zc Tryz.func13 rfl Tryz.ntmps13 (by simp) (fun hsc=>?_);simp only [Lf.enter,Nat.reduceAdd];clear hsc
 have hU:=@hR
 repeat' (first|(refine goR ?_)|(refine za (fun K hK=>?_))|((refine zb (fun hcd=>?_) (fun hcd=>?_))<;>(try simp only [hcP] at hcd)<;>(try exact cdT))|(guard_target =~ rg _ _ _ (⟨_,_,_,_,_,some _⟩ :: _) _ _ _;(first|refine zv gT (fun hcd=>?_) (fun hcd=>?_)|refine zp gT (fun hcd=>?_) (fun hcd=>?_))<;>(try simp only [hcd])<;>(try (simp only [Bool.not_eq_true',Bool.not_eq_false'] at hcd;try simp only [hcd]))<;>(refine vC (Γ2:=_) ewT ?_)<;>(try simp only [hcP] at hcd)<;>(try exact cdT))|(refine zd (f:=39) rfl Tryz.call39 (h:=AEq.pure' agT (yK _ _ _ _ _ _ aoT aoT) (hq:=?_)))|(refine zd (f:=40) rfl Tryz.call40 (h:=AEq.pure' agT (zjj _ _ _ _ _ _ _ _ _ _ _ _ _ _ aoT aoT) (hq:=?_)))|(guard_target =~ SOp _ _ ⟨_,.buildSlice _ _ _,_,_,_,none⟩ _ _ _;refine zF (xs:=List.map (frA) (ke sd 7 0 t (wrB 7 0 (-1) [] [] 0 0 false 0 n 0 0))) rfl (he:=eoT) (hc:=hcT) (hK:=?_))|(refine zd (f:=41) rfl Tryz.call41 (h:=AEq.pure' agT (zsM _ _ _ _) (hq:=?_)))|((refine ze [] (by rw [Tryz.results13,Lf.zt]) (zj ?_) ?_)<;>(try (first|exact zh|exact stT)))|(refine hK _ _ ?_;clear hK K))
theorem zjk (sd k t n : Int) (e : Bool) (fl : List Fl) (ss : List (Int × Int)) (hfl : fl.length ≤ 9223372036854775807) (hss : ss.length ≤ 1000000) (hs : sd = 0 ∨ sd = 1) (h : rsB ⟨k,t,n,e,fl,ss⟩ = true) (h8 : ¬ k = 8) : AEq Tryz.prog 13 [i64 sd,.ag [i64 k,i64 t,i64 n,bl e,.sl false false (fl.map flA),.sl false false (ss.map zV)]] [] (.sl false false ((frF sd k t n e fl ss).map frA)) []:=by
 have hem:=zeA h h8 hs
 have hR:=h
 unfold rsB at h
 dsimp only at h
 have h:=of_decide_eq_true h
 rcases h with ⟨rfl,h1,h2,rfl,h3,h4⟩|⟨rfl,h1,h2,h3,h4,h5,h6⟩|⟨rfl,rfl,rfl,rfl,h1,h2⟩|⟨rfl,rfl,h1,h2,h3,h4,h5,h6⟩|⟨rfl,rfl,h1,h2,h3,h4,h5,h6⟩|⟨rfl,rfl,h1,h2,rfl,h3,h4⟩|⟨rfl,rfl,h1,h2,rfl,h3,h4⟩|⟨rfl,_⟩
 ·obtain ⟨hf, hz⟩ := zcP h3
  have hl:=zbf (fl:=fl) (by omega) hz
  have hl2 : (yr fl).length ≤ 100000000:=by omega
  cases e
  ·exact zsQ sd t 0 fl ss hfl hss hs hR hem (by omega) hz (by omega)
  ·exact zsP sd t 0 fl ss hfl hss hs hR hem (by omega) hz (by omega)
 ·cases e
  ·exact zsS sd t n fl ss hfl hss hs hR hem ⟨by omega,by omega⟩
  ·exact zsR sd t n fl ss hfl hss hs hR hem ⟨by omega,by omega⟩
 ·exact zsT sd 0 0 fl ss hfl hss hs hR hem (zjh h2)
 ·exact zsU sd t n fl ss hfl hss hs hR hem
 ·exact zsV sd t n fl ss hfl hss hs hR hem
 ·exact zsW sd 0 n fl ss hfl hss hs (UInt8.ofNat n.toNat) (zjd h3 h4) hR hem
 ·exact zsX sd 0 n fl ss hfl hss hs hR hem
 ·exact absurd rfl h8
end Go.Proofs.YtdalcgfnlbofdaaGreatDoor
