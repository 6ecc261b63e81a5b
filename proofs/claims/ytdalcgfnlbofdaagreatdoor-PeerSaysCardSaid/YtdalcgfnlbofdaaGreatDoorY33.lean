import Derived.Test.YtdalcgfnlbofdaaGreatDoorPg
import Derived.Test.YtdalcgfnlbofdaaGreatDoorY25
import Derived.Test.YtdalcgfnlbofdaaGreatDoorY29
import Derived.Test.YtdalcgfnlbofdaaGreatDoorPc
set_option linter.unusedVariables false
set_option linter.unusedSimpArgs false
namespace Go.Proofs.YtdalcgfnlbofdaaGreatDoor
open Go Go.Lf Go.Proofs
attribute [local irreducible] Lf.rg Lf.ro Lf.PWp Lf.SOp Lf.ACall Lf.Scoped Lf.dg Lf.dw
set_option maxRecDepth 20000
set_option maxHeartbeats 4000000
theorem ior41 : ior IntKind.i64 4 1 = 5:=by decide
theorem ior01 : ior IntKind.i64 0 1 = 1:=by decide
def oneQ (w t g st : Int) (B : List UInt8) : List Fr:=[⟨false,w,t,g,st,false,B⟩]
def frF (sd k t n : Int) (e : Bool) (fl : List Fl) (ss : List (Int × Int)) : List Fr:=oneQ sd (kT k) (kG k e) t (wrB (kT k) (kG k e) (-1) (kD k n fl) (kE k ss) 0 0 false 0 (ifK k 7 n) (ifK k 5 n) (ifK k 4 n))
theorem zdx (t g st p : Int) (fd : Bool) (d : List UInt8) (fs : Bool) (wt pa : Int) (al : Bool) (pr la co sp : Int) (w : Int) (hd : d.length ≤ 900000) (hg1 : g ≤ 9223372036854775807) (hem : kJ w t g st p d [] wt pa al pr la co sp) : AEq Tryz.prog 38 [.ag [i64 t,i64 g,i64 st,i64 p,.sl fd false (d.map zf),.sl fs false [],i64 wt,i64 pa,bl al,i64 pr,i64 la,i64 co,i64 sp],i64 w] [] (.tu [.ag [i64 w,i64 t,i64 g,i64 st,bl false,.sl false false ((wrB t g p d [] wt pa al pr la co sp).map zf)],i64 0]) []:=zds t g st p fd d fs [] wt pa al pr la co sp w hd (by decide) hg1 hem
theorem zrN (t g st p : Int) (fd : Bool) (fs : Bool) (e : List (Int × Int)) (wt pa : Int) (al : Bool) (pr la co sp : Int) (w : Int) (hl : e.length ≤ 10000) (hg1 : g ≤ 9223372036854775807) (hem : kJ w t g st p [] e wt pa al pr la co sp) : AEq Tryz.prog 38 [.ag [i64 t,i64 g,i64 st,i64 p,.sl fd false [],.sl fs false (e.map yq),i64 wt,i64 pa,bl al,i64 pr,i64 la,i64 co,i64 sp],i64 w] [] (.tu [.ag [i64 w,i64 t,i64 g,i64 st,bl false,.sl false false ((wrB t g p [] e wt pa al pr la co sp).map zf)],i64 0]) []:=zds t g st p fd [] fs e wt pa al pr la co sp w (by decide) hl hg1 hem
theorem zix (t g st p : Int) (fd : Bool) (fs : Bool) (wt pa : Int) (al : Bool) (pr la co sp : Int) (w : Int) (hg1 : g ≤ 9223372036854775807) (hem : kJ w t g st p [] [] wt pa al pr la co sp) : AEq Tryz.prog 38 [.ag [i64 t,i64 g,i64 st,i64 p,.sl fd false [],.sl fs false [],i64 wt,i64 pa,bl al,i64 pr,i64 la,i64 co,i64 sp],i64 w] [] (.tu [.ag [i64 w,i64 t,i64 g,i64 st,bl false,.sl false false ((wrB t g p [] [] wt pa al pr la co sp).map zf)],i64 0]) []:=zds t g st p fd [] fs [] wt pa al pr la co sp w (by decide) (by decide) hg1 hem
theorem zrO (sd k t n : Int) (e : Bool) (fl : List Fl) (ss : List (Int × Int)) (hfl : fl.length ≤ 9223372036854775807) (hss : ss.length ≤ 1000000) (hno : ¬ ((sd = 0 ∨ sd = 1) ∧ rsB ⟨k,t,n,e,fl,ss⟩ = true ∧ ¬ k = 8)) : AEq Tryz.prog 12 [i64 sd,.ag [i64 k,i64 t,i64 n,bl e,.sl false false (fl.map flA),.sl false false (ss.map yq)]] [] (.sl false false (List.map frA [])) []:=by
 by_cases hs : sd = 0 ∨ sd = 1
 ·have hds : decide (sd = 0 ∨ sd = 1) = true := decide_eq_true hs
  cases hR : rsB ⟨k,t,n,e,fl,ss⟩ with
  | false=>
   refine zc Tryz.func12 rfl Tryz.ntmps12 (by simp) (fun hsc=>?_);simp only [Lf.enter,Nat.reduceAdd];clear hsc
   have hU:=And.intro @hds (@hR)
   repeat' (first|(refine goR ?_)|(refine za (fun K hK=>?_))|((refine zb (fun hcd=>?_) (fun hcd=>?_))<;>(try simp only [hcP] at hcd)<;>(try exact cdT))|(refine zd (f:=36) rfl Tryz.call36 (h:=AEq.pure' agT (vK _ _ _ _ _ _ (by assumption) (by assumption)) (hq:=?_)))|(refine zd (f:=35) rfl Tryz.call35 (h:=AEq.pure' agT (v5 _) (hq:=?_)))|((refine zh [] (by rw [Tryz.results12,Lf.zy]) (zj ?_) ?_)<;>(try (first|exact zi|exact stT)))|(refine hK _ _ ?_;clear hK K))
  | true=>
   have h8 : k = 8:=by
    by_cases h : k = 8
    ·exact h
    ·exact absurd ⟨hs,hR,h⟩ hno
   subst h8
   refine zc Tryz.func12 rfl Tryz.ntmps12 (by simp) (fun hsc=>?_);simp only [Lf.enter,Nat.reduceAdd];clear hsc
   have hU:=And.intro @hds (@hR)
   repeat' (first|(refine goR ?_)|(refine za (fun K hK=>?_))|((refine zb (fun hcd=>?_) (fun hcd=>?_))<;>(try simp only [hcP] at hcd)<;>(try exact cdT))|(refine zd (f:=36) rfl Tryz.call36 (h:=AEq.pure' agT (vK _ _ _ _ _ _ (by assumption) (by assumption)) (hq:=?_)))|(refine zd (f:=35) rfl Tryz.call35 (h:=AEq.pure' agT (v5 _) (hq:=?_)))|((refine zh [] (by rw [Tryz.results12,Lf.zy]) (zj ?_) ?_)<;>(try (first|exact zi|exact stT)))|(refine hK _ _ ?_;clear hK K))
 ·have hds : decide (sd = 0 ∨ sd = 1) = false := decide_eq_false hs
  refine zc Tryz.func12 rfl Tryz.ntmps12 (by simp) (fun hsc=>?_);simp only [Lf.enter,Nat.reduceAdd];clear hsc
  have hU:=@hds
  repeat' (first|(refine goR ?_)|(refine za (fun K hK=>?_))|((refine zb (fun hcd=>?_) (fun hcd=>?_))<;>(try simp only [hcP] at hcd)<;>(try exact cdT))|(refine zd (f:=35) rfl Tryz.call35 (h:=AEq.pure' agT (v5 _) (hq:=?_)))|((refine zh [] (by rw [Tryz.results12,Lf.zy]) (zj ?_) ?_)<;>(try (first|exact zi|exact stT)))|(refine hK _ _ ?_;clear hK K))
theorem zrP (sd t n : Int) (fl : List Fl) (ss : List (Int × Int)) (hfl : fl.length ≤ 9223372036854775807) (hss : ss.length ≤ 1000000) (hs : sd = 0 ∨ sd = 1) (hR : rsB ⟨1,t,n,true,fl,ss⟩ = true) (hem : kJ sd 1 5 t (-1) (kr fl) [] 0 0 false 0 0 0 0) (hfl2 : fl.length ≤ 100) (hz : ∀ f ∈ fl,f.n.size ≤ 1000 ∧ f.v.size ≤ 1000) (hdl0 : (kr fl).length ≤ 900000) : AEq Tryz.prog 12 [i64 sd,.ag [i64 1,i64 t,i64 n,bl true,.sl false false (fl.map flA),.sl false false (ss.map yq)]] [] (.sl false false ((oneQ sd 1 5 t (wrB 1 5 (-1) (kr fl) [] 0 0 false 0 0 0 0)).map frA)) []:=by
 have hds : decide (sd = 0 ∨ sd = 1) = true:=decide_eq_true hs
 have hdl : (kr fl).length ≤ 900000:=hdl0
 have hl0 : ([] : List (Int × Int)).length ≤ 10000:=by decide
 have hl1 : ([] : List UInt8).length ≤ 900000:=by decide
 refine zc Tryz.func12 rfl Tryz.ntmps12 (by simp) (fun hsc=>?_);simp only [Lf.enter,Nat.reduceAdd];clear hsc
 have hU:=And.intro @hds ( And.intro @hR ( And.intro @ior41 (@ior01)))
 repeat' (first|(refine goR ?_)|(refine za (fun K hK=>?_))|((refine zb (fun hcd=>?_) (fun hcd=>?_))<;>(try simp only [hcP] at hcd)<;>(try exact cdT))|(refine zd (f:=36) rfl Tryz.call36 (h:=AEq.pure' agT (vK _ _ _ _ _ _ aoT aoT) (hq:=?_)))|(refine zd (f:=37) rfl Tryz.call37 (h:=AEq.pure' agT (zir _ _ _ _ _ aoT aoT) (hq:=?_)))|(refine zd (f:=35) rfl Tryz.call35 (h:=AEq.pure' agT (v5 _) (hq:=?_)))|(guard_target =~ SOp _ _ ⟨_,.buildSlice _ _ _,_,_,_,none⟩ _ _ _;refine yF (xs:=List.map (frA) (oneQ sd 1 5 t (wrB 1 5 (-1) (kr fl) [] 0 0 false 0 0 0 0))) rfl (he:=eoT) (hc:=hcT) (hK:=?_))|(refine zd (f:=38) rfl Tryz.call38 (h:=AEq.pure' agT (zdx _ _ _ _ _ _ _ _ _ _ _ _ _ _ _ aoT aoT aoT) (hq:=?_)))|((refine zh [] (by rw [Tryz.results12,Lf.zy]) (zj ?_) ?_)<;>(try (first|exact zi|exact stT)))|(refine hK _ _ ?_;clear hK K))
theorem zrQ (sd t n : Int) (fl : List Fl) (ss : List (Int × Int)) (hfl : fl.length ≤ 9223372036854775807) (hss : ss.length ≤ 1000000) (hs : sd = 0 ∨ sd = 1) (hR : rsB ⟨1,t,n,false,fl,ss⟩ = true) (hem : kJ sd 1 4 t (-1) (kr fl) [] 0 0 false 0 0 0 0) (hfl2 : fl.length ≤ 100) (hz : ∀ f ∈ fl,f.n.size ≤ 1000 ∧ f.v.size ≤ 1000) (hdl0 : (kr fl).length ≤ 900000) : AEq Tryz.prog 12 [i64 sd,.ag [i64 1,i64 t,i64 n,bl false,.sl false false (fl.map flA),.sl false false (ss.map yq)]] [] (.sl false false ((oneQ sd 1 4 t (wrB 1 4 (-1) (kr fl) [] 0 0 false 0 0 0 0)).map frA)) []:=by
 have hds : decide (sd = 0 ∨ sd = 1) = true:=decide_eq_true hs
 have hdl : (kr fl).length ≤ 900000:=hdl0
 have hl0 : ([] : List (Int × Int)).length ≤ 10000:=by decide
 have hl1 : ([] : List UInt8).length ≤ 900000:=by decide
 refine zc Tryz.func12 rfl Tryz.ntmps12 (by simp) (fun hsc=>?_);simp only [Lf.enter,Nat.reduceAdd];clear hsc
 have hU:=And.intro @hds ( And.intro @hR ( And.intro @ior41 (@ior01)))
 repeat' (first|(refine goR ?_)|(refine za (fun K hK=>?_))|((refine zb (fun hcd=>?_) (fun hcd=>?_))<;>(try simp only [hcP] at hcd)<;>(try exact cdT))|(refine zd (f:=36) rfl Tryz.call36 (h:=AEq.pure' agT (vK _ _ _ _ _ _ aoT aoT) (hq:=?_)))|(refine zd (f:=37) rfl Tryz.call37 (h:=AEq.pure' agT (zir _ _ _ _ _ aoT aoT) (hq:=?_)))|(refine zd (f:=35) rfl Tryz.call35 (h:=AEq.pure' agT (v5 _) (hq:=?_)))|(guard_target =~ SOp _ _ ⟨_,.buildSlice _ _ _,_,_,_,none⟩ _ _ _;refine yF (xs:=List.map (frA) (oneQ sd 1 4 t (wrB 1 4 (-1) (kr fl) [] 0 0 false 0 0 0 0))) rfl (he:=eoT) (hc:=hcT) (hK:=?_))|(refine zd (f:=38) rfl Tryz.call38 (h:=AEq.pure' agT (zdx _ _ _ _ _ _ _ _ _ _ _ _ _ _ _ aoT aoT aoT) (hq:=?_)))|((refine zh [] (by rw [Tryz.results12,Lf.zy]) (zj ?_) ?_)<;>(try (first|exact zi|exact stT)))|(refine hK _ _ ?_;clear hK K))
theorem zrR (sd t n : Int) (fl : List Fl) (ss : List (Int × Int)) (hfl : fl.length ≤ 9223372036854775807) (hss : ss.length ≤ 1000000) (hs : sd = 0 ∨ sd = 1) (hR : rsB ⟨2,t,n,true,fl,ss⟩ = true) (hem : kJ sd 0 1 t (-1) (List.replicate n.toNat 0) [] 0 0 false 0 0 0 0) (hn : 0 ≤ n ∧ n ≤ 16384) : AEq Tryz.prog 12 [i64 sd,.ag [i64 2,i64 t,i64 n,bl true,.sl false false (fl.map flA),.sl false false (ss.map yq)]] [] (.sl false false ((oneQ sd 0 1 t (wrB 0 1 (-1) (List.replicate n.toNat 0) [] 0 0 false 0 0 0 0)).map frA)) []:=by
 have hds : decide (sd = 0 ∨ sd = 1) = true:=decide_eq_true hs
 have hdl : (List.replicate n.toNat (0 : UInt8)).length ≤ 900000:=by rw [List.length_replicate];omega
 have hl0 : ([] : List (Int × Int)).length ≤ 10000:=by decide
 have hl1 : ([] : List UInt8).length ≤ 900000:=by decide
 refine zc Tryz.func12 rfl Tryz.ntmps12 (by simp) (fun hsc=>?_);simp only [Lf.enter,Nat.reduceAdd];clear hsc
 have hU:=And.intro @hds ( And.intro @hR ( And.intro @ior41 (@ior01)))
 repeat' (first|(refine goR ?_)|(refine za (fun K hK=>?_))|((refine zb (fun hcd=>?_) (fun hcd=>?_))<;>(try simp only [hcP] at hcd)<;>(try exact cdT))|(refine zd (f:=36) rfl Tryz.call36 (h:=AEq.pure' agT (vK _ _ _ _ _ _ aoT aoT) (hq:=?_)))|(refine zd (f:=37) rfl Tryz.call37 (h:=AEq.pure' agT (zis _ _ _ _ _ aoT) (hq:=?_)))|(refine zd (f:=35) rfl Tryz.call35 (h:=AEq.pure' agT (v5 _) (hq:=?_)))|(guard_target =~ SOp _ _ ⟨_,.buildSlice _ _ _,_,_,_,none⟩ _ _ _;refine yF (xs:=List.map (frA) (oneQ sd 0 1 t (wrB 0 1 (-1) (List.replicate n.toNat 0) [] 0 0 false 0 0 0 0))) rfl (he:=eoT) (hc:=hcT) (hK:=?_))|(refine zd (f:=38) rfl Tryz.call38 (h:=AEq.pure' agT (zdx _ _ _ _ _ _ _ _ _ _ _ _ _ _ _ aoT aoT aoT) (hq:=?_)))|((refine zh [] (by rw [Tryz.results12,Lf.zy]) (zj ?_) ?_)<;>(try (first|exact zi|exact stT)))|(refine hK _ _ ?_;clear hK K))
theorem zrS (sd t n : Int) (fl : List Fl) (ss : List (Int × Int)) (hfl : fl.length ≤ 9223372036854775807) (hss : ss.length ≤ 1000000) (hs : sd = 0 ∨ sd = 1) (hR : rsB ⟨2,t,n,false,fl,ss⟩ = true) (hem : kJ sd 0 0 t (-1) (List.replicate n.toNat 0) [] 0 0 false 0 0 0 0) (hn : 0 ≤ n ∧ n ≤ 16384) : AEq Tryz.prog 12 [i64 sd,.ag [i64 2,i64 t,i64 n,bl false,.sl false false (fl.map flA),.sl false false (ss.map yq)]] [] (.sl false false ((oneQ sd 0 0 t (wrB 0 0 (-1) (List.replicate n.toNat 0) [] 0 0 false 0 0 0 0)).map frA)) []:=by
 have hds : decide (sd = 0 ∨ sd = 1) = true:=decide_eq_true hs
 have hdl : (List.replicate n.toNat (0 : UInt8)).length ≤ 900000:=by rw [List.length_replicate];omega
 have hl0 : ([] : List (Int × Int)).length ≤ 10000:=by decide
 have hl1 : ([] : List UInt8).length ≤ 900000:=by decide
 refine zc Tryz.func12 rfl Tryz.ntmps12 (by simp) (fun hsc=>?_);simp only [Lf.enter,Nat.reduceAdd];clear hsc
 have hU:=And.intro @hds ( And.intro @hR ( And.intro @ior41 (@ior01)))
 repeat' (first|(refine goR ?_)|(refine za (fun K hK=>?_))|((refine zb (fun hcd=>?_) (fun hcd=>?_))<;>(try simp only [hcP] at hcd)<;>(try exact cdT))|(refine zd (f:=36) rfl Tryz.call36 (h:=AEq.pure' agT (vK _ _ _ _ _ _ aoT aoT) (hq:=?_)))|(refine zd (f:=37) rfl Tryz.call37 (h:=AEq.pure' agT (zis _ _ _ _ _ aoT) (hq:=?_)))|(refine zd (f:=35) rfl Tryz.call35 (h:=AEq.pure' agT (v5 _) (hq:=?_)))|(guard_target =~ SOp _ _ ⟨_,.buildSlice _ _ _,_,_,_,none⟩ _ _ _;refine yF (xs:=List.map (frA) (oneQ sd 0 0 t (wrB 0 0 (-1) (List.replicate n.toNat 0) [] 0 0 false 0 0 0 0))) rfl (he:=eoT) (hc:=hcT) (hK:=?_))|(refine zd (f:=38) rfl Tryz.call38 (h:=AEq.pure' agT (zdx _ _ _ _ _ _ _ _ _ _ _ _ _ _ _ aoT aoT aoT) (hq:=?_)))|((refine zh [] (by rw [Tryz.results12,Lf.zy]) (zj ?_) ?_)<;>(try (first|exact zi|exact stT)))|(refine hK _ _ ?_;clear hK K))
theorem zrT (sd t n : Int) (fl : List Fl) (ss : List (Int × Int)) (hfl : fl.length ≤ 9223372036854775807) (hss : ss.length ≤ 1000000) (hs : sd = 0 ∨ sd = 1) (hR : rsB ⟨3,t,n,false,fl,ss⟩ = true) (hem : kJ sd 4 0 t (-1) [] ss 0 0 false 0 0 0 0) (hs2 : ss.length ≤ 10000) : AEq Tryz.prog 12 [i64 sd,.ag [i64 3,i64 t,i64 n,bl false,.sl false false (fl.map flA),.sl false false (ss.map yq)]] [] (.sl false false ((oneQ sd 4 0 t (wrB 4 0 (-1) [] ss 0 0 false 0 0 0 0)).map frA)) []:=by
 have hds : decide (sd = 0 ∨ sd = 1) = true:=decide_eq_true hs
 have hl0 : ([] : List (Int × Int)).length ≤ 10000:=by decide
 have hl1 : ([] : List UInt8).length ≤ 900000:=by decide
 refine zc Tryz.func12 rfl Tryz.ntmps12 (by simp) (fun hsc=>?_);simp only [Lf.enter,Nat.reduceAdd];clear hsc
 have hU:=And.intro @hds ( And.intro @hR ( And.intro @ior41 (@ior01)))
 repeat' (first|(refine goR ?_)|(refine za (fun K hK=>?_))|((refine zb (fun hcd=>?_) (fun hcd=>?_))<;>(try simp only [hcP] at hcd)<;>(try exact cdT))|(refine zd (f:=36) rfl Tryz.call36 (h:=AEq.pure' agT (vK _ _ _ _ _ _ aoT aoT) (hq:=?_)))|(refine zd (f:=37) rfl Tryz.call37 (h:=AEq.pure' agT (znY _ _ _ _ _) (hq:=?_)))|(refine zd (f:=35) rfl Tryz.call35 (h:=AEq.pure' agT (v5 _) (hq:=?_)))|(guard_target =~ SOp _ _ ⟨_,.buildSlice _ _ _,_,_,_,none⟩ _ _ _;refine yF (xs:=List.map (frA) (oneQ sd 4 0 t (wrB 4 0 (-1) [] ss 0 0 false 0 0 0 0))) rfl (he:=eoT) (hc:=hcT) (hK:=?_))|(refine zd (f:=38) rfl Tryz.call38 (h:=AEq.pure' agT (zrN _ _ _ _ _ _ _ _ _ _ _ _ _ _ _ aoT aoT aoT) (hq:=?_)))|((refine zh [] (by rw [Tryz.results12,Lf.zy]) (zj ?_) ?_)<;>(try (first|exact zi|exact stT)))|(refine hK _ _ ?_;clear hK K))
theorem zrU (sd t n : Int) (fl : List Fl) (ss : List (Int × Int)) (hfl : fl.length ≤ 9223372036854775807) (hss : ss.length ≤ 1000000) (hs : sd = 0 ∨ sd = 1) (hR : rsB ⟨4,t,n,false,fl,ss⟩ = true) (hem : kJ sd 8 0 t (-1) [] [] 0 0 false 0 0 0 n)  : AEq Tryz.prog 12 [i64 sd,.ag [i64 4,i64 t,i64 n,bl false,.sl false false (fl.map flA),.sl false false (ss.map yq)]] [] (.sl false false ((oneQ sd 8 0 t (wrB 8 0 (-1) [] [] 0 0 false 0 0 0 n)).map frA)) []:=by
 have hds : decide (sd = 0 ∨ sd = 1) = true:=decide_eq_true hs
 have hl0 : ([] : List (Int × Int)).length ≤ 10000:=by decide
 have hl1 : ([] : List UInt8).length ≤ 900000:=by decide
 refine zc Tryz.func12 rfl Tryz.ntmps12 (by simp) (fun hsc=>?_);simp only [Lf.enter,Nat.reduceAdd];clear hsc
 have hU:=And.intro @hds ( And.intro @hR ( And.intro @ior41 (@ior01)))
 repeat' (first|(refine goR ?_)|(refine za (fun K hK=>?_))|((refine zb (fun hcd=>?_) (fun hcd=>?_))<;>(try simp only [hcP] at hcd)<;>(try exact cdT))|(refine zd (f:=36) rfl Tryz.call36 (h:=AEq.pure' agT (vK _ _ _ _ _ _ aoT aoT) (hq:=?_)))|(refine zd (f:=37) rfl Tryz.call37 (h:=AEq.pure' agT (znZ _ _ _ _ _) (hq:=?_)))|(refine zd (f:=35) rfl Tryz.call35 (h:=AEq.pure' agT (v5 _) (hq:=?_)))|(guard_target =~ SOp _ _ ⟨_,.buildSlice _ _ _,_,_,_,none⟩ _ _ _;refine yF (xs:=List.map (frA) (oneQ sd 8 0 t (wrB 8 0 (-1) [] [] 0 0 false 0 0 0 n))) rfl (he:=eoT) (hc:=hcT) (hK:=?_))|(refine zd (f:=38) rfl Tryz.call38 (h:=AEq.pure' agT (zix _ _ _ _ _ _ _ _ _ _ _ _ _ _ aoT aoT) (hq:=?_)))|((refine zh [] (by rw [Tryz.results12,Lf.zy]) (zj ?_) ?_)<;>(try (first|exact zi|exact stT)))|(refine hK _ _ ?_;clear hK K))
theorem zrV (sd t n : Int) (fl : List Fl) (ss : List (Int × Int)) (hfl : fl.length ≤ 9223372036854775807) (hss : ss.length ≤ 1000000) (hs : sd = 0 ∨ sd = 1) (hR : rsB ⟨5,t,n,false,fl,ss⟩ = true) (hem : kJ sd 3 0 t (-1) [] [] 0 0 false 0 0 n 0)  : AEq Tryz.prog 12 [i64 sd,.ag [i64 5,i64 t,i64 n,bl false,.sl false false (fl.map flA),.sl false false (ss.map yq)]] [] (.sl false false ((oneQ sd 3 0 t (wrB 3 0 (-1) [] [] 0 0 false 0 0 n 0)).map frA)) []:=by
 have hds : decide (sd = 0 ∨ sd = 1) = true:=decide_eq_true hs
 have hl0 : ([] : List (Int × Int)).length ≤ 10000:=by decide
 have hl1 : ([] : List UInt8).length ≤ 900000:=by decide
 refine zc Tryz.func12 rfl Tryz.ntmps12 (by simp) (fun hsc=>?_);simp only [Lf.enter,Nat.reduceAdd];clear hsc
 have hU:=And.intro @hds ( And.intro @hR ( And.intro @ior41 (@ior01)))
 repeat' (first|(refine goR ?_)|(refine za (fun K hK=>?_))|((refine zb (fun hcd=>?_) (fun hcd=>?_))<;>(try simp only [hcP] at hcd)<;>(try exact cdT))|(refine zd (f:=36) rfl Tryz.call36 (h:=AEq.pure' agT (vK _ _ _ _ _ _ aoT aoT) (hq:=?_)))|(refine zd (f:=37) rfl Tryz.call37 (h:=AEq.pure' agT (zn0 _ _ _ _ _) (hq:=?_)))|(refine zd (f:=35) rfl Tryz.call35 (h:=AEq.pure' agT (v5 _) (hq:=?_)))|(guard_target =~ SOp _ _ ⟨_,.buildSlice _ _ _,_,_,_,none⟩ _ _ _;refine yF (xs:=List.map (frA) (oneQ sd 3 0 t (wrB 3 0 (-1) [] [] 0 0 false 0 0 n 0))) rfl (he:=eoT) (hc:=hcT) (hK:=?_))|(refine zd (f:=38) rfl Tryz.call38 (h:=AEq.pure' agT (zix _ _ _ _ _ _ _ _ _ _ _ _ _ _ aoT aoT) (hq:=?_)))|((refine zh [] (by rw [Tryz.results12,Lf.zy]) (zj ?_) ?_)<;>(try (first|exact zi|exact stT)))|(refine hK _ _ ?_;clear hK K))
theorem zrW (sd t n : Int) (fl : List Fl) (ss : List (Int × Int)) (hfl : fl.length ≤ 9223372036854775807) (hss : ss.length ≤ 1000000) (hs : sd = 0 ∨ sd = 1) (m : UInt8) (hnm : n = (m.toNat : Int)) (hR : rsB ⟨6,t,n,false,fl,ss⟩ = true) (hem : kJ sd 6 0 t (-1) (zoQ m) [] 0 0 false 0 0 0 0)  : AEq Tryz.prog 12 [i64 sd,.ag [i64 6,i64 t,i64 n,bl false,.sl false false (fl.map flA),.sl false false (ss.map yq)]] [] (.sl false false ((oneQ sd 6 0 t (wrB 6 0 (-1) (zoQ m) [] 0 0 false 0 0 0 0)).map frA)) []:=by
 have hds : decide (sd = 0 ∨ sd = 1) = true:=decide_eq_true hs
 subst hnm
 have hl0 : ([] : List (Int × Int)).length ≤ 10000:=by decide
 have hl1 : ([] : List UInt8).length ≤ 900000:=by decide
 have hpl : (zoQ m).length ≤ 900000:=by show 8 ≤ _;decide
 refine zc Tryz.func12 rfl Tryz.ntmps12 (by simp) (fun hsc=>?_);simp only [Lf.enter,Nat.reduceAdd];clear hsc
 have hU:=And.intro @hds ( And.intro @hR ( And.intro @ior41 (@ior01)))
 repeat' (first|(refine goR ?_)|(refine za (fun K hK=>?_))|((refine zb (fun hcd=>?_) (fun hcd=>?_))<;>(try simp only [hcP] at hcd)<;>(try exact cdT))|(refine zd (f:=36) rfl Tryz.call36 (h:=AEq.pure' agT (vK _ _ _ _ _ _ aoT aoT) (hq:=?_)))|(refine zd (f:=37) rfl Tryz.call37 (h:=AEq.pure' agT (zn1 _ _ _ _ _) (hq:=?_)))|(refine zd (f:=35) rfl Tryz.call35 (h:=AEq.pure' agT (v5 _) (hq:=?_)))|(guard_target =~ SOp _ _ ⟨_,.buildSlice _ _ _,_,_,_,none⟩ _ _ _;refine yF (xs:=List.map (frA) (oneQ sd 6 0 t (wrB 6 0 (-1) (zoQ m) [] 0 0 false 0 0 0 0))) rfl (he:=eoT) (hc:=hcT) (hK:=?_))|(refine zd (f:=38) rfl Tryz.call38 (h:=AEq.pure' agT (zdx _ _ _ _ _ _ _ _ _ _ _ _ _ _ _ aoT aoT aoT) (hq:=?_)))|((refine zh [] (by rw [Tryz.results12,Lf.zy]) (zj ?_) ?_)<;>(try (first|exact zi|exact stT)))|(refine hK _ _ ?_;clear hK K))
theorem zrX (sd t n : Int) (fl : List Fl) (ss : List (Int × Int)) (hfl : fl.length ≤ 9223372036854775807) (hss : ss.length ≤ 1000000) (hs : sd = 0 ∨ sd = 1) (hR : rsB ⟨7,t,n,false,fl,ss⟩ = true) (hem : kJ sd 7 0 t (-1) [] [] 0 0 false 0 n 0 0)  : AEq Tryz.prog 12 [i64 sd,.ag [i64 7,i64 t,i64 n,bl false,.sl false false (fl.map flA),.sl false false (ss.map yq)]] [] (.sl false false ((oneQ sd 7 0 t (wrB 7 0 (-1) [] [] 0 0 false 0 n 0 0)).map frA)) []:=by
 have hds : decide (sd = 0 ∨ sd = 1) = true:=decide_eq_true hs
 have hl0 : ([] : List (Int × Int)).length ≤ 10000:=by decide
 have hl1 : ([] : List UInt8).length ≤ 900000:=by decide
 refine zc Tryz.func12 rfl Tryz.ntmps12 (by simp) (fun hsc=>?_);simp only [Lf.enter,Nat.reduceAdd];clear hsc
 have hU:=And.intro @hds ( And.intro @hR ( And.intro @ior41 (@ior01)))
 repeat' (first|(refine goR ?_)|(refine za (fun K hK=>?_))|((refine zb (fun hcd=>?_) (fun hcd=>?_))<;>(try simp only [hcP] at hcd)<;>(try exact cdT))|(refine zd (f:=36) rfl Tryz.call36 (h:=AEq.pure' agT (vK _ _ _ _ _ _ aoT aoT) (hq:=?_)))|(refine zd (f:=37) rfl Tryz.call37 (h:=AEq.pure' agT (zn2 _ _ _ _ _) (hq:=?_)))|(refine zd (f:=35) rfl Tryz.call35 (h:=AEq.pure' agT (v5 _) (hq:=?_)))|(guard_target =~ SOp _ _ ⟨_,.buildSlice _ _ _,_,_,_,none⟩ _ _ _;refine yF (xs:=List.map (frA) (oneQ sd 7 0 t (wrB 7 0 (-1) [] [] 0 0 false 0 n 0 0))) rfl (he:=eoT) (hc:=hcT) (hK:=?_))|(refine zd (f:=38) rfl Tryz.call38 (h:=AEq.pure' agT (zix _ _ _ _ _ _ _ _ _ _ _ _ _ _ aoT aoT) (hq:=?_)))|((refine zh [] (by rw [Tryz.results12,Lf.zy]) (zj ?_) ?_)<;>(try (first|exact zi|exact stT)))|(refine hK _ _ ?_;clear hK K))
theorem zoj {ss : List (Int × Int)} (h : zoP ss = true) : ss.length ≤ 10000:=by
 unfold zoP at h
 simp only [Bool.and_eq_true,decide_eq_true_eq] at h
 omega
theorem ziy (sd k t n : Int) (e : Bool) (fl : List Fl) (ss : List (Int × Int)) (hfl : fl.length ≤ 9223372036854775807) (hss : ss.length ≤ 1000000) (hs : sd = 0 ∨ sd = 1) (h : rsB ⟨k,t,n,e,fl,ss⟩ = true) (h8 : ¬ k = 8) : AEq Tryz.prog 12 [i64 sd,.ag [i64 k,i64 t,i64 n,bl e,.sl false false (fl.map flA),.sl false false (ss.map yq)]] [] (.sl false false ((frF sd k t n e fl ss).map frA)) []:=by
 have hem:=ziq h h8 hs
 have hR:=h
 unfold rsB at h
 dsimp only at h
 have h:=of_decide_eq_true h
 rcases h with ⟨rfl,h1,h2,rfl,h3,h4⟩|⟨rfl,h1,h2,h3,h4,h5,h6⟩|⟨rfl,rfl,rfl,rfl,h1,h2⟩|⟨rfl,rfl,h1,h2,h3,h4,h5,h6⟩|⟨rfl,rfl,h1,h2,h3,h4,h5,h6⟩|⟨rfl,rfl,h1,h2,rfl,h3,h4⟩|⟨rfl,rfl,h1,h2,rfl,h3,h4⟩|⟨rfl,_⟩
 ·obtain ⟨hf, hz⟩ := zfx h3
  have hl:=zdv (fl:=fl) (by omega) hz
  have hl2 : (kr fl).length ≤ 100000000:=by omega
  cases e
  ·exact zrQ sd t 0 fl ss hfl hss hs hR hem (by omega) hz (by omega)
  ·exact zrP sd t 0 fl ss hfl hss hs hR hem (by omega) hz (by omega)
 ·cases e
  ·exact zrS sd t n fl ss hfl hss hs hR hem ⟨by omega,by omega⟩
  ·exact zrR sd t n fl ss hfl hss hs hR hem ⟨by omega,by omega⟩
 ·exact zrT sd 0 0 fl ss hfl hss hs hR hem (zoj h2)
 ·exact zrU sd t n fl ss hfl hss hs hR hem
 ·exact zrV sd t n fl ss hfl hss hs hR hem
 ·exact zrW sd 0 n fl ss hfl hss hs (UInt8.ofNat n.toNat) (znX h3 h4) hR hem
 ·exact zrX sd 0 n fl ss hfl hss hs hR hem
 ·exact absurd rfl h8
end Go.Proofs.YtdalcgfnlbofdaaGreatDoor
