import Derived.Test.YtdalcgfnlbofdaaGreatDoorPg
import Derived.Test.YtdalcgfnlbofdaaGreatDoorY18
import Derived.Test.YtdalcgfnlbofdaaGreatDoorY01
import Derived.Test.YtdalcgfnlbofdaaGreatDoorPc
set_option linter.unusedVariables false
set_option linter.unusedSimpArgs false
namespace Go.Proofs.YtdalcgfnlbofdaaGreatDoor
open Go Go.Lf Go.Proofs
attribute [local irreducible] Lf.rg Lf.ro Lf.PWp Lf.SOp Lf.ACall Lf.Scoped Lf.dg Lf.dw
set_option maxRecDepth 20000
set_option maxHeartbeats 4000000
theorem zgd {n k : Int} (h : yw n k = 0) : okN n k = true:=decide_eq_true h
theorem zkE {n k : Int} (h : ¬ yw n k = 0) : okN n k = false:=decide_eq_false h
theorem zcE {n k : Int} (h : yw n k = 0) : nbB n k = beB n k.toNat:=if_pos h
theorem znK {n k : Int} (h : ¬ yw n k = 0) : nbB n k = []:=if_neg h
def wgB (pa : Int) (al : Bool) (wt : Int) : List UInt8:=loB pa al ++ nbB wt 1
def wgW (pa wt : Int) : Bool:=!loK pa || !okN wt 1
def wgS (wt : Int) : Nat:=if yw wt 1 = 0 then 1 else 4
theorem ztV {n : Int} (h : yw n 1 = 0) : wgS n = 1:=if_pos h
theorem ztW {n : Int} (h : ¬ yw n 1 = 0) : wgS n = 4:=if_neg h
theorem jO (n : Int) : (beB n 1).length = 1:=zN n 1
theorem znL (pa : Int) (al : Bool) (wt : Int) : (wgB pa al wt).length ≤ 5:=by
 unfold wgB;rw [List.length_append,z7];have:=zih wt 1;simp at this;omega
theorem zkF (s : Nat) (x : List UInt8) (w : Bool) (t g st p : Int) (fd : Bool) (d : List UInt8) (fs : Bool) (e : List (Int × Int)) (wt pa : Int) (al : Bool) (pr la co sp : Int) (hx : x.length ≤ 100000000) (hn : yw wt 1 = 0) : AEq Tryz.prog 177 [.ptr 0 0,.ag [i64 t,i64 g,i64 st,i64 p,.sl fd false (d.map zf),.sl fs false (e.map yq),i64 wt,i64 pa,bl al,i64 pr,i64 la,i64 co,i64 sp]] [.box [.row 1 s,bl w],.row s 5 1 (x.map zf)] (.tu []) [.box [.row 2 (wgS wt),bl (w || wgW pa wt)],.row s 5 1 (x.map zf),.row (wgS wt) 5 1 ((x ++ wgB pa al wt).map zf)]:=by
 have hll:=z7 pa al
 rw [ztV hn,show wgW pa wt = !loK pa from by unfold wgW;rw [zgd hn];simp,show x ++ wgB pa al wt = (x ++ loB pa al) ++ beB wt 1 from by unfold wgB;rw [zcE hn,List.append_assoc];rfl]
 refine zc Tryz.func177 rfl Tryz.ntmps177 (by simp) (fun hsc=>?_);simp only [Lf.enter,Nat.reduceAdd];clear hsc
 have hU:=True.intro
 repeat' (first|(refine goR ?_)|(refine za (fun K hK=>?_))|(refine zd (f:=132) rfl Tryz.call132 (h:=AEq.sub' [_,_] (hc:=jk _ _ _ _ _ lnT lnT lnT lnT) (hq:=?_)))|(refine zd (f:=178) rfl Tryz.call178 (h:=AEq.sub' [_,_] (hc:=zoO _ _ _ _ _ lnT) (hq:=?_)))|((refine zh [0,1,4] (by rw [Tryz.results177,Lf.vW]) yk ?_)<;>(try (first|exact zi|exact stT)))|(refine hK _ _ ?_;clear hK K))
theorem zkG (s : Nat) (x : List UInt8) (w : Bool) (t g st p : Int) (fd : Bool) (d : List UInt8) (fs : Bool) (e : List (Int × Int)) (wt pa : Int) (al : Bool) (pr la co sp : Int) (hx : x.length ≤ 100000000) (hn : ¬ yw wt 1 = 0) : AEq Tryz.prog 177 [.ptr 0 0,.ag [i64 t,i64 g,i64 st,i64 p,.sl fd false (d.map zf),.sl fs false (e.map yq),i64 wt,i64 pa,bl al,i64 pr,i64 la,i64 co,i64 sp]] [.box [.row 1 s,bl w],.row s 5 1 (x.map zf)] (.tu []) [.box [.row 2 (wgS wt),bl (w || wgW pa wt)],.row s 5 1 (x.map zf),.row (wgS wt) 5 1 ((x ++ wgB pa al wt).map zf)]:=by
 have hll:=z7 pa al
 rw [ztW hn,show wgW pa wt = true from by unfold wgW;rw [zkE hn];simp,Bool.or_true,show x ++ wgB pa al wt = x ++ loB pa al from by unfold wgB;rw [znK hn,List.append_nil]]
 refine zc Tryz.func177 rfl Tryz.ntmps177 (by simp) (fun hsc=>?_);simp only [Lf.enter,Nat.reduceAdd];clear hsc
 have hU:=True.intro
 repeat' (first|(refine goR ?_)|(refine za (fun K hK=>?_))|(refine zd (f:=132) rfl Tryz.call132 (h:=AEq.sub' [_,_] (hc:=zaB _ _ _ _ _ lnT lnT lnT lnT) (hq:=?_)))|(refine zd (f:=178) rfl Tryz.call178 (h:=AEq.sub' [_,_] (hc:=zoO _ _ _ _ _ lnT) (hq:=?_)))|((refine zh [0,1,3] (by rw [Tryz.results177,Lf.vW]) yk ?_)<;>(try (first|exact zi|exact stT)))|(refine hK _ _ ?_;clear hK K))
theorem zlG (s : Nat) (x : List UInt8) (w : Bool) (t g st p : Int) (fd : Bool) (d : List UInt8) (fs : Bool) (e : List (Int × Int)) (wt pa : Int) (al : Bool) (pr la co sp : Int) (hx : x.length ≤ 100000000) : AEq Tryz.prog 177 [.ptr 0 0,.ag [i64 t,i64 g,i64 st,i64 p,.sl fd false (d.map zf),.sl fs false (e.map yq),i64 wt,i64 pa,bl al,i64 pr,i64 la,i64 co,i64 sp]] [.box [.row 1 s,bl w],.row s 5 1 (x.map zf)] (.tu []) [.box [.row 2 (wgS wt),bl (w || wgW pa wt)],.row s 5 1 (x.map zf),.row (wgS wt) 5 1 ((x ++ wgB pa al wt).map zf)]:=by
 by_cases hn : yw wt 1 = 0
 ·exact zkF s x w t g st p fd d fs e wt pa al pr la co sp hx hn
 ·exact zkG s x w t g st p fd d fs e wt pa al pr la co sp hx hn
theorem zes (e : List (Int × Int)) : (spB e).length ≤ 6 * e.length:=by
 unfold spB;split
 ·rw [j4];exact Nat.le_refl _
 ·exact Nat.zero_le _
theorem ztX (s : Nat) (x : List UInt8) (w : Bool) (t g st p : Int) (fd : Bool) (d : List UInt8) (fs : Bool) (e : List (Int × Int)) (wt pa : Int) (al : Bool) (pr la co sp : Int) (hx : x.length ≤ 10000000) (hl : e.length ≤ 100000) (ht : t = 1) (hH : vp 1 g 32 = true) : AEq Tryz.prog 133 [.ptr 0 0,.ag [i64 t,i64 g,i64 st,i64 p,.sl fd false (d.map zf),.sl fs false (e.map yq),i64 wt,i64 pa,bl al,i64 pr,i64 la,i64 co,i64 sp]] [.box [.row 1 s,bl w],.row s 5 1 (x.map zf)] (.tu []) [.box [.row 2 (wgS wt),bl (w || wgW pa wt)],.row s 5 1 (x.map zf),.row (wgS wt) 5 1 ((x ++ wgB pa al wt).map zf)]:=by
 subst ht
 refine zc Tryz.func133 rfl Tryz.ntmps133 (by simp) (fun hsc=>?_);simp only [Lf.enter,Nat.reduceAdd];clear hsc
 have hU:=@hH
 repeat' (first|(refine goR ?_)|(refine za (fun K hK=>?_))|((refine zb (fun hcd=>?_) (fun hcd=>?_))<;>(try simp only [hcP] at hcd)<;>(try exact cdT))|(refine zd (f:=177) rfl Tryz.call177 (h:=AEq.sub' [_,_] (hc:=zlG _ _ _ _ _ _ _ _ _ _ _ _ _ _ _ _ _ _ (by omega)) (hq:=?_)))|(refine zd (f:=94) rfl Tryz.call94 (h:=AEq.pure' agT (zig _ _ _ (by omega)) (hq:=?_)))|((refine zh [0,1,3] (by rw [Tryz.results133,Lf.vW]) yk ?_)<;>(try (first|exact zi|exact stT)))|(refine hK _ _ ?_;clear hK K))
theorem ztY (s : Nat) (x : List UInt8) (w : Bool) (t g st p : Int) (fd : Bool) (d : List UInt8) (fs : Bool) (e : List (Int × Int)) (wt pa : Int) (al : Bool) (pr la co sp : Int) (hx : x.length ≤ 10000000) (hl : e.length ≤ 100000) (ht : t = 1) (hH : vp 1 g 32 = false) : AEq Tryz.prog 133 [.ptr 0 0,.ag [i64 t,i64 g,i64 st,i64 p,.sl fd false (d.map zf),.sl fs false (e.map yq),i64 wt,i64 pa,bl al,i64 pr,i64 la,i64 co,i64 sp]] [.box [.row 1 s,bl w],.row s 5 1 (x.map zf)] (.tu []) [.box [.row 1 s,bl w],.row s 5 1 (x.map zf)]:=by
 subst ht
 refine zc Tryz.func133 rfl Tryz.ntmps133 (by simp) (fun hsc=>?_);simp only [Lf.enter,Nat.reduceAdd];clear hsc
 have hU:=@hH
 repeat' (first|(refine goR ?_)|(refine za (fun K hK=>?_))|((refine zb (fun hcd=>?_) (fun hcd=>?_))<;>(try simp only [hcP] at hcd)<;>(try exact cdT))|(refine zd (f:=94) rfl Tryz.call94 (h:=AEq.pure' agT (zig _ _ _ (by omega)) (hq:=?_)))|((refine zh [0,1] (by rw [Tryz.results133,Lf.vW]) yk ?_)<;>(try (first|exact zi|exact stT)))|(refine hK _ _ ?_;clear hK K))
theorem zzw (s : Nat) (x : List UInt8) (w : Bool) (t g st p : Int) (fd : Bool) (d : List UInt8) (fs : Bool) (e : List (Int × Int)) (wt pa : Int) (al : Bool) (pr la co sp : Int) (hx : x.length ≤ 10000000) (hl : e.length ≤ 100000) (ht : t = 2) : AEq Tryz.prog 133 [.ptr 0 0,.ag [i64 t,i64 g,i64 st,i64 p,.sl fd false (d.map zf),.sl fs false (e.map yq),i64 wt,i64 pa,bl al,i64 pr,i64 la,i64 co,i64 sp]] [.box [.row 1 s,bl w],.row s 5 1 (x.map zf)] (.tu []) [.box [.row 2 (wgS wt),bl (w || wgW pa wt)],.row s 5 1 (x.map zf),.row (wgS wt) 5 1 ((x ++ wgB pa al wt).map zf)]:=by
 subst ht
 refine zc Tryz.func133 rfl Tryz.ntmps133 (by simp) (fun hsc=>?_);simp only [Lf.enter,Nat.reduceAdd];clear hsc
 have hU:=True.intro
 repeat' (first|(refine goR ?_)|(refine za (fun K hK=>?_))|((refine zb (fun hcd=>?_) (fun hcd=>?_))<;>(try simp only [hcP] at hcd)<;>(try exact cdT))|(refine zd (f:=177) rfl Tryz.call177 (h:=AEq.sub' [_,_] (hc:=zlG _ _ _ _ _ _ _ _ _ _ _ _ _ _ _ _ _ _ (by omega)) (hq:=?_)))|((refine zh [0,1,3] (by rw [Tryz.results133,Lf.vW]) yk ?_)<;>(try (first|exact zi|exact stT)))|(refine hK _ _ ?_;clear hK K))
theorem ztZ (s : Nat) (x : List UInt8) (w : Bool) (t g st p : Int) (fd : Bool) (d : List UInt8) (fs : Bool) (e : List (Int × Int)) (wt pa : Int) (al : Bool) (pr la co sp : Int) (hx : x.length ≤ 10000000) (hl : e.length ≤ 100000) (ht : t = 3) (hn : yw co 4 = 0) : AEq Tryz.prog 133 [.ptr 0 0,.ag [i64 t,i64 g,i64 st,i64 p,.sl fd false (d.map zf),.sl fs false (e.map yq),i64 wt,i64 pa,bl al,i64 pr,i64 la,i64 co,i64 sp]] [.box [.row 1 s,bl w],.row s 5 1 (x.map zf)] (.tu []) [.box [.row 2 4,bl w],.row s 5 1 (x.map zf),.row 4 5 1 ((x ++ beB co 4).map zf)]:=by
 subst ht
 refine zc Tryz.func133 rfl Tryz.ntmps133 (by simp) (fun hsc=>?_);simp only [Lf.enter,Nat.reduceAdd];clear hsc
 have hU:=True.intro
 repeat' (first|(refine goR ?_)|(refine za (fun K hK=>?_))|((refine zb (fun hcd=>?_) (fun hcd=>?_))<;>(try simp only [hcP] at hcd)<;>(try exact cdT))|(refine zd (f:=132) rfl Tryz.call132 (h:=AEq.sub' [_,_] (hc:=jk _ _ _ _ _ aoT aoT aoT aoT) (hq:=?_)))|((refine zh [0,1,3] (by rw [Tryz.results133,Lf.vW]) yk ?_)<;>(try (first|exact zi|exact stT)))|(refine hK _ _ ?_;clear hK K))
theorem zt0 (s : Nat) (x : List UInt8) (w : Bool) (t g st p : Int) (fd : Bool) (d : List UInt8) (fs : Bool) (e : List (Int × Int)) (wt pa : Int) (al : Bool) (pr la co sp : Int) (hx : x.length ≤ 10000000) (hl : e.length ≤ 100000) (ht : t = 3) (hn : ¬ yw co 4 = 0) : AEq Tryz.prog 133 [.ptr 0 0,.ag [i64 t,i64 g,i64 st,i64 p,.sl fd false (d.map zf),.sl fs false (e.map yq),i64 wt,i64 pa,bl al,i64 pr,i64 la,i64 co,i64 sp]] [.box [.row 1 s,bl w],.row s 5 1 (x.map zf)] (.tu []) [.box [.row 1 s,bl true],.row s 5 1 (x.map zf)]:=by
 subst ht
 refine zc Tryz.func133 rfl Tryz.ntmps133 (by simp) (fun hsc=>?_);simp only [Lf.enter,Nat.reduceAdd];clear hsc
 have hU:=True.intro
 repeat' (first|(refine goR ?_)|(refine za (fun K hK=>?_))|((refine zb (fun hcd=>?_) (fun hcd=>?_))<;>(try simp only [hcP] at hcd)<;>(try exact cdT))|(refine zd (f:=132) rfl Tryz.call132 (h:=AEq.sub' [_,_] (hc:=zaB _ _ _ _ _ aoT aoT aoT aoT) (hq:=?_)))|((refine zh [0,1] (by rw [Tryz.results133,Lf.vW]) yk ?_)<;>(try (first|exact zi|exact stT)))|(refine hK _ _ ?_;clear hK K))
theorem zzx (s : Nat) (x : List UInt8) (w : Bool) (t g st p : Int) (fd : Bool) (d : List UInt8) (fs : Bool) (e : List (Int × Int)) (wt pa : Int) (al : Bool) (pr la co sp : Int) (hx : x.length ≤ 10000000) (hl : e.length ≤ 100000) (ht : t = 5) : AEq Tryz.prog 133 [.ptr 0 0,.ag [i64 t,i64 g,i64 st,i64 p,.sl fd false (d.map zf),.sl fs false (e.map yq),i64 wt,i64 pa,bl al,i64 pr,i64 la,i64 co,i64 sp]] [.box [.row 1 s,bl w],.row s 5 1 (x.map zf)] (.tu []) [.box [.row 2 4,bl (w || !loK pr)],.row s 5 1 (x.map zf),.row 4 5 1 ((x ++ loB pr false).map zf)]:=by
 subst ht
 refine zc Tryz.func133 rfl Tryz.ntmps133 (by simp) (fun hsc=>?_);simp only [Lf.enter,Nat.reduceAdd];clear hsc
 have hU:=True.intro
 repeat' (first|(refine goR ?_)|(refine za (fun K hK=>?_))|((refine zb (fun hcd=>?_) (fun hcd=>?_))<;>(try simp only [hcP] at hcd)<;>(try exact cdT))|(refine zd (f:=178) rfl Tryz.call178 (h:=AEq.sub' [_,_] (hc:=zoO _ _ _ _ _ (by omega)) (hq:=?_)))|((refine zh [0,1,3] (by rw [Tryz.results133,Lf.vW]) yk ?_)<;>(try (first|exact zi|exact stT)))|(refine hK _ _ ?_;clear hK K))
theorem zt1 (s : Nat) (x : List UInt8) (w : Bool) (t g st p : Int) (fd : Bool) (d : List UInt8) (fs : Bool) (e : List (Int × Int)) (wt pa : Int) (al : Bool) (pr la co sp : Int) (hx : x.length ≤ 10000000) (hl : e.length ≤ 100000) (ht : t = 7) (hn : yw co 4 = 0) : AEq Tryz.prog 133 [.ptr 0 0,.ag [i64 t,i64 g,i64 st,i64 p,.sl fd false (d.map zf),.sl fs false (e.map yq),i64 wt,i64 pa,bl al,i64 pr,i64 la,i64 co,i64 sp]] [.box [.row 1 s,bl w],.row s 5 1 (x.map zf)] (.tu []) [.box [.row 2 4,bl (w || !loK la)],.row s 5 1 (x.map zf),.row 4 5 1 ((x ++ (loB la false ++ beB co 4)).map zf)]:=by
 subst ht
 have hll:=z7 la false
 rw [← List.append_assoc]
 refine zc Tryz.func133 rfl Tryz.ntmps133 (by simp) (fun hsc=>?_);simp only [Lf.enter,Nat.reduceAdd];clear hsc
 have hU:=True.intro
 repeat' (first|(refine goR ?_)|(refine za (fun K hK=>?_))|((refine zb (fun hcd=>?_) (fun hcd=>?_))<;>(try simp only [hcP] at hcd)<;>(try exact cdT))|(refine zd (f:=178) rfl Tryz.call178 (h:=AEq.sub' [_,_] (hc:=zoO _ _ _ _ _ lnT) (hq:=?_)))|(refine zd (f:=132) rfl Tryz.call132 (h:=AEq.sub' [_,_] (hc:=jk _ _ _ _ _ lnT lnT lnT lnT) (hq:=?_)))|((refine zh [0,1,4] (by rw [Tryz.results133,Lf.vW]) yk ?_)<;>(try (first|exact zi|exact stT)))|(refine hK _ _ ?_;clear hK K))
theorem zt2 (s : Nat) (x : List UInt8) (w : Bool) (t g st p : Int) (fd : Bool) (d : List UInt8) (fs : Bool) (e : List (Int × Int)) (wt pa : Int) (al : Bool) (pr la co sp : Int) (hx : x.length ≤ 10000000) (hl : e.length ≤ 100000) (ht : t = 7) (hn : ¬ yw co 4 = 0) : AEq Tryz.prog 133 [.ptr 0 0,.ag [i64 t,i64 g,i64 st,i64 p,.sl fd false (d.map zf),.sl fs false (e.map yq),i64 wt,i64 pa,bl al,i64 pr,i64 la,i64 co,i64 sp]] [.box [.row 1 s,bl w],.row s 5 1 (x.map zf)] (.tu []) [.box [.row 2 4,bl true],.row s 5 1 (x.map zf),.row 4 5 1 ((x ++ loB la false).map zf)]:=by
 subst ht
 have hll:=z7 la false
 refine zc Tryz.func133 rfl Tryz.ntmps133 (by simp) (fun hsc=>?_);simp only [Lf.enter,Nat.reduceAdd];clear hsc
 have hU:=True.intro
 repeat' (first|(refine goR ?_)|(refine za (fun K hK=>?_))|((refine zb (fun hcd=>?_) (fun hcd=>?_))<;>(try simp only [hcP] at hcd)<;>(try exact cdT))|(refine zd (f:=178) rfl Tryz.call178 (h:=AEq.sub' [_,_] (hc:=zoO _ _ _ _ _ lnT) (hq:=?_)))|(refine zd (f:=132) rfl Tryz.call132 (h:=AEq.sub' [_,_] (hc:=zaB _ _ _ _ _ lnT lnT lnT lnT) (hq:=?_)))|((refine zh [0,1,3] (by rw [Tryz.results133,Lf.vW]) yk ?_)<;>(try (first|exact zi|exact stT)))|(refine hK _ _ ?_;clear hK K))
theorem zzy (s : Nat) (x : List UInt8) (w : Bool) (t g st p : Int) (fd : Bool) (d : List UInt8) (fs : Bool) (e : List (Int × Int)) (wt pa : Int) (al : Bool) (pr la co sp : Int) (hx : x.length ≤ 10000000) (hl : e.length ≤ 100000) (ht : t = 8) : AEq Tryz.prog 133 [.ptr 0 0,.ag [i64 t,i64 g,i64 st,i64 p,.sl fd false (d.map zf),.sl fs false (e.map yq),i64 wt,i64 pa,bl al,i64 pr,i64 la,i64 co,i64 sp]] [.box [.row 1 s,bl w],.row s 5 1 (x.map zf)] (.tu []) [.box [.row 2 4,bl (w || !loK sp)],.row s 5 1 (x.map zf),.row 4 5 1 ((x ++ loB sp false).map zf)]:=by
 subst ht
 refine zc Tryz.func133 rfl Tryz.ntmps133 (by simp) (fun hsc=>?_);simp only [Lf.enter,Nat.reduceAdd];clear hsc
 have hU:=True.intro
 repeat' (first|(refine goR ?_)|(refine za (fun K hK=>?_))|((refine zb (fun hcd=>?_) (fun hcd=>?_))<;>(try simp only [hcP] at hcd)<;>(try exact cdT))|(refine zd (f:=178) rfl Tryz.call178 (h:=AEq.sub' [_,_] (hc:=zoO _ _ _ _ _ (by omega)) (hq:=?_)))|((refine zh [0,1,3] (by rw [Tryz.results133,Lf.vW]) yk ?_)<;>(try (first|exact zi|exact stT)))|(refine hK _ _ ?_;clear hK K))
theorem zzz (s : Nat) (x : List UInt8) (w : Bool) (t g st p : Int) (fd : Bool) (d : List UInt8) (fs : Bool) (e : List (Int × Int)) (wt pa : Int) (al : Bool) (pr la co sp : Int) (hx : x.length ≤ 10000000) (hl : e.length ≤ 100000) (ht : t = 4) : AEq Tryz.prog 133 [.ptr 0 0,.ag [i64 t,i64 g,i64 st,i64 p,.sl fd false (d.map zf),.sl fs false (e.map yq),i64 wt,i64 pa,bl al,i64 pr,i64 la,i64 co,i64 sp]] [.box [.row 1 s,bl w],.row s 5 1 (x.map zf)] (.tu []) [.box [.row 1 (s + 1),bl (w || spE e != 0)],.row (s + 1) 5 1 ((x ++ spB e).map zf)]:=by
 subst ht
 have hsl:=zes e
 have hma : List.map zf x ++ List.map zf (spB e) = List.map zf (x ++ spB e):=List.map_append.symm
 refine zc Tryz.func133 rfl Tryz.ntmps133 (by simp) (fun hsc=>?_);simp only [Lf.enter,Nat.reduceAdd];clear hsc
 have hU:=@hma
 repeat' (first|(refine goS ?_)|(refine za (fun K hK=>?_))|((refine zb (fun hcd=>?_) (fun hcd=>?_))<;>(try simp only [hcP] at hcd)<;>(try exact cdT))|(refine zd (f:=130) rfl Tryz.call130 (h:=AEq.pure' agT (zhY _ _ _ (by omega)) (hq:=?_)))|((refine zh [0,1] (by rw [Tryz.results133,Lf.vW]) yk ?_)<;>(try (first|exact zi|exact stT)))|(refine hK _ _ ?_;clear hK K))
theorem zzA (s : Nat) (x : List UInt8) (w : Bool) (t g st p : Int) (fd : Bool) (d : List UInt8) (fs : Bool) (e : List (Int × Int)) (wt pa : Int) (al : Bool) (pr la co sp : Int) (hx : x.length ≤ 10000000) (hl : e.length ≤ 100000) (h1 : ¬ t = 1) (h2 : ¬ t = 2) (h3 : ¬ t = 3) (h5 : ¬ t = 5) (h7 : ¬ t = 7) (h8 : ¬ t = 8) (h4 : ¬ t = 4) : AEq Tryz.prog 133 [.ptr 0 0,.ag [i64 t,i64 g,i64 st,i64 p,.sl fd false (d.map zf),.sl fs false (e.map yq),i64 wt,i64 pa,bl al,i64 pr,i64 la,i64 co,i64 sp]] [.box [.row 1 s,bl w],.row s 5 1 (x.map zf)] (.tu []) [.box [.row 1 s,bl w],.row s 5 1 (x.map zf)]:=by
 refine zc Tryz.func133 rfl Tryz.ntmps133 (by simp) (fun hsc=>?_);simp only [Lf.enter,Nat.reduceAdd];clear hsc
 have hU:=True.intro
 repeat' (first|(refine goR ?_)|(refine za (fun K hK=>?_))|((refine zb (fun hcd=>?_) (fun hcd=>?_))<;>(try simp only [hcP] at hcd)<;>(try exact cdT))|((refine zh [0,1] (by rw [Tryz.results133,Lf.vW]) yk ?_)<;>(try (first|exact zi|exact stT)))|(refine hK _ _ ?_;clear hK K))
end Go.Proofs.YtdalcgfnlbofdaaGreatDoor
