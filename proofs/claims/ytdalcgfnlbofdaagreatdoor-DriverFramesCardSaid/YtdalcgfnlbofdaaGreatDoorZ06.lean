import Derived.Test.YtdalcgfnlbofdaaGreatDoorTg
import Derived.Test.YtdalcgfnlbofdaaGreatDoorZ01
import Derived.Test.YtdalcgfnlbofdaaGreatDoorLc
import Derived.Laws.Strings
set_option linter.unusedVariables false
set_option linter.unusedSimpArgs false
namespace Go.Proofs.YtdalcgfnlbofdaaGreatDoor
open Go Go.Lf Go.Proofs
attribute [local irreducible] Lf.rg Lf.ro Lf.PWp Lf.SOp Lf.ACall Lf.Scoped Lf.dg Lf.dw
set_option maxRecDepth 20000
set_option maxHeartbeats 4000000
@[go_sem] theorem zuF {i : Nat} {r : List Operand} : tl (.global i :: r) = tl r:=rfl
def zhN (x : Int) : Int:=if 128 ≤ x then 1 else if 64 ≤ x then 2 else if 32 ≤ x then 5 else if 16 ≤ x then 4 else 3
def frI (k : Int) : Int:=if k = 1 then 128 else if k = 2 then 64 else if k = 5 then 32 else if k = 4 then 16 else 0
def biI (k : Int) : Int:=if k = 1 then 7 else if k = 2 then 6 else if k = 5 then 5 else 4
def txB (k : Int) : Bool:=k == 2 || k == 3 || k == 4
def wiB (n : Int) : Bool:=decide (0 ≤ n) && decide (n ≤ 2147483647)
def bM (x : Int) (k : Nat) : Int:=if k ≤ 1 then 3 else if 128 ≤ x then 1 else if k = 2 then 3 else if 64 ≤ x then 2 else if k ≤ 4 then 3 else if k = 5 then (if 16 ≤ x then 4 else 3) else if 32 ≤ x then 5 else if 16 ≤ x then 4 else 3
attribute [local irreducible] bM zhN
theorem j4 (k : Int) : AEq Tryz.prog 162 [i64 k] [] (.tu [i64 (frI k),i64 (biI k)]) []:=by
 unfold frI biI
 by_cases a : k = 1
 ·rw [if_pos a, if_pos a]
  refine zc Tryz.func162 rfl Tryz.ntmps162 (by simp) (fun hsc=>?_);simp only [Lf.enter,Nat.reduceAdd];clear hsc
  have hU:=True.intro
  repeat' (first|(refine goR ?_)|(refine za (fun K hK=>?_))|((refine zb (fun hcd=>?_) (fun hcd=>?_))<;>(try simp only [hcP] at hcd)<;>(try exact cdT))|((refine ze [] (by rw [Tryz.results162,Lf.yb]) (zu ?_ ?_) ?_)<;>(try (first|exact zh|exact stT)))|(refine hK _ _ ?_;clear hK K))
 rw [if_neg a,if_neg a]
 by_cases b : k = 2
 ·rw [if_pos b, if_pos b]
  refine zc Tryz.func162 rfl Tryz.ntmps162 (by simp) (fun hsc=>?_);simp only [Lf.enter,Nat.reduceAdd];clear hsc
  have hU:=True.intro
  repeat' (first|(refine goR ?_)|(refine za (fun K hK=>?_))|((refine zb (fun hcd=>?_) (fun hcd=>?_))<;>(try simp only [hcP] at hcd)<;>(try exact cdT))|((refine ze [] (by rw [Tryz.results162,Lf.yb]) (zu ?_ ?_) ?_)<;>(try (first|exact zh|exact stT)))|(refine hK _ _ ?_;clear hK K))
 rw [if_neg b,if_neg b]
 by_cases c : k = 5
 ·rw [if_pos c, if_pos c]
  refine zc Tryz.func162 rfl Tryz.ntmps162 (by simp) (fun hsc=>?_);simp only [Lf.enter,Nat.reduceAdd];clear hsc
  have hU:=True.intro
  repeat' (first|(refine goR ?_)|(refine za (fun K hK=>?_))|((refine zb (fun hcd=>?_) (fun hcd=>?_))<;>(try simp only [hcP] at hcd)<;>(try exact cdT))|((refine ze [] (by rw [Tryz.results162,Lf.yb]) (zu ?_ ?_) ?_)<;>(try (first|exact zh|exact stT)))|(refine hK _ _ ?_;clear hK K))
 rw [if_neg c,if_neg c]
 by_cases d : k = 4
 ·rw [if_pos d]
  refine zc Tryz.func162 rfl Tryz.ntmps162 (by simp) (fun hsc=>?_);simp only [Lf.enter,Nat.reduceAdd];clear hsc
  have hU:=True.intro
  repeat' (first|(refine goR ?_)|(refine za (fun K hK=>?_))|((refine zb (fun hcd=>?_) (fun hcd=>?_))<;>(try simp only [hcP] at hcd)<;>(try exact cdT))|((refine ze [] (by rw [Tryz.results162,Lf.yb]) (zu ?_ ?_) ?_)<;>(try (first|exact zh|exact stT)))|(refine hK _ _ ?_;clear hK K))
 ·rw [if_neg d]
  refine zc Tryz.func162 rfl Tryz.ntmps162 (by simp) (fun hsc=>?_);simp only [Lf.enter,Nat.reduceAdd];clear hsc
  have hU:=True.intro
  repeat' (first|(refine goR ?_)|(refine za (fun K hK=>?_))|((refine zb (fun hcd=>?_) (fun hcd=>?_))<;>(try simp only [hcP] at hcd)<;>(try exact cdT))|((refine ze [] (by rw [Tryz.results162,Lf.yb]) (zu ?_ ?_) ?_)<;>(try (first|exact zh|exact stT)))|(refine hK _ _ ?_;clear hK K))
theorem j5 (k : Int) : AEq Tryz.prog 198 [i64 k] [] (bl (txB k)) []:=by
 refine zc Tryz.func198 rfl Tryz.ntmps198 (by simp) (fun hsc=>?_);simp only [Lf.enter,Nat.reduceAdd];clear hsc
 have hU:=True.intro
 repeat' (first|(refine goR ?_)|(refine za (fun K hK=>?_))|((refine ze [] (by rw [Tryz.results198,Lf.zt]) (zj ?_) ?_)<;>(try (first|exact zh|exact stT)))|(refine hK _ _ ?_;clear hK K))
 all_goals exact zA rfl
theorem znR (n : Int) : AEq Tryz.prog 220 [i64 n] [] (bl (wiB n)) []:=by
 refine zc Tryz.func220 rfl Tryz.ntmps220 (by simp) (fun hsc=>?_);simp only [Lf.enter,Nat.reduceAdd];clear hsc
 have hU:=True.intro
 repeat' (first|(refine goR ?_)|(refine za (fun K hK=>?_))|((refine ze [] (by rw [Tryz.results220,Lf.zt]) (zj ?_) ?_)<;>(try (first|exact zh|exact stT)))|(refine hK _ _ ?_;clear hK K))
 all_goals exact zA rfl
end Go.Proofs.YtdalcgfnlbofdaaGreatDoor
namespace Go.Proofs.YtdalcgfnlbofdaaGreatDoor
open Go Go.Lf Go.Proofs
attribute [local irreducible] Lf.rg Lf.ro Lf.PWp Lf.SOp Lf.ACall Lf.Scoped Lf.dg Lf.dw
set_option maxRecDepth 20000
set_option maxHeartbeats 4000000
theorem zhO (l : List UInt8) : ((⟨l.toArray⟩ : ByteArray).toList == (⟨#[]⟩ : ByteArray).toList) = decide (l = []):=by
 rw [ByteArray.toList_eq,ByteArray.toList_eq]
 cases l<;>simp
def RP (k i : Int) (nm : List UInt8) (ns : Bool) (vl : List UInt8) (vs : Bool) (sz : Int) : Prop:=
 (1 ≤ k ∧ k ≤ 5) ∧ (0 ≤ i ∧ i ≤ 2147483647) ∧ (0 ≤ sz ∧ sz ≤ 2147483647) ∧ ((k = 5 ∧ i = 0 ∧ (nm = [] ∧ ns = false) ∧ (vl = [] ∧ vs = false)) ∨ (k = 1 ∧ sz = 0 ∧ 0 < i ∧ (nm = [] ∧ ns = false) ∧ (vl = [] ∧ vs = false)) ∨ (k ≠ 5 ∧ k ≠ 1 ∧ sz = 0 ∧ (i = 0 ∨ (nm = [] ∧ ns = false))))
instance (k i : Int) (nm : List UInt8) (ns : Bool) (vl : List UInt8) (vs : Bool) (sz : Int) : Decidable (RP k i nm ns vl vs sz):=by unfold RP;exact inferInstance
def rOk (k i : Int) (nm : List UInt8) (ns : Bool) (vl : List UInt8) (vs : Bool) (sz : Int) : Bool:=decide (RP k i nm ns vl vs sz)
theorem j6 (k i : Int) (nm : List UInt8) (ns : Bool) (vl : List UInt8) (vs : Bool) (sz : Int) : AEq Tryz.prog 196 [.ag [i64 k,i64 i,.lit (.string ⟨nm.toArray⟩),bl ns,.lit (.string ⟨vl.toArray⟩),bl vs,i64 sz]] [] (bl (rOk k i nm ns vl vs sz)) []:=by
 have hn:=zhO nm
 have hv:=zhO vl
 have hwi : wiB i = (decide (0 ≤ i) && decide (i ≤ 2147483647)):=rfl
 have hwz : wiB sz = (decide (0 ≤ sz) && decide (sz ≤ 2147483647)):=rfl
 refine zc Tryz.func196 rfl Tryz.ntmps196 (by simp) (fun hsc=>?_);simp only [Lf.enter,Nat.reduceAdd];clear hsc
 have hU:=And.intro @hn ( And.intro @hv ( And.intro @hwi (@hwz)))
 repeat' (first|(refine goR ?_)|(refine za (fun K hK=>?_))|((refine zb (fun hcd=>?_) (fun hcd=>?_))<;>(try simp only [hcP] at hcd)<;>(try exact cdT))|(guard_target =~ rg _ _ _ (⟨_,_,_,_,_,some _⟩ :: _) _ _ _;(first|refine zv gT (fun hcd=>?_) (fun hcd=>?_)|refine zp gT (fun hcd=>?_) (fun hcd=>?_))<;>(try simp only [hcd])<;>(try (simp only [Bool.not_eq_true',Bool.not_eq_false'] at hcd;try simp only [hcd]))<;>(refine vC (Γ2:=_) ewT ?_)<;>(try simp only [hcP] at hcd)<;>(try exact cdT))|(guard_target =~ SOp _ _ ⟨_,.binOp _ _ _ _ _,_,_,_,none⟩ _ _ _;refine zZ (ne:=false) rfl (by first|exact zqQ|exact zqR|fail) (hc:=rfl) (hK:=?_))|(guard_target =~ SOp _ _ ⟨_,.binOp _ _ _ _ _,_,_,_,some _⟩ _ _ _;refine zZ (ne:=false) rfl (by first|exact zqQ|exact zqR|fail) (hc:=rfl) (hK:=?_))|(refine zd (f:=220) rfl Tryz.call220 (h:=AEq.pure' agT (znR _) (hq:=?_)))|((refine ze [] (by rw [Tryz.results196,Lf.zt]) (zj ?_) ?_)<;>(try (first|exact zh|exact stT)))|(refine hK _ _ ?_;clear hK K))
 all_goals first|exact zq (by unfold rOk RP;grind)|trace_state
end Go.Proofs.YtdalcgfnlbofdaaGreatDoor
