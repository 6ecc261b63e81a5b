import Derived.Test.YtdalcgfnlbofdaaGreatDoorPg
import Derived.Test.YtdalcgfnlbofdaaGreatDoorY27
import Derived.Test.YtdalcgfnlbofdaaGreatDoorY01
import Derived.Test.YtdalcgfnlbofdaaGreatDoorPc
set_option linter.unusedVariables false
set_option linter.unusedSimpArgs false
namespace Go.Proofs.YtdalcgfnlbofdaaGreatDoor
open Go Go.Lf Go.Proofs
attribute [local irreducible] Lf.rg Lf.ro Lf.PWp Lf.SOp Lf.ACall Lf.Scoped Lf.dg Lf.dw
set_option maxRecDepth 20000
set_option maxHeartbeats 4000000
theorem zoc (sd n : Int) (s : Nat) (l : List (List UInt8)) (w t g st : Int) (r f : Bool) (b : List UInt8) (hl : l.length ≤ 1000) (hb : b.length ≤ 100000) (hn : -1000 ≤ n ∧ n ≤ 1000) (hs : sd = 0 ∨ sd = 1) (ho : km ⟨b.length,t,g,st,r⟩) (F : Fm) (hP : ym t g st b = (F,0,0)) (he : (¬ t = 4 ∧ ¬ t = 6) ∨ (¬ (w = 1 - sd ∧ zF t g 1 = false) ∧ ¬ (w = sd ∧ zF t g 1 = true))) : AEq Tryz.prog 74 [.ptr 0 0,.ag [i64 w,i64 t,i64 g,i64 st,bl r,.sl f false (b.map zf)]] [.box [i64 sd,i64 n,.row 1 s],.row s 43 1 (l.map bsA)] (.tu []) [.box [i64 sd,i64 n,.row 1 s],.row s 43 1 (l.map bsA)]:=by
 have hg : 0 ≤ g ∧ g < 256:=by unfold km at ho;dsimp only at ho;omega
 have hg0:=hg.1
 have hg1:=hg.2
 rcases he with ⟨h4,h6⟩|⟨c1,c2⟩
 ·have d4 := zkT h4
  have d6:=zkT h6
  cases hB : zF t g 1 with
  | true=>
   refine zc Tryz.func74 rfl Tryz.ntmps74 (by simp) (fun hsc=>?_);simp only [Lf.enter,Nat.reduceAdd];clear hsc
   have hU:=And.intro @hP ( And.intro @d4 ( And.intro @d6 (@hB)))
   repeat' (first|(refine goR ?_)|(refine za (fun K hK=>?_))|(guard_target =~ PWp _ _ _ _ _ _ _;refine zQ mixed (by kernel_rfl) ?_)|((refine zb (fun hcd=>?_) (fun hcd=>?_))<;>(try simp only [hcP] at hcd)<;>(try exact cdT))|(guard_target =~ SOp _ _ ⟨_,.binOp _ _ _ _ _,_,_,_,none⟩ _ _ _;refine zV (ne:=true) rfl (by first|exact jQ|exact jn|exact jR|exact kR|exact vY|fail) (hc:=rfl) (hK:=?_))|(guard_target =~ SOp _ _ ⟨_,.binOp _ _ _ _ _,_,_,_,some _⟩ _ _ _;refine zV (ne:=true) rfl (by first|exact jQ|exact jn|exact jR|exact kR|exact vY|fail) (hc:=rfl) (hK:=?_))|(refine zd (f:=18) rfl Tryz.call18 (h:=AEq.pure' agT (zW _ _ _ _ _ _ _ aoT aoT) (hq:=?_)))|(refine zd (f:=94) rfl Tryz.call94 (h:=AEq.pure' agT (zba _ _ _ aoT aoT aoT) (hq:=?_)))|((refine zh [0,1] (by rw [Tryz.results74,Lf.vW]) yk ?_)<;>(try (first|exact zi|exact stT)))|(refine hK _ _ ?_;clear hK K))
  | false=>
   refine zc Tryz.func74 rfl Tryz.ntmps74 (by simp) (fun hsc=>?_);simp only [Lf.enter,Nat.reduceAdd];clear hsc
   have hU:=And.intro @hP ( And.intro @d4 ( And.intro @d6 (@hB)))
   repeat' (first|(refine goR ?_)|(refine za (fun K hK=>?_))|(guard_target =~ PWp _ _ _ _ _ _ _;refine zQ mixed (by kernel_rfl) ?_)|((refine zb (fun hcd=>?_) (fun hcd=>?_))<;>(try simp only [hcP] at hcd)<;>(try exact cdT))|(guard_target =~ SOp _ _ ⟨_,.binOp _ _ _ _ _,_,_,_,none⟩ _ _ _;refine zV (ne:=true) rfl (by first|exact jQ|exact jn|exact jR|exact kR|exact vY|fail) (hc:=rfl) (hK:=?_))|(guard_target =~ SOp _ _ ⟨_,.binOp _ _ _ _ _,_,_,_,some _⟩ _ _ _;refine zV (ne:=true) rfl (by first|exact jQ|exact jn|exact jR|exact kR|exact vY|fail) (hc:=rfl) (hK:=?_))|(refine zd (f:=18) rfl Tryz.call18 (h:=AEq.pure' agT (zW _ _ _ _ _ _ _ aoT aoT) (hq:=?_)))|(refine zd (f:=94) rfl Tryz.call94 (h:=AEq.pure' agT (zba _ _ _ aoT aoT aoT) (hq:=?_)))|((refine zh [0,1] (by rw [Tryz.results74,Lf.vW]) yk ?_)<;>(try (first|exact zi|exact stT)))|(refine hK _ _ ?_;clear hK K))
 ·cases hB : zF t g 1 with
  | true=>
   have hw : ¬ w = sd:=fun e=>c2 ⟨e,hB⟩
   have dw:=zkT hw
   have hq : (w = sd) = False:=eq_false hw
   refine zc Tryz.func74 rfl Tryz.ntmps74 (by simp) (fun hsc=>?_);simp only [Lf.enter,Nat.reduceAdd];clear hsc
   have hU:=And.intro @hP ( And.intro @dw ( And.intro @hq ( And.intro @and_false (@hB))))
   repeat' (first|(refine goR ?_)|(refine za (fun K hK=>?_))|(guard_target =~ PWp _ _ _ _ _ _ _;refine zQ mixed (by kernel_rfl) ?_)|((refine zb (fun hcd=>?_) (fun hcd=>?_))<;>(try simp only [hcP] at hcd)<;>(try exact cdT))|(guard_target =~ SOp _ _ ⟨_,.binOp _ _ _ _ _,_,_,_,none⟩ _ _ _;refine zV (ne:=true) rfl (by first|exact jQ|exact jn|exact jR|exact kR|exact vY|fail) (hc:=rfl) (hK:=?_))|(guard_target =~ SOp _ _ ⟨_,.binOp _ _ _ _ _,_,_,_,some _⟩ _ _ _;refine zV (ne:=true) rfl (by first|exact jQ|exact jn|exact jR|exact kR|exact vY|fail) (hc:=rfl) (hK:=?_))|(refine zd (f:=18) rfl Tryz.call18 (h:=AEq.pure' agT (zW _ _ _ _ _ _ _ aoT aoT) (hq:=?_)))|(refine zd (f:=94) rfl Tryz.call94 (h:=AEq.pure' agT (zba _ _ _ aoT aoT aoT) (hq:=?_)))|((refine zh [0,1] (by rw [Tryz.results74,Lf.vW]) yk ?_)<;>(try (first|exact zi|exact stT)))|(refine hK _ _ ?_;clear hK K))
  | false=>
   have hw : ¬ w = 1 - sd:=fun e=>c1 ⟨e,hB⟩
   have dw:=zkT hw
   have hq : (w = 1 - sd) = False:=eq_false hw
   refine zc Tryz.func74 rfl Tryz.ntmps74 (by simp) (fun hsc=>?_);simp only [Lf.enter,Nat.reduceAdd];clear hsc
   have hU:=And.intro @hP ( And.intro @dw ( And.intro @hq ( And.intro @and_false (@hB))))
   repeat' (first|(refine goR ?_)|(refine za (fun K hK=>?_))|(guard_target =~ PWp _ _ _ _ _ _ _;refine zQ mixed (by kernel_rfl) ?_)|((refine zb (fun hcd=>?_) (fun hcd=>?_))<;>(try simp only [hcP] at hcd)<;>(try exact cdT))|(guard_target =~ SOp _ _ ⟨_,.binOp _ _ _ _ _,_,_,_,none⟩ _ _ _;refine zV (ne:=true) rfl (by first|exact jQ|exact jn|exact jR|exact kR|exact vY|fail) (hc:=rfl) (hK:=?_))|(guard_target =~ SOp _ _ ⟨_,.binOp _ _ _ _ _,_,_,_,some _⟩ _ _ _;refine zV (ne:=true) rfl (by first|exact jQ|exact jn|exact jR|exact kR|exact vY|fail) (hc:=rfl) (hK:=?_))|(refine zd (f:=18) rfl Tryz.call18 (h:=AEq.pure' agT (zW _ _ _ _ _ _ _ aoT aoT) (hq:=?_)))|(refine zd (f:=94) rfl Tryz.call94 (h:=AEq.pure' agT (zba _ _ _ aoT aoT aoT) (hq:=?_)))|((refine zh [0,1] (by rw [Tryz.results74,Lf.vW]) yk ?_)<;>(try (first|exact zi|exact stT)))|(refine hK _ _ ?_;clear hK K))
end Go.Proofs.YtdalcgfnlbofdaaGreatDoor
