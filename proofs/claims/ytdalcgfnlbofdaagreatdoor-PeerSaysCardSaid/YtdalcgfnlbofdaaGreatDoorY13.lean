import Derived.Test.YtdalcgfnlbofdaaGreatDoorPg
import Derived.Test.YtdalcgfnlbofdaaGreatDoorY11
import Derived.Test.YtdalcgfnlbofdaaGreatDoorPc
set_option linter.unusedVariables false
set_option linter.unusedSimpArgs false
namespace Go.Proofs.YtdalcgfnlbofdaaGreatDoor
open Go Go.Lf Go.Proofs
attribute [local irreducible] Lf.rg Lf.ro Lf.PWp Lf.SOp Lf.ACall Lf.Scoped Lf.dg Lf.dw
set_option maxRecDepth 20000
set_option maxHeartbeats 4000000
def yP (t : Int) : Int:=if t = 0 then 9 else if t = 1 then 45 else if t = 4 ∨ t = 6 then 1 else if t = 5 then 12 else if t = 9 then 4 else 0
def kS (t f : Int) : Bool:=if f = 1 then decide (t = 0 ∨ t = 1 ∨ t = 4 ∨ t = 6) else if f = 4 then decide (t = 1 ∨ t = 5 ∨ t = 9) else if f = 8 then decide (t = 0 ∨ t = 1 ∨ t = 5) else if f = 32 then decide (t = 1) else false
def zF (t g f : Int) : Bool:=kS t f && decide (g / f % 2 = 1)
def zbH (t : Int) : Int:=if t = 4 ∨ t = 6 ∨ t = 7 then 0 else if 0 ≤ t ∧ t < 10 ∧ ¬ t = 8 then 1 else 2
theorem zku : ∀ u : Fin 64, ∀ g : Fin 256, (u.val = 0 ∨ u.val = 1 ∨ u.val = 4 ∨ u.val = 9 ∨ u.val = 12 ∨ u.val = 45) →
    decide (zbg .i64 (zbg .i64 (u.val : Int) (g.val : Int)) 1 ≠ 0) = (decide ((u.val : Int) % 2 = 1) && decide ((g.val : Int) / 1 % 2 = 1)) ∧
    decide (zbg .i64 (zbg .i64 (u.val : Int) (g.val : Int)) 4 ≠ 0) = (decide ((u.val : Int) / 4 % 2 = 1) && decide ((g.val : Int) / 4 % 2 = 1)) ∧
    decide (zbg .i64 (zbg .i64 (u.val : Int) (g.val : Int)) 8 ≠ 0) = (decide ((u.val : Int) / 8 % 2 = 1) && decide ((g.val : Int) / 8 % 2 = 1)) ∧
    decide (zbg .i64 (zbg .i64 (u.val : Int) (g.val : Int)) 32 ≠ 0) = (decide ((u.val : Int) / 32 % 2 = 1) && decide ((g.val : Int) / 32 % 2 = 1)):=by decide +kernel
theorem j5 (t : Int) : yP t = 0 ∨ yP t = 1 ∨ yP t = 4 ∨ yP t = 9 ∨ yP t = 12 ∨ yP t = 45:=by
 unfold yP
 repeat' split
 all_goals simp
theorem zhZ (t : Int) : decide (yP t % 2 = 1) = kS t 1 ∧ decide (yP t / 4 % 2 = 1) = kS t 4 ∧ decide (yP t / 8 % 2 = 1) = kS t 8 ∧ decide (yP t / 32 % 2 = 1) = kS t 32:=by
 unfold yP kS
 simp only [↓reduceIte,reduceCtorEq,Int.reduceEq]
 repeat' split
 all_goals (refine ⟨?_,?_,?_,?_⟩<;>(first|(symm;simp;omega)|(simp;omega)|simp_all))
theorem zay {t g f : Int} (h0 : 0 ≤ g) (h1 : g < 256) (hf : f = 1 ∨ f = 4 ∨ f = 8 ∨ f = 32) : decide (zbg .i64 (zbg .i64 (yP t) g) f ≠ 0) = zF t g f:=by
 obtain ⟨b1,b4,b8,b32⟩:=zhZ t
 have hu : 0 ≤ yP t ∧ yP t < 64:=by rcases j5 t with e|e|e|e|e|e<;>rw [e]<;>decide
 have key:=zku ⟨(yP t).toNat,by omega⟩ ⟨g.toNat,by omega⟩ (by
  show (yP t).toNat = 0 ∨ (yP t).toNat = 1 ∨ (yP t).toNat = 4 ∨ (yP t).toNat = 9 ∨ (yP t).toNat = 12 ∨ (yP t).toNat = 45
  rcases j5 t with e|e|e|e|e|e<;>rw [e]<;>decide)
 dsimp only at key
 rw [show (((yP t).toNat : Nat) : Int) = yP t from by omega,show ((g.toNat : Nat) : Int) = g from by omega,b1,b4,b8,b32] at key
 rcases hf with rfl|rfl|rfl|rfl
 ·exact key.1
 ·exact key.2.1
 ·exact key.2.2.1
 ·exact key.2.2.2
theorem zh0 (t : Int) : AEq Tryz.prog 142 [i64 t] [] (i64 (yP t)) []:=by
 by_cases h0 : t = 0
 ·subst h0; refine zc Tryz.func142 rfl Tryz.ntmps142 (by simp) (fun hsc => ?_); simp only [Lf.enter, Nat.reduceAdd]; clear hsc
  have hU:=True.intro
  repeat' (first|(refine goR ?_)|(refine za (fun K hK=>?_))|((refine zb (fun hcd=>?_) (fun hcd=>?_))<;>(try simp only [hcP] at hcd)<;>(try exact cdT))|((refine zh [] (by rw [Tryz.results142,Lf.zy]) (zj ?_) ?_)<;>(try (first|exact zi|exact stT)))|(refine hK _ _ ?_;clear hK K))
 by_cases h1 : t = 1
 ·subst h1; refine zc Tryz.func142 rfl Tryz.ntmps142 (by simp) (fun hsc => ?_); simp only [Lf.enter, Nat.reduceAdd]; clear hsc
  have hU:=True.intro
  repeat' (first|(refine goR ?_)|(refine za (fun K hK=>?_))|((refine zb (fun hcd=>?_) (fun hcd=>?_))<;>(try simp only [hcP] at hcd)<;>(try exact cdT))|((refine zh [] (by rw [Tryz.results142,Lf.zy]) (zj ?_) ?_)<;>(try (first|exact zi|exact stT)))|(refine hK _ _ ?_;clear hK K))
 by_cases h4 : t = 4
 ·subst h4; refine zc Tryz.func142 rfl Tryz.ntmps142 (by simp) (fun hsc => ?_); simp only [Lf.enter, Nat.reduceAdd]; clear hsc
  have hU:=True.intro
  repeat' (first|(refine goR ?_)|(refine za (fun K hK=>?_))|((refine zb (fun hcd=>?_) (fun hcd=>?_))<;>(try simp only [hcP] at hcd)<;>(try exact cdT))|((refine zh [] (by rw [Tryz.results142,Lf.zy]) (zj ?_) ?_)<;>(try (first|exact zi|exact stT)))|(refine hK _ _ ?_;clear hK K))
 by_cases h6 : t = 6
 ·subst h6; refine zc Tryz.func142 rfl Tryz.ntmps142 (by simp) (fun hsc => ?_); simp only [Lf.enter, Nat.reduceAdd]; clear hsc
  have hU:=True.intro
  repeat' (first|(refine goR ?_)|(refine za (fun K hK=>?_))|((refine zb (fun hcd=>?_) (fun hcd=>?_))<;>(try simp only [hcP] at hcd)<;>(try exact cdT))|((refine zh [] (by rw [Tryz.results142,Lf.zy]) (zj ?_) ?_)<;>(try (first|exact zi|exact stT)))|(refine hK _ _ ?_;clear hK K))
 by_cases h5 : t = 5
 ·subst h5; refine zc Tryz.func142 rfl Tryz.ntmps142 (by simp) (fun hsc => ?_); simp only [Lf.enter, Nat.reduceAdd]; clear hsc
  have hU:=True.intro
  repeat' (first|(refine goR ?_)|(refine za (fun K hK=>?_))|((refine zb (fun hcd=>?_) (fun hcd=>?_))<;>(try simp only [hcP] at hcd)<;>(try exact cdT))|((refine zh [] (by rw [Tryz.results142,Lf.zy]) (zj ?_) ?_)<;>(try (first|exact zi|exact stT)))|(refine hK _ _ ?_;clear hK K))
 by_cases h9 : t = 9
 ·subst h9; refine zc Tryz.func142 rfl Tryz.ntmps142 (by simp) (fun hsc => ?_); simp only [Lf.enter, Nat.reduceAdd]; clear hsc
  have hU:=True.intro
  repeat' (first|(refine goR ?_)|(refine za (fun K hK=>?_))|((refine zb (fun hcd=>?_) (fun hcd=>?_))<;>(try simp only [hcP] at hcd)<;>(try exact cdT))|((refine zh [] (by rw [Tryz.results142,Lf.zy]) (zj ?_) ?_)<;>(try (first|exact zi|exact stT)))|(refine hK _ _ ?_;clear hK K))
 have e : yP t = 0:=by unfold yP;rw [if_neg h0,if_neg h1,if_neg (by omega),if_neg h5,if_neg h9]
 rw [e]
 refine zc Tryz.func142 rfl Tryz.ntmps142 (by simp) (fun hsc=>?_);simp only [Lf.enter,Nat.reduceAdd];clear hsc
 have hU:=True.intro
 repeat' (first|(refine goR ?_)|(refine za (fun K hK=>?_))|((refine zb (fun hcd=>?_) (fun hcd=>?_))<;>(try simp only [hcP] at hcd)<;>(try exact cdT))|((refine zh [] (by rw [Tryz.results142,Lf.zy]) (zj ?_) ?_)<;>(try (first|exact zi|exact stT)))|(refine hK _ _ ?_;clear hK K))
theorem zre (t g f : Int) (h0 : 0 ≤ g) (h1 : g < 256) (hf : f = 8) : AEq Tryz.prog 94 [i64 t,i64 g,i64 f] [] (bl (zF t g f)) []:=by
 have hI:=zay (t:=t) h0 h1 (.inr (.inr (.inl hf)))
 subst hf
 refine zc Tryz.func94 rfl Tryz.ntmps94 (by simp) (fun hsc=>?_);simp only [Lf.enter,Nat.reduceAdd];clear hsc
 have hU:=True.intro
 repeat' (first|(refine goR ?_)|(refine za (fun K hK=>?_))|((refine zb (fun hcd=>?_) (fun hcd=>?_))<;>(try simp only [hcP] at hcd)<;>(try exact cdT))|(guard_target =~ rg _ _ _ (⟨_,_,_,_,_,some _⟩ :: _) _ _ _;(first|refine zH gT (fun hcd=>?_) (fun hcd=>?_)|refine zw gT (fun hcd=>?_) (fun hcd=>?_))<;>(try simp only [hcd])<;>(try (simp only [Bool.not_eq_true',Bool.not_eq_false'] at hcd;try simp only [hcd]))<;>(refine ku (Γ2:=_) ewT ?_)<;>(try simp only [hcP] at hcd)<;>(try exact cdT))|(refine zd (f:=142) rfl Tryz.call142 (h:=AEq.pure' agT (zh0 _) (hq:=?_)))|((refine zh [] (by rw [Tryz.results94,Lf.zy]) (zj ?_) ?_)<;>(try (first|exact zi|exact stT)))|(refine hK _ _ ?_;clear hK K))
 all_goals exact zt (by rw [← hI];first|(simp;done)|(simp;rfl))
theorem zlB (t g f : Int) (h0 : 0 ≤ g) (h1 : g < 256) (hf : f = 32) : AEq Tryz.prog 94 [i64 t,i64 g,i64 f] [] (bl (zF t g f)) []:=by
 have hI:=zay (t:=t) h0 h1 (.inr (.inr (.inr hf)))
 subst hf
 refine zc Tryz.func94 rfl Tryz.ntmps94 (by simp) (fun hsc=>?_);simp only [Lf.enter,Nat.reduceAdd];clear hsc
 have hU:=True.intro
 repeat' (first|(refine goR ?_)|(refine za (fun K hK=>?_))|((refine zb (fun hcd=>?_) (fun hcd=>?_))<;>(try simp only [hcP] at hcd)<;>(try exact cdT))|(guard_target =~ rg _ _ _ (⟨_,_,_,_,_,some _⟩ :: _) _ _ _;(first|refine zH gT (fun hcd=>?_) (fun hcd=>?_)|refine zw gT (fun hcd=>?_) (fun hcd=>?_))<;>(try simp only [hcd])<;>(try (simp only [Bool.not_eq_true',Bool.not_eq_false'] at hcd;try simp only [hcd]))<;>(refine ku (Γ2:=_) ewT ?_)<;>(try simp only [hcP] at hcd)<;>(try exact cdT))|(refine zd (f:=142) rfl Tryz.call142 (h:=AEq.pure' agT (zh0 _) (hq:=?_)))|((refine zh [] (by rw [Tryz.results94,Lf.zy]) (zj ?_) ?_)<;>(try (first|exact zi|exact stT)))|(refine hK _ _ ?_;clear hK K))
 all_goals exact zt (by rw [← hI];first|(simp;done)|(simp;rfl))
theorem zba (t g f : Int) (h0 : 0 ≤ g) (h1 : g < 256) (hf : f = 1) : AEq Tryz.prog 94 [i64 t,i64 g,i64 f] [] (bl (zF t g f)) []:=by
 have hI:=zay (t:=t) h0 h1 (.inl hf)
 subst hf
 refine zc Tryz.func94 rfl Tryz.ntmps94 (by simp) (fun hsc=>?_);simp only [Lf.enter,Nat.reduceAdd];clear hsc
 have hU:=True.intro
 repeat' (first|(refine goR ?_)|(refine za (fun K hK=>?_))|((refine zb (fun hcd=>?_) (fun hcd=>?_))<;>(try simp only [hcP] at hcd)<;>(try exact cdT))|(guard_target =~ rg _ _ _ (⟨_,_,_,_,_,some _⟩ :: _) _ _ _;(first|refine zH gT (fun hcd=>?_) (fun hcd=>?_)|refine zw gT (fun hcd=>?_) (fun hcd=>?_))<;>(try simp only [hcd])<;>(try (simp only [Bool.not_eq_true',Bool.not_eq_false'] at hcd;try simp only [hcd]))<;>(refine ku (Γ2:=_) ewT ?_)<;>(try simp only [hcP] at hcd)<;>(try exact cdT))|(refine zd (f:=142) rfl Tryz.call142 (h:=AEq.pure' agT (zh0 _) (hq:=?_)))|((refine zh [] (by rw [Tryz.results94,Lf.zy]) (zj ?_) ?_)<;>(try (first|exact zi|exact stT)))|(refine hK _ _ ?_;clear hK K))
 all_goals exact zt (by rw [← hI];first|(simp;done)|(simp;rfl))
theorem ztQ (t : Int) : AEq Tryz.prog 93 [i64 t] [] (i64 (zbH t)) []:=by
 by_cases h0 : t = 4 ∨ t = 6 ∨ t = 7
 ·have e : zbH t = 0 := by unfold zbH; rw [if_pos h0]
  rw [e]
  rcases h0 with rfl|rfl|rfl
  ·refine zc Tryz.func93 rfl Tryz.ntmps93 (by simp) (fun hsc => ?_); simp only [Lf.enter, Nat.reduceAdd]; clear hsc
   have hU:=True.intro
   repeat' (first|(refine goR ?_)|(refine za (fun K hK=>?_))|((refine zb (fun hcd=>?_) (fun hcd=>?_))<;>(try simp only [hcP] at hcd)<;>(try exact cdT))|((refine zh [] (by rw [Tryz.results93,Lf.zy]) (zj ?_) ?_)<;>(try (first|exact zi|exact stT)))|(refine hK _ _ ?_;clear hK K))
  ·refine zc Tryz.func93 rfl Tryz.ntmps93 (by simp) (fun hsc => ?_); simp only [Lf.enter, Nat.reduceAdd]; clear hsc
   have hU:=True.intro
   repeat' (first|(refine goR ?_)|(refine za (fun K hK=>?_))|((refine zb (fun hcd=>?_) (fun hcd=>?_))<;>(try simp only [hcP] at hcd)<;>(try exact cdT))|((refine zh [] (by rw [Tryz.results93,Lf.zy]) (zj ?_) ?_)<;>(try (first|exact zi|exact stT)))|(refine hK _ _ ?_;clear hK K))
  ·refine zc Tryz.func93 rfl Tryz.ntmps93 (by simp) (fun hsc => ?_); simp only [Lf.enter, Nat.reduceAdd]; clear hsc
   have hU:=True.intro
   repeat' (first|(refine goR ?_)|(refine za (fun K hK=>?_))|((refine zb (fun hcd=>?_) (fun hcd=>?_))<;>(try simp only [hcP] at hcd)<;>(try exact cdT))|((refine zh [] (by rw [Tryz.results93,Lf.zy]) (zj ?_) ?_)<;>(try (first|exact zi|exact stT)))|(refine hK _ _ ?_;clear hK K))
 ·by_cases h1 : 0 ≤ t ∧ t < 10 ∧ ¬ t = 8
  ·have e : zbH t = 1 := by unfold zbH; rw [if_neg h0, if_pos h1]
   rw [e]
   obtain rfl|rfl|rfl|rfl|rfl|rfl : t = 0 ∨ t = 1 ∨ t = 2 ∨ t = 3 ∨ t = 5 ∨ t = 9:=by omega
   ·refine zc Tryz.func93 rfl Tryz.ntmps93 (by simp) (fun hsc => ?_); simp only [Lf.enter, Nat.reduceAdd]; clear hsc
    have hU:=True.intro
    repeat' (first|(refine goR ?_)|(refine za (fun K hK=>?_))|((refine zb (fun hcd=>?_) (fun hcd=>?_))<;>(try simp only [hcP] at hcd)<;>(try exact cdT))|((refine zh [] (by rw [Tryz.results93,Lf.zy]) (zj ?_) ?_)<;>(try (first|exact zi|exact stT)))|(refine hK _ _ ?_;clear hK K))
   ·refine zc Tryz.func93 rfl Tryz.ntmps93 (by simp) (fun hsc => ?_); simp only [Lf.enter, Nat.reduceAdd]; clear hsc
    have hU:=True.intro
    repeat' (first|(refine goR ?_)|(refine za (fun K hK=>?_))|((refine zb (fun hcd=>?_) (fun hcd=>?_))<;>(try simp only [hcP] at hcd)<;>(try exact cdT))|((refine zh [] (by rw [Tryz.results93,Lf.zy]) (zj ?_) ?_)<;>(try (first|exact zi|exact stT)))|(refine hK _ _ ?_;clear hK K))
   ·refine zc Tryz.func93 rfl Tryz.ntmps93 (by simp) (fun hsc => ?_); simp only [Lf.enter, Nat.reduceAdd]; clear hsc
    have hU:=True.intro
    repeat' (first|(refine goR ?_)|(refine za (fun K hK=>?_))|((refine zb (fun hcd=>?_) (fun hcd=>?_))<;>(try simp only [hcP] at hcd)<;>(try exact cdT))|((refine zh [] (by rw [Tryz.results93,Lf.zy]) (zj ?_) ?_)<;>(try (first|exact zi|exact stT)))|(refine hK _ _ ?_;clear hK K))
   ·refine zc Tryz.func93 rfl Tryz.ntmps93 (by simp) (fun hsc => ?_); simp only [Lf.enter, Nat.reduceAdd]; clear hsc
    have hU:=True.intro
    repeat' (first|(refine goR ?_)|(refine za (fun K hK=>?_))|((refine zb (fun hcd=>?_) (fun hcd=>?_))<;>(try simp only [hcP] at hcd)<;>(try exact cdT))|((refine zh [] (by rw [Tryz.results93,Lf.zy]) (zj ?_) ?_)<;>(try (first|exact zi|exact stT)))|(refine hK _ _ ?_;clear hK K))
   ·refine zc Tryz.func93 rfl Tryz.ntmps93 (by simp) (fun hsc => ?_); simp only [Lf.enter, Nat.reduceAdd]; clear hsc
    have hU:=True.intro
    repeat' (first|(refine goR ?_)|(refine za (fun K hK=>?_))|((refine zb (fun hcd=>?_) (fun hcd=>?_))<;>(try simp only [hcP] at hcd)<;>(try exact cdT))|((refine zh [] (by rw [Tryz.results93,Lf.zy]) (zj ?_) ?_)<;>(try (first|exact zi|exact stT)))|(refine hK _ _ ?_;clear hK K))
   ·refine zc Tryz.func93 rfl Tryz.ntmps93 (by simp) (fun hsc => ?_); simp only [Lf.enter, Nat.reduceAdd]; clear hsc
    have hU:=True.intro
    repeat' (first|(refine goR ?_)|(refine za (fun K hK=>?_))|((refine zb (fun hcd=>?_) (fun hcd=>?_))<;>(try simp only [hcP] at hcd)<;>(try exact cdT))|((refine zh [] (by rw [Tryz.results93,Lf.zy]) (zj ?_) ?_)<;>(try (first|exact zi|exact stT)))|(refine hK _ _ ?_;clear hK K))
  ·have e : zbH t = 2 := by unfold zbH; rw [if_neg h0, if_neg h1]
   rw [e]
   have h4 : ¬ t = 4:=by omega
   have h6 : ¬ t = 6:=by omega
   have h7 : ¬ t = 7:=by omega
   refine zc Tryz.func93 rfl Tryz.ntmps93 (by simp) (fun hsc=>?_);simp only [Lf.enter,Nat.reduceAdd];clear hsc
   have hU:=True.intro
   repeat' (first|(refine goR ?_)|(refine za (fun K hK=>?_))|((refine zb (fun hcd=>?_) (fun hcd=>?_))<;>(try simp only [hcP] at hcd)<;>(try exact cdT))|((refine zh [] (by rw [Tryz.results93,Lf.zy]) (zj ?_) ?_)<;>(try (first|exact zi|exact stT)))|(refine hK _ _ ?_;clear hK K))
theorem ztR (t : Int) : AEq Tryz.prog 155 [i64 t] [] (i64 (zbH t)) []:=by
 by_cases h0 : t = 4 ∨ t = 6 ∨ t = 7
 ·have e : zbH t = 0 := by unfold zbH; rw [if_pos h0]
  rw [e]
  rcases h0 with rfl|rfl|rfl
  ·refine zc Tryz.func155 rfl Tryz.ntmps155 (by simp) (fun hsc => ?_); simp only [Lf.enter, Nat.reduceAdd]; clear hsc
   have hU:=True.intro
   repeat' (first|(refine goR ?_)|(refine za (fun K hK=>?_))|((refine zb (fun hcd=>?_) (fun hcd=>?_))<;>(try simp only [hcP] at hcd)<;>(try exact cdT))|((refine zh [] (by rw [Tryz.results155,Lf.zy]) (zj ?_) ?_)<;>(try (first|exact zi|exact stT)))|(refine hK _ _ ?_;clear hK K))
  ·refine zc Tryz.func155 rfl Tryz.ntmps155 (by simp) (fun hsc => ?_); simp only [Lf.enter, Nat.reduceAdd]; clear hsc
   have hU:=True.intro
   repeat' (first|(refine goR ?_)|(refine za (fun K hK=>?_))|((refine zb (fun hcd=>?_) (fun hcd=>?_))<;>(try simp only [hcP] at hcd)<;>(try exact cdT))|((refine zh [] (by rw [Tryz.results155,Lf.zy]) (zj ?_) ?_)<;>(try (first|exact zi|exact stT)))|(refine hK _ _ ?_;clear hK K))
  ·refine zc Tryz.func155 rfl Tryz.ntmps155 (by simp) (fun hsc => ?_); simp only [Lf.enter, Nat.reduceAdd]; clear hsc
   have hU:=True.intro
   repeat' (first|(refine goR ?_)|(refine za (fun K hK=>?_))|((refine zb (fun hcd=>?_) (fun hcd=>?_))<;>(try simp only [hcP] at hcd)<;>(try exact cdT))|((refine zh [] (by rw [Tryz.results155,Lf.zy]) (zj ?_) ?_)<;>(try (first|exact zi|exact stT)))|(refine hK _ _ ?_;clear hK K))
 ·have h4 : ¬ t = 4 := by omega
  have h6 : ¬ t = 6:=by omega
  have h7 : ¬ t = 7:=by omega
  by_cases h1 : 0 ≤ t ∧ t < 10 ∧ ¬ t = 8
  ·have e : zbH t = 1 := by unfold zbH; rw [if_neg h0, if_pos h1]
   rw [e]
   refine zc Tryz.func155 rfl Tryz.ntmps155 (by simp) (fun hsc=>?_);simp only [Lf.enter,Nat.reduceAdd];clear hsc
   have hU:=True.intro
   repeat' (first|(refine goR ?_)|(refine za (fun K hK=>?_))|((refine zb (fun hcd=>?_) (fun hcd=>?_))<;>(try simp only [hcP] at hcd)<;>(try exact cdT))|((refine zh [] (by rw [Tryz.results155,Lf.zy]) (zj ?_) ?_)<;>(try (first|exact zi|exact stT)))|(refine hK _ _ ?_;clear hK K))
  ·have e : zbH t = 2 := by unfold zbH; rw [if_neg h0, if_neg h1]
   rw [e]
   refine zc Tryz.func155 rfl Tryz.ntmps155 (by simp) (fun hsc=>?_);simp only [Lf.enter,Nat.reduceAdd];clear hsc
   have hU:=True.intro
   repeat' (first|(refine goR ?_)|(refine za (fun K hK=>?_))|((refine zb (fun hcd=>?_) (fun hcd=>?_))<;>(try simp only [hcP] at hcd)<;>(try exact cdT))|((refine zh [] (by rw [Tryz.results155,Lf.zy]) (zj ?_) ?_)<;>(try (first|exact zi|exact stT)))|(refine hK _ _ ?_;clear hK K))
theorem zeq (t f : Int) (hf : f = 8) : AEq Tryz.prog 158 [i64 t,i64 f] [] (bl (kS t f)) []:=by
 subst hf
 refine zc Tryz.func158 rfl Tryz.ntmps158 (by simp) (fun hsc=>?_);simp only [Lf.enter,Nat.reduceAdd];clear hsc
 have hU:=True.intro
 repeat' (first|(refine goR ?_)|(refine za (fun K hK=>?_))|((refine zb (fun hcd=>?_) (fun hcd=>?_))<;>(try simp only [hcP] at hcd)<;>(try exact cdT))|((refine zh [] (by rw [Tryz.results158,Lf.zy]) (zj ?_) ?_)<;>(try (first|exact zi|exact stT)))|(refine hK _ _ ?_;clear hK K))
 all_goals exact zt (by simp [kS];grind)
theorem zcA (t f : Int) (hf : f = 32) : AEq Tryz.prog 158 [i64 t,i64 f] [] (bl (kS t f)) []:=by
 subst hf
 refine zc Tryz.func158 rfl Tryz.ntmps158 (by simp) (fun hsc=>?_);simp only [Lf.enter,Nat.reduceAdd];clear hsc
 have hU:=True.intro
 repeat' (first|(refine goR ?_)|(refine za (fun K hK=>?_))|((refine zb (fun hcd=>?_) (fun hcd=>?_))<;>(try simp only [hcP] at hcd)<;>(try exact cdT))|((refine zh [] (by rw [Tryz.results158,Lf.zy]) (zj ?_) ?_)<;>(try (first|exact zi|exact stT)))|(refine hK _ _ ?_;clear hK K))
 all_goals exact zt (by simp [kS];grind)
theorem znt (t f : Int) (hf : f = 1) : AEq Tryz.prog 158 [i64 t,i64 f] [] (bl (kS t f)) []:=by
 subst hf
 refine zc Tryz.func158 rfl Tryz.ntmps158 (by simp) (fun hsc=>?_);simp only [Lf.enter,Nat.reduceAdd];clear hsc
 have hU:=True.intro
 repeat' (first|(refine goR ?_)|(refine za (fun K hK=>?_))|((refine zb (fun hcd=>?_) (fun hcd=>?_))<;>(try simp only [hcP] at hcd)<;>(try exact cdT))|((refine zh [] (by rw [Tryz.results158,Lf.zy]) (zj ?_) ?_)<;>(try (first|exact zi|exact stT)))|(refine hK _ _ ?_;clear hK K))
 all_goals exact zt (by simp [kS];grind)
theorem zh1 (t g f : Int) (h0 : 0 ≤ g) (h1 : g < 256) (hf : f = 8) : AEq Tryz.prog 107 [i64 t,i64 g,i64 f] [] (bl (zF t g f)) []:=by
 subst hf
 refine zc Tryz.func107 rfl Tryz.ntmps107 (by simp) (fun hsc=>?_);simp only [Lf.enter,Nat.reduceAdd];clear hsc
 have hU:=True.intro
 repeat' (first|(refine goR ?_)|(refine za (fun K hK=>?_))|(refine zd (f:=158) rfl Tryz.call158 (h:=AEq.pure' agT (zeq _ _ (by omega)) (hq:=?_)))|((refine zh [] (by rw [Tryz.results107,Lf.zy]) (zj ?_) ?_)<;>(try (first|exact zi|exact stT)))|(refine hK _ _ ?_;clear hK K))
 all_goals exact zt (by simp [zF];grind)
theorem zh2 (t g f : Int) (h0 : 0 ≤ g) (h1 : g < 256) (hf : f = 32) : AEq Tryz.prog 107 [i64 t,i64 g,i64 f] [] (bl (zF t g f)) []:=by
 subst hf
 refine zc Tryz.func107 rfl Tryz.ntmps107 (by simp) (fun hsc=>?_);simp only [Lf.enter,Nat.reduceAdd];clear hsc
 have hU:=True.intro
 repeat' (first|(refine goR ?_)|(refine za (fun K hK=>?_))|(refine zd (f:=158) rfl Tryz.call158 (h:=AEq.pure' agT (zcA _ _ (by omega)) (hq:=?_)))|((refine zh [] (by rw [Tryz.results107,Lf.zy]) (zj ?_) ?_)<;>(try (first|exact zi|exact stT)))|(refine hK _ _ ?_;clear hK K))
 all_goals exact zt (by simp [zF];grind)
theorem zrf (t g f : Int) (h0 : 0 ≤ g) (h1 : g < 256) (hf : f = 1) : AEq Tryz.prog 107 [i64 t,i64 g,i64 f] [] (bl (zF t g f)) []:=by
 subst hf
 refine zc Tryz.func107 rfl Tryz.ntmps107 (by simp) (fun hsc=>?_);simp only [Lf.enter,Nat.reduceAdd];clear hsc
 have hU:=True.intro
 repeat' (first|(refine goR ?_)|(refine za (fun K hK=>?_))|(refine zd (f:=158) rfl Tryz.call158 (h:=AEq.pure' agT (znt _ _ (by omega)) (hq:=?_)))|((refine zh [] (by rw [Tryz.results107,Lf.zy]) (zj ?_) ?_)<;>(try (first|exact zi|exact stT)))|(refine hK _ _ ?_;clear hK K))
 all_goals exact zt (by simp [zF];grind)
end Go.Proofs.YtdalcgfnlbofdaaGreatDoor
