import Derived.Test.YtdalcgfnlbofdaaGreatDoorZ13
set_option linter.unusedVariables false
set_option linter.unusedSimpArgs false
namespace Go.Proofs.YtdalcgfnlbofdaaGreatDoor
open Go Go.Lf Go.Proofs
attribute [local irreducible] Lf.rg Lf.ro Lf.PWp Lf.SOp Lf.ACall Lf.Scoped Lf.dg Lf.dw
set_option maxRecDepth 20000
set_option maxHeartbeats 4000000
def yP(t:Int): Int:=if t=0 then 9 else if t=1 then 45 else if t=4\/t=6 then 1 else if t=5 then 12 else if t=9 then 4 else 0
def zck(t f:Int): Bool:=if f=1 then decide (t=0\/t=1\/t=4\/t=6)else if f=4 then decide (t=1\/t=5\/t=9)else if f=8 then decide (t=0\/t=1\/t=5)else if f=32 then decide (t=1)else false
def z6(t g f:Int): Bool:=zck t f && decide (g / f % 2=1)
def zj1(t:Int): Int:=if t=4\/t=6\/t=7 then 0 else if 0<=t/\t<10/\¬t=8 then 1 else 2
theorem zmW: ∀u:Fin 64,∀g:Fin 256,(u.val=0\/u.val=1\/u.val=4\/u.val=9\/u.val=12\/u.val=45) ->
    decide (jV .i64 (jV .i64 (u.val:Int) (g.val:Int)) 1≠0)=(decide ((u.val:Int) % 2=1) && decide ((g.val:Int) / 1 % 2=1)) /\
    decide (jV .i64 (jV .i64 (u.val:Int) (g.val:Int)) 4≠0)=(decide ((u.val:Int) / 4 % 2=1) && decide ((g.val:Int) / 4 % 2=1)) /\
    decide (jV .i64 (jV .i64 (u.val:Int) (g.val:Int)) 8≠0)=(decide ((u.val:Int) / 8 % 2=1) && decide ((g.val:Int) / 8 % 2=1)) /\
    decide (jV .i64 (jV .i64 (u.val:Int) (g.val:Int)) 32≠0)=(decide ((u.val:Int) / 32 % 2=1) && decide ((g.val:Int) / 32 % 2=1)):=by decide +kernel
theorem zau(t:Int): yP t=0\/yP t=1\/yP t=4\/yP t=9\/yP t=12\/yP t=45:=by
 unfold yP
 repeat' split
 all_goals simp
theorem zj2(t:Int): decide (yP t % 2=1)=zck t 1/\decide (yP t / 4 % 2=1)=zck t 4/\decide (yP t / 8 % 2=1)=zck t 8/\decide (yP t / 32 % 2=1)=zck t 32:=by
 unfold yP zck
 simp only[↓reduceIte,reduceCtorEq,Int.reduceEq]
 repeat' split
 all_goals(refine⟨?_,?_,?_,?_⟩<;>(first|(symm;simp;omega)|(simp;omega)|simp_all))
theorem zbb{t g f:Int}(h0:0<=g)(h1:g<256)(hf:f=1\/f=4\/f=8\/f=32): decide (jV .i64 (jV .i64 (yP t) g) f≠0)=z6 t g f:=by
 obtain⟨b1,b4,b8,b32⟩:=zj2 t
 have hu:0<=yP t/\yP t<64:=by rcases zau t with e|e|e|e|e|e<;>rw[e]<;>decide
 have key:=zmW ⟨(yP t).toNat,by omega⟩ ⟨g.toNat,by omega⟩ (by
  show(yP t).toNat=0\/(yP t).toNat=1\/(yP t).toNat=4\/(yP t).toNat=9\/(yP t).toNat=12\/(yP t).toNat=45
  rcases zau t with e|e|e|e|e|e<;>rw[e]<;>decide)
 dsimp only at key
 rw[show(((yP t).toNat:Nat):Int)=yP t from by omega,show((g.toNat:Nat):Int)=g from by omega,b1,b4,b8,b32]at key
 rcases hf with rfl|rfl|rfl|rfl
 ·exact key.1
 ·exact key.2.1
 ·exact key.2.2.1
 ·exact key.2.2.2
theorem zhU(t:Int): AEq Tryz.prog 142 [i64 t] [] (i64 (yP t)) []:=by
 by_cases h0:t=0
 ·subst h0;refine enT Tryz.func142 Tryz.ntmps142 ?_
  have hU:=True.intro
  exact w6
 by_cases h1:t=1
 ·subst h1;refine enT Tryz.func142 Tryz.ntmps142 ?_
  have hU:=True.intro
  exact w6
 by_cases h4:t=4
 ·subst h4;refine enT Tryz.func142 Tryz.ntmps142 ?_
  have hU:=True.intro
  exact w6
 by_cases h6:t=6
 ·subst h6;refine enT Tryz.func142 Tryz.ntmps142 ?_
  have hU:=True.intro
  exact w6
 by_cases h5:t=5
 ·subst h5;refine enT Tryz.func142 Tryz.ntmps142 ?_
  have hU:=True.intro
  exact w6
 by_cases h9:t=9
 ·subst h9;refine enT Tryz.func142 Tryz.ntmps142 ?_
  have hU:=True.intro
  exact w6
 have e:yP t=0:=by unfold yP;rw[if_neg h0,if_neg h1,if_neg (by omega),if_neg h5,if_neg h9]
 rw[e]
 refine enT Tryz.func142 Tryz.ntmps142 ?_
 have hU:=True.intro
 exact w6
theorem zuG(t g f:Int)(h0:0<=g)(h1:g<256)(hf:f=8): AEq Tryz.prog 94 [i64 t,i64 g,i64 f] [] (bl (z6 t g f)) []:=by
 have hI:=zbb (t:=t) h0 h1 (.inr (.inr (.inl hf)))
 subst hf
 refine enT Tryz.func94 Tryz.ntmps94 ?_
 have hU:=True.intro
 repeat'(first|refine goR ?_|refine zd fun K hK=>?_|refine zc ?_ ?_<;>intro hcd<;>(try simp only[hcP]at hcd)<;>try exact cdT|(guard_target =~ rg _ _ _ (⟨_,_,_,_,_,some _⟩::_) _ _ _;(first|refine zP gT (fun hcd=>?_) (fun hcd=>?_)|refine zK gT (fun hcd=>?_) (fun hcd=>?_))<;>(try simp only[hcd])<;>(try(simp only[Bool.not_eq_true',Bool.not_eq_false']at hcd;try simp only[hcd]))<;>(refine kC (Γ2:=_) ewT ?_)<;>(try simp only[hcP]at hcd)<;>(try exact cdT))|refine y15 ?_|((refine zo [] (by rw[Tryz.results94,Lf.zI]) (zw ?_) ?_)<;>(try exact uT))|refine hK _ _ ?_;clear hK K)
 all_goals exact zJ (by rw[<-hI];first|(simp;done)|(simp;rfl))
theorem zoa(t g f:Int)(h0:0<=g)(h1:g<256)(hf:f=32): AEq Tryz.prog 94 [i64 t,i64 g,i64 f] [] (bl (z6 t g f)) []:=by
 have hI:=zbb (t:=t) h0 h1 (.inr (.inr (.inr hf)))
 subst hf
 refine enT Tryz.func94 Tryz.ntmps94 ?_
 have hU:=True.intro
 repeat'(first|refine goR ?_|refine zd fun K hK=>?_|refine zc ?_ ?_<;>intro hcd<;>(try simp only[hcP]at hcd)<;>try exact cdT|(guard_target =~ rg _ _ _ (⟨_,_,_,_,_,some _⟩::_) _ _ _;(first|refine zP gT (fun hcd=>?_) (fun hcd=>?_)|refine zK gT (fun hcd=>?_) (fun hcd=>?_))<;>(try simp only[hcd])<;>(try(simp only[Bool.not_eq_true',Bool.not_eq_false']at hcd;try simp only[hcd]))<;>(refine kC (Γ2:=_) ewT ?_)<;>(try simp only[hcP]at hcd)<;>(try exact cdT))|refine y15 ?_|((refine zo [] (by rw[Tryz.results94,Lf.zI]) (zw ?_) ?_)<;>(try exact uT))|refine hK _ _ ?_;clear hK K)
 all_goals exact zJ (by rw[<-hI];first|(simp;done)|(simp;rfl))
theorem zuH(t g f:Int)(h0:0<=g)(h1:g<256)(hf:f=1): AEq Tryz.prog 94 [i64 t,i64 g,i64 f] [] (bl (z6 t g f)) []:=by
 have hI:=zbb (t:=t) h0 h1 (.inl hf)
 subst hf
 refine enT Tryz.func94 Tryz.ntmps94 ?_
 have hU:=True.intro
 repeat'(first|refine goR ?_|refine zd fun K hK=>?_|refine zc ?_ ?_<;>intro hcd<;>(try simp only[hcP]at hcd)<;>try exact cdT|(guard_target =~ rg _ _ _ (⟨_,_,_,_,_,some _⟩::_) _ _ _;(first|refine zP gT (fun hcd=>?_) (fun hcd=>?_)|refine zK gT (fun hcd=>?_) (fun hcd=>?_))<;>(try simp only[hcd])<;>(try(simp only[Bool.not_eq_true',Bool.not_eq_false']at hcd;try simp only[hcd]))<;>(refine kC (Γ2:=_) ewT ?_)<;>(try simp only[hcP]at hcd)<;>(try exact cdT))|refine y15 ?_|((refine zo [] (by rw[Tryz.results94,Lf.zI]) (zw ?_) ?_)<;>(try exact uT))|refine hK _ _ ?_;clear hK K)
 all_goals exact zJ (by rw[<-hI];first|(simp;done)|(simp;rfl))
theorem zyp(t:Int): AEq Tryz.prog 93 [i64 t] [] (i64 (zj1 t)) []:=by
 by_cases h0:t=4\/t=6\/t=7
 ·have e : zj1 t = 0 := by unfold zj1; rw [if_pos h0]
  rw[e]
  rcases h0 with rfl|rfl|rfl
  ·refine enT Tryz.func93 Tryz.ntmps93 ?_
   have hU:=True.intro
   exact w0
  ·refine enT Tryz.func93 Tryz.ntmps93 ?_
   have hU:=True.intro
   exact w0
  ·refine enT Tryz.func93 Tryz.ntmps93 ?_
   have hU:=True.intro
   exact w0
 ·by_cases h1:0<=t/\t<10/\¬t=8
  ·have e : zj1 t = 1 := by unfold zj1; rw [if_neg h0, if_pos h1]
   rw[e]
   obtain rfl|rfl|rfl|rfl|rfl|rfl:t=0\/t=1\/t=2\/t=3\/t=5\/t=9:=by omega
   ·refine enT Tryz.func93 Tryz.ntmps93 ?_
    have hU:=True.intro
    exact w0
   ·refine enT Tryz.func93 Tryz.ntmps93 ?_
    have hU:=True.intro
    exact w0
   ·refine enT Tryz.func93 Tryz.ntmps93 ?_
    have hU:=True.intro
    exact w0
   ·refine enT Tryz.func93 Tryz.ntmps93 ?_
    have hU:=True.intro
    exact w0
   ·refine enT Tryz.func93 Tryz.ntmps93 ?_
    have hU:=True.intro
    exact w0
   ·refine enT Tryz.func93 Tryz.ntmps93 ?_
    have hU:=True.intro
    exact w0
  ·have e : zj1 t = 2 := by unfold zj1; rw [if_neg h0, if_neg h1]
   rw[e]
   have h4:¬t=4:=by omega
   have h6:¬t=6:=by omega
   have h7:¬t=7:=by omega
   refine enT Tryz.func93 Tryz.ntmps93 ?_
   have hU:=True.intro
   exact w0
end Go.Proofs.YtdalcgfnlbofdaaGreatDoor
