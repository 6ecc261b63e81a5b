import Derived.Test.YtdalcgfnlbofdaaGreatDoorTg
import Derived.Test.YtdalcgfnlbofdaaGreatDoorZ18
import Derived.Test.YtdalcgfnlbofdaaGreatDoorZ09
import Derived.Test.YtdalcgfnlbofdaaGreatDoorZ11
import Derived.Test.YtdalcgfnlbofdaaGreatDoorLc
set_option linter.unusedVariables false
set_option linter.unusedSimpArgs false
namespace Go.Proofs.YtdalcgfnlbofdaaGreatDoor
open Go Go.Lf Go.Proofs
attribute [local irreducible] Lf.rg Lf.ro Lf.PWp Lf.SOp Lf.ACall Lf.Scoped Lf.dg Lf.dw
set_option maxRecDepth 20000
set_option maxHeartbeats 4000000
structure StL where
 (k t n : Int) (e : Bool) (fl : List Fl) (ss : List (Int × Int))
deriving DecidableEq
@[go_sem] def stA (s : StL) : List AV:=[i64 s.k,i64 s.t,i64 s.n,bl s.e,.sl false false (s.fl.map flA),.sl false false (s.ss.map zV)]
@[go_sem] theorem ztl (l : List StL) : yT (l.map stA).flatten = true:=z7 (fun a=>by simp [stA,yT,pur]) l
@[go_sem] theorem ztm {κ : List Nat} {σ : Sto} (l : List StL) : List.map (fzl κ σ) (l.map stA) = l.map stA:=vo (fun _=>rfl) l
def zle (f : Fl) (g : Int) : Bool:=decide (g < f.n.size ∨ g < f.v.size)
def zgq (g : Int) : List Fl → Bool
 | []=>false
 | f :: l=>if zle f g = true then true else zgq g l
def zgx (l : List Fl) (m g : Int) : Bool:=if m < l.length then true else zgq g l
def zlf (g : Int) : List Fl → Int → Int
 | [],_=>-1
 | f :: l,i=>if zle f g = true then i else zlf g l (i + 1)
theorem zfG (g : Int) : ∀ (l : List Fl) (i : Int), 0 ≤ i → decide (0 ≤ zlf g l i) = zgq g l
 | [],i,h=>by unfold zlf zgq;simp
 | f :: l,i,h=>by
  unfold zlf zgq
  by_cases hf : zle f g = true
  ·rw [if_pos hf,if_pos hf];simp [h]
  ·rw [if_neg hf,if_neg hf];exact zfG g l (i + 1) (by omega)
theorem jE (f q : Bool) (l : List Fl) (m g : Int) (h : l.length ≤ 9223372036854775807) : AEq Tryz.prog 30 [.sl f q (l.map flA),i64 m,i64 g] [] (bl (zgx l m g)) []:=by
 by_cases h30 : m < l.length
 ·have e : zgx l m g = true := if_pos h30
  rw [e]
  refine zc Tryz.func30 rfl Tryz.ntmps30 (by simp) (fun hsc=>?_);simp only [Lf.enter,Nat.reduceAdd];clear hsc
  have hU:=True.intro
  repeat' (first|(refine goR ?_)|(refine za (fun K hK=>?_))|((refine zb (fun hcd=>?_) (fun hcd=>?_))<;>(try simp only [hcP] at hcd)<;>(try exact cdT))|((refine ze [] (by rw [Tryz.results30,Lf.zt]) (zj ?_) ?_)<;>(try (first|exact zh|exact stT)))|(refine hK _ _ ?_;clear hK K))
 have e : zgx l m g = zgq g l:=if_neg h30
 rw [e]
 refine zc Tryz.func30 rfl Tryz.ntmps30 (by simp) (fun hsc=>?_);simp only [Lf.enter,Nat.reduceAdd];clear hsc
 have hU:=True.intro
 repeat' (first|(refine goR ?_)|(refine za (fun K hK=>?_))|((refine zb (fun hcd=>?_) (fun hcd=>?_))<;>(try simp only [hcP] at hcd)<;>(try exact cdT))|(refine hK _ _ ?_;clear hK K))
 refine zo [6,7,12,13,14,15,16,17,18,19,20,21,22,23,24,25,26,27,28,29,30,31,32,33,34,35] (fun i : Nat=>[(7,i64 i)]) (fun _=>[]) (fun i=>i ≤ l.length ∧ zgq g l = zgq g (l.drop i)) (fun i=>l.length - i) 0 ⟨Nat.zero_le _,rfl⟩ ?_ rfl ?_
 ·(refine ⟨⟨_,sT,?_⟩,trivial⟩<;>(try (first|exact zh)))
 ·rintro i ⟨hi, hk⟩
  simp only [yn,List.map_cons,List.map_nil,List.cons_append,List.nil_append]
  by_cases hlt : i < l.length
  ·obtain ⟨d, hd⟩ := yy hlt
   rw [jf hd,zgq] at hk
   by_cases h1 : g < d.n.size ∨ g < d.v.size
   ·rw [if_pos (by unfold zle; simp [h1])] at hk
    by_cases h2 : g < d.n.size
    ·repeat' (first | (refine goR ?_) | (refine za (fun K hK => ?_)) | ((refine zb (fun hcd => ?_) (fun hcd => ?_)) <;> (try simp only [hcP] at hcd) <;> (try exact cdT)) | (guard_target =~ rg _ _ _ (⟨_, _, _, _, _, some _⟩ :: _) _ _ _; (first | refine zv gT (fun hcd => ?_) (fun hcd => ?_) | refine zp gT (fun hcd => ?_) (fun hcd => ?_)) <;> (try simp only [hcd]) <;> (try (simp only [Bool.not_eq_true', Bool.not_eq_false'] at hcd; try simp only [hcd])) <;> (refine vC (Γ2 := _) ewT ?_) <;> (try simp only [hcP] at hcd) <;> (try exact cdT)) | ((refine ze [] (by rw [Tryz.results30, Lf.zt]) (zj ?_) ?_) <;> (try (first | exact zh | exact stT))) | (refine hK _ _ ?_; clear hK K))
     all_goals exact zq (by rw [hk])
    ·repeat' (first | (refine goR ?_) | (refine za (fun K hK => ?_)) | ((refine zb (fun hcd => ?_) (fun hcd => ?_)) <;> (try simp only [hcP] at hcd) <;> (try exact cdT)) | (guard_target =~ rg _ _ _ (⟨_, _, _, _, _, some _⟩ :: _) _ _ _; (first | refine zv gT (fun hcd => ?_) (fun hcd => ?_) | refine zp gT (fun hcd => ?_) (fun hcd => ?_)) <;> (try simp only [hcd]) <;> (try (simp only [Bool.not_eq_true', Bool.not_eq_false'] at hcd; try simp only [hcd])) <;> (refine vC (Γ2 := _) ewT ?_) <;> (try simp only [hcP] at hcd) <;> (try exact cdT)) | ((refine ze [] (by rw [Tryz.results30, Lf.zt]) (zj ?_) ?_) <;> (try (first | exact zh | exact stT))) | (refine hK _ _ ?_; clear hK K))
     all_goals exact zq (by rw [hk])
   ·rw [if_neg (by unfold zle; simp [h1])] at hk
    have h2 : ¬ g < d.n.size:=fun e=>h1 (.inl e)
    have h3 : ¬ g < d.v.size:=fun e=>h1 (.inr e)
    repeat' (first|(refine goR ?_)|(refine za (fun K hK=>?_))|((refine zb (fun hcd=>?_) (fun hcd=>?_))<;>(try simp only [hcP] at hcd)<;>(try exact cdT))|(guard_target =~ rg _ _ _ (⟨_,_,_,_,_,some _⟩ :: _) _ _ _;(first|refine zv gT (fun hcd=>?_) (fun hcd=>?_)|refine zp gT (fun hcd=>?_) (fun hcd=>?_))<;>(try simp only [hcd])<;>(try (simp only [Bool.not_eq_true',Bool.not_eq_false'] at hcd;try simp only [hcd]))<;>(refine vC (Γ2:=_) ewT ?_)<;>(try simp only [hcP] at hcd)<;>(try exact cdT))|(refine hK _ _ ?_;clear hK K))
    refine ⟨i + 1,⟨by omega,hk⟩,by omega,?_,arT,srT⟩
    (refine ⟨⟨_,sT,?_⟩,trivial⟩<;>(try (first|exact zh)))
  ·have he : zgq g l = false := by rw [hk, List.drop_eq_nil_of_le (by omega)]; rfl
   repeat' (first|(refine goR ?_)|(refine za (fun K hK=>?_))|((refine zb (fun hcd=>?_) (fun hcd=>?_))<;>(try simp only [hcP] at hcd)<;>(try exact cdT))|((refine ze [] (by rw [Tryz.results30,Lf.zt]) (zj ?_) ?_)<;>(try (first|exact zh|exact stT)))|(refine hK _ _ ?_;clear hK K)|(apply_assumption (exfalso:=false) (symm:=false)))
   exact zq (by rw [he])
theorem zmt (f : Fl) : AEq Tryz.prog 129 [.ag (flA f)] [] (bl (zle f 200)) []:=by
 refine zc Tryz.func129 rfl Tryz.ntmps129 (by simp) (fun hsc=>?_);simp only [Lf.enter,Nat.reduceAdd];clear hsc
 have hU:=True.intro
 repeat' (first|(refine goR ?_)|(refine za (fun K hK=>?_))|((refine ze [] (by rw [Tryz.results129,Lf.zt]) (zj ?_) ?_)<;>(try (first|exact zh|exact stT)))|(refine hK _ _ ?_;clear hK K))
 all_goals exact zq (by unfold zle;grind)
theorem zAX (f q : Bool) (l : List Fl) (h : l.length ≤ 9223372036854775807) : AEq Tryz.prog 170 [.sl f q (l.map flA),.lit (.func (.func 129) #[] #[])] [] (i64 (zlf 200 l 0)) []:=by
 refine zc Tryz.func170 rfl Tryz.ntmps170 (by simp) (fun hsc=>?_);simp only [Lf.enter,Nat.reduceAdd];clear hsc
 have hU:=True.intro
 repeat' (first|(refine goR ?_)|(refine za (fun K hK=>?_))|(refine hK _ _ ?_;clear hK K))
 refine zo [4,5,8,9,10,11,12,13,14,15,16,17,18] (fun i : Nat=>[(8,i64 i)]) (fun _=>[]) (fun i=>i ≤ l.length ∧ zlf 200 l 0 = zlf 200 (l.drop i) i) (fun i=>l.length - i) 0 ⟨Nat.zero_le _,rfl⟩ ?_ rfl ?_
 ·(refine ⟨⟨_,sT,?_⟩,trivial⟩<;>(try (first|exact zh)))
 ·rintro i ⟨hi, hk⟩
  simp only [yn,List.map_cons,List.map_nil,List.cons_append,List.nil_append]
  by_cases hlt : i < l.length
  ·obtain ⟨d, hd⟩ := yy hlt
   rw [jf hd,zlf] at hk
   cases h1 : zle d 200 with
   | true=>
    rw [if_pos h1] at hk
    have hU:=@h1
    repeat' (first|(refine goR ?_)|(refine za (fun K hK=>?_))|((refine zb (fun hcd=>?_) (fun hcd=>?_))<;>(try simp only [hcP] at hcd)<;>(try exact cdT))|(refine zcw (f:=129) rfl bT Tryz.call129 sT (AEq.pure' agT (zmt _) bT sT ?_))|((refine ze [] (by rw [Tryz.results170,Lf.zt]) (zj ?_) ?_)<;>(try (first|exact zh|exact stT)))|(refine hK _ _ ?_;clear hK K))
    all_goals exact zT hk.symm
   | false=>
    rw [if_neg (by simp [h1])] at hk
    have hU:=@h1
    repeat' (first|(refine goR ?_)|(refine za (fun K hK=>?_))|((refine zb (fun hcd=>?_) (fun hcd=>?_))<;>(try simp only [hcP] at hcd)<;>(try exact cdT))|(refine zcw (f:=129) rfl bT Tryz.call129 sT (AEq.pure' agT (zmt _) bT sT ?_))|(refine hK _ _ ?_;clear hK K))
    refine ⟨i + 1,⟨by omega,hk⟩,by omega,?_,arT,srT⟩
    (refine ⟨⟨_,sT,?_⟩,trivial⟩<;>(try (first|exact zh)))
  ·have he : zlf 200 l 0 = -1 := by rw [hk, List.drop_eq_nil_of_le (by omega)]; rfl
   repeat' (first|(refine goR ?_)|(refine za (fun K hK=>?_))|((refine zb (fun hcd=>?_) (fun hcd=>?_))<;>(try simp only [hcP] at hcd)<;>(try exact cdT))|((refine ze [] (by rw [Tryz.results170,Lf.zt]) (zj ?_) ?_)<;>(try (first|exact zh|exact stT)))|(refine hK _ _ ?_;clear hK K)|(apply_assumption (exfalso:=false) (symm:=false)))
   all_goals exact zT he.symm
theorem zve (f q : Bool) (l : List Fl) (h : l.length ≤ 9223372036854775807) : AEq Tryz.prog 128 [.sl f q (l.map flA),.lit (.func (.func 129) #[] #[])] [] (bl (zgq 200 l)) []:=by
 have he:=zfG 200 l 0 (by decide)
 refine zc Tryz.func128 rfl Tryz.ntmps128 (by simp) (fun hsc=>?_);simp only [Lf.enter,Nat.reduceAdd];clear hsc
 have hU:=@he
 repeat' (first|(refine goR ?_)|(refine za (fun K hK=>?_))|(refine zd (f:=170) rfl Tryz.call170 (h:=AEq.pure' agT (zAX _ _ _ (by assumption)) (hq:=?_)))|((refine ze [] (by rw [Tryz.results128,Lf.zt]) (zj ?_) ?_)<;>(try (first|exact zh|exact stT)))|(refine hK _ _ ?_;clear hK K))
 all_goals exact zq (by rw [← he])
def zbU (l : List Fl) : Bool:=!zgx l 20 200
theorem zlg (f q : Bool) (l : List Fl) (h : l.length ≤ 9223372036854775807) : AEq Tryz.prog 77 [.sl f q (l.map flA)] [] (bl (zbU l)) []:=by
 refine zc Tryz.func77 rfl Tryz.ntmps77 (by simp) (fun hsc=>?_);simp only [Lf.enter,Nat.reduceAdd];clear hsc
 have hU:=True.intro
 repeat' (first|(refine goR ?_)|(refine za (fun K hK=>?_))|(guard_target =~ rg _ _ _ (⟨_,_,_,_,_,some _⟩ :: _) _ _ _;(first|refine zv gT (fun hcd=>?_) (fun hcd=>?_)|refine zp gT (fun hcd=>?_) (fun hcd=>?_))<;>(try simp only [hcd])<;>(try (simp only [Bool.not_eq_true',Bool.not_eq_false'] at hcd;try simp only [hcd]))<;>(refine vC (Γ2:=_) ewT ?_)<;>(try simp only [hcP] at hcd)<;>(try exact cdT))|(refine zd (f:=128) rfl Tryz.call128 (h:=AEq.pure' agT (zve _ _ _ (by assumption)) (hq:=?_)))|((refine ze [] (by rw [Tryz.results77,Lf.zt]) (zj ?_) ?_)<;>(try (first|exact zh|exact stT)))|(refine hK _ _ ?_;clear hK K))
 all_goals exact zq (by unfold zbU zgx;grind)
theorem zbV (n a b : Int) : AEq Tryz.prog 79 [i64 n,i64 a,i64 b] [] (bl (decide (a ≤ n ∧ n ≤ b))) []:=by
 refine zc Tryz.func79 rfl Tryz.ntmps79 (by simp) (fun hsc=>?_);simp only [Lf.enter,Nat.reduceAdd];clear hsc
 have hU:=True.intro
 repeat' (first|(refine goR ?_)|(refine za (fun K hK=>?_))|((refine ze [] (by rw [Tryz.results79,Lf.zt]) (zj ?_) ?_)<;>(try (first|exact zh|exact stT)))|(refine hK _ _ ?_;clear hK K))
 all_goals exact zq (by grind)
theorem zoW (n a b : Int) : AEq Tryz.prog 83 [i64 n,i64 a,i64 b] [] (bl (decide (a ≤ n ∧ n ≤ b))) []:=by
 refine zc Tryz.func83 rfl Tryz.ntmps83 (by simp) (fun hsc=>?_);simp only [Lf.enter,Nat.reduceAdd];clear hsc
 have hU:=True.intro
 repeat' (first|(refine goR ?_)|(refine za (fun K hK=>?_))|((refine ze [] (by rw [Tryz.results83,Lf.zt]) (zj ?_) ?_)<;>(try (first|exact zh|exact stT)))|(refine hK _ _ ?_;clear hK K))
 all_goals exact zq (by grind)
theorem zi3 (n : Int) : AEq Tryz.prog 76 [i64 n] [] (bl (decide (1 ≤ n ∧ n ≤ 2147483647))) []:=by
 refine zc Tryz.func76 rfl Tryz.ntmps76 (by simp) (fun hsc=>?_);simp only [Lf.enter,Nat.reduceAdd];clear hsc
 have hU:=True.intro
 repeat' (first|(refine goR ?_)|(refine za (fun K hK=>?_))|(refine zd (f:=79) rfl Tryz.call79 (h:=AEq.pure' agT (zbV _ _ _) (hq:=?_)))|((refine ze [] (by rw [Tryz.results76,Lf.zt]) (zj ?_) ?_)<;>(try (first|exact zh|exact stT)))|(refine hK _ _ ?_;clear hK K))
def zoX (l : List (Int × Int)) : Bool:=decide (l.length ≤ 10) && decide (spE l = 0)
theorem zsi (f q : Bool) (l : List (Int × Int)) (h : l.length ≤ 1000000) : AEq Tryz.prog 80 [.sl f q (l.map zV)] [] (bl (zoX l)) []:=by
 refine zc Tryz.func80 rfl Tryz.ntmps80 (by simp) (fun hsc=>?_);simp only [Lf.enter,Nat.reduceAdd];clear hsc
 have hU:=True.intro
 repeat' (first|(refine goR ?_)|(refine za (fun K hK=>?_))|(refine zd (f:=130) rfl Tryz.call130 (h:=AEq.pure' agT (zit _ _ _ (by assumption)) (hq:=?_)))|((refine ze [] (by rw [Tryz.results80,Lf.zt]) (zj ?_) ?_)<;>(try (first|exact zh|exact stT)))|(refine hK _ _ ?_;clear hK K))
 all_goals exact zq (by unfold zoX;grind)
theorem zlh (s : StL) : AEq Tryz.prog 78 [.ag (stA s)] [] (bl (!s.e && decide (s.fl.length = 0) && decide (s.ss.length = 0))) []:=by
 refine zc Tryz.func78 rfl Tryz.ntmps78 (by simp) (fun hsc=>?_);simp only [Lf.enter,Nat.reduceAdd];clear hsc
 have hU:=True.intro
 repeat' (first|(refine goR ?_)|(refine za (fun K hK=>?_))|((refine ze [] (by rw [Tryz.results78,Lf.zt]) (zj ?_) ?_)<;>(try (first|exact zh|exact stT)))|(refine hK _ _ ?_;clear hK K))
 all_goals exact zq (by grind)
end Go.Proofs.YtdalcgfnlbofdaaGreatDoor
