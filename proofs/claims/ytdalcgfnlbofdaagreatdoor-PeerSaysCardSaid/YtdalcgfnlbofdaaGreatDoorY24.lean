import Derived.Test.YtdalcgfnlbofdaaGreatDoorPg
import Derived.Test.YtdalcgfnlbofdaaGreatDoorY12
import Derived.Test.YtdalcgfnlbofdaaGreatDoorY06
import Derived.Test.YtdalcgfnlbofdaaGreatDoorY01
import Derived.Test.YtdalcgfnlbofdaaGreatDoorPc
set_option linter.unusedVariables false
set_option linter.unusedSimpArgs false
namespace Go.Proofs.YtdalcgfnlbofdaaGreatDoor
open Go Go.Lf Go.Proofs
attribute [local irreducible] Lf.rg Lf.ro Lf.PWp Lf.SOp Lf.ACall Lf.Scoped Lf.dg Lf.dw
set_option maxRecDepth 20000
set_option maxHeartbeats 4000000
structure StL where
 (k t n : Int) (e : Bool) (fl : List Fl) (ss : List (Int × Int))
deriving DecidableEq
@[go_sem] def stA (s : StL) : List AV:=[i64 s.k,i64 s.t,i64 s.n,bl s.e,.sl false false (s.fl.map flA),.sl false false (s.ss.map yq)]
@[go_sem] theorem zsz (l : List StL) : vn (l.map stA).flatten = true:=yd (fun a=>by simp [stA,vn,pur]) l
@[go_sem] theorem zsA {κ : List Nat} {σ : Sto} (l : List StL) : List.map (fzl κ σ) (l.map stA) = l.map stA:=vG (fun _=>rfl) l
def znV (f : Fl) (g : Int) : Bool:=decide (g < f.n.size ∨ g < f.v.size)
def zlK (g : Int) : List Fl → Bool
 | []=>false
 | f :: l=>if znV f g = true then true else zlK g l
def zt6 (l : List Fl) (m g : Int) : Bool:=if m < l.length then true else zlK g l
def zkN (g : Int) : List Fl → Int → Int
 | [],_=>-1
 | f :: l,i=>if znV f g = true then i else zkN g l (i + 1)
theorem zfv (g : Int) : ∀ (l : List Fl) (i : Int), 0 ≤ i → decide (0 ≤ zkN g l i) = zlK g l
 | [],i,h=>by unfold zkN zlK;simp
 | f :: l,i,h=>by
  unfold zkN zlK
  by_cases hf : znV f g = true
  ·rw [if_pos hf,if_pos hf];simp [h]
  ·rw [if_neg hf,if_neg hf];exact zfv g l (i + 1) (by omega)
theorem zlL (f : Fl) : AEq Tryz.prog 129 [.ag (flA f)] [] (bl (znV f 200)) []:=by
 refine zc Tryz.func129 rfl Tryz.ntmps129 (by simp) (fun hsc=>?_);simp only [Lf.enter,Nat.reduceAdd];clear hsc
 have hU:=True.intro
 repeat' (first|(refine goR ?_)|(refine za (fun K hK=>?_))|((refine zh [] (by rw [Tryz.results129,Lf.zy]) (zj ?_) ?_)<;>(try (first|exact zi|exact stT)))|(refine hK _ _ ?_;clear hK K))
 all_goals exact zt (by unfold znV;grind)
theorem zzC (f q : Bool) (l : List Fl) (h : l.length ≤ 9223372036854775807) : AEq Tryz.prog 170 [.sl f q (l.map flA),.lit (.func (.func 129) #[] #[])] [] (i64 (zkN 200 l 0)) []:=by
 refine zc Tryz.func170 rfl Tryz.ntmps170 (by simp) (fun hsc=>?_);simp only [Lf.enter,Nat.reduceAdd];clear hsc
 have hU:=True.intro
 repeat' (first|(refine goR ?_)|(refine za (fun K hK=>?_))|(refine hK _ _ ?_;clear hK K))
 refine zz [4,5,8,9,10,11,12,13,14,15,16,17,18] (fun i : Nat=>[(8,i64 i)]) (fun _=>[]) (fun i=>i ≤ l.length ∧ zkN 200 l 0 = zkN 200 (l.drop i) i) (fun i=>l.length - i) 0 ⟨Nat.zero_le _,rfl⟩ ?_ rfl ?_
 ·(refine ⟨⟨_,sT,?_⟩,trivial⟩<;>(try (first|exact zi)))
 ·rintro i ⟨hi, hk⟩
  simp only [vf,List.map_cons,List.map_nil,List.cons_append,List.nil_append]
  by_cases hlt : i < l.length
  ·obtain ⟨d, hd⟩ := vS hlt
   rw [za8 hd,zkN] at hk
   cases h1 : znV d 200 with
   | true=>
    rw [if_pos h1] at hk
    have hU:=@h1
    repeat' (first|(refine goR ?_)|(refine za (fun K hK=>?_))|((refine zb (fun hcd=>?_) (fun hcd=>?_))<;>(try simp only [hcP] at hcd)<;>(try exact cdT))|(refine zcg (f:=129) rfl bT Tryz.call129 sT (AEq.pure' agT (zlL _) bT sT ?_))|((refine zh [] (by rw [Tryz.results170,Lf.zy]) (zj ?_) ?_)<;>(try (first|exact zi|exact stT)))|(refine hK _ _ ?_;clear hK K))
    all_goals exact yG hk.symm
   | false=>
    rw [if_neg (by simp [h1])] at hk
    have hU:=@h1
    repeat' (first|(refine goR ?_)|(refine za (fun K hK=>?_))|((refine zb (fun hcd=>?_) (fun hcd=>?_))<;>(try simp only [hcP] at hcd)<;>(try exact cdT))|(refine zcg (f:=129) rfl bT Tryz.call129 sT (AEq.pure' agT (zlL _) bT sT ?_))|(refine hK _ _ ?_;clear hK K))
    refine ⟨i + 1,⟨by omega,hk⟩,by omega,?_,arT,srT⟩
    (refine ⟨⟨_,sT,?_⟩,trivial⟩<;>(try (first|exact zi)))
  ·have he : zkN 200 l 0 = -1 := by rw [hk, List.drop_eq_nil_of_le (by omega)]; rfl
   repeat' (first|(refine goR ?_)|(refine za (fun K hK=>?_))|((refine zb (fun hcd=>?_) (fun hcd=>?_))<;>(try simp only [hcP] at hcd)<;>(try exact cdT))|((refine zh [] (by rw [Tryz.results170,Lf.zy]) (zj ?_) ?_)<;>(try (first|exact zi|exact stT)))|(refine hK _ _ ?_;clear hK K)|(apply_assumption (exfalso:=false) (symm:=false)))
   all_goals exact yG he.symm
theorem zt7 (f q : Bool) (l : List Fl) (h : l.length ≤ 9223372036854775807) : AEq Tryz.prog 128 [.sl f q (l.map flA),.lit (.func (.func 129) #[] #[])] [] (bl (zlK 200 l)) []:=by
 have he:=zfv 200 l 0 (by decide)
 refine zc Tryz.func128 rfl Tryz.ntmps128 (by simp) (fun hsc=>?_);simp only [Lf.enter,Nat.reduceAdd];clear hsc
 have hU:=@he
 repeat' (first|(refine goR ?_)|(refine za (fun K hK=>?_))|(refine zd (f:=170) rfl Tryz.call170 (h:=AEq.pure' agT (zzC _ _ _ (by assumption)) (hq:=?_)))|((refine zh [] (by rw [Tryz.results128,Lf.zy]) (zj ?_) ?_)<;>(try (first|exact zi|exact stT)))|(refine hK _ _ ?_;clear hK K))
 all_goals exact zt (by rw [← he])
def zdu (l : List Fl) : Bool:=!zt6 l 20 200
theorem zkO (f q : Bool) (l : List Fl) (h : l.length ≤ 9223372036854775807) : AEq Tryz.prog 77 [.sl f q (l.map flA)] [] (bl (zdu l)) []:=by
 refine zc Tryz.func77 rfl Tryz.ntmps77 (by simp) (fun hsc=>?_);simp only [Lf.enter,Nat.reduceAdd];clear hsc
 have hU:=True.intro
 repeat' (first|(refine goR ?_)|(refine za (fun K hK=>?_))|(guard_target =~ rg _ _ _ (⟨_,_,_,_,_,some _⟩ :: _) _ _ _;(first|refine zH gT (fun hcd=>?_) (fun hcd=>?_)|refine zw gT (fun hcd=>?_) (fun hcd=>?_))<;>(try simp only [hcd])<;>(try (simp only [Bool.not_eq_true',Bool.not_eq_false'] at hcd;try simp only [hcd]))<;>(refine ku (Γ2:=_) ewT ?_)<;>(try simp only [hcP] at hcd)<;>(try exact cdT))|(refine zd (f:=128) rfl Tryz.call128 (h:=AEq.pure' agT (zt7 _ _ _ (by assumption)) (hq:=?_)))|((refine zh [] (by rw [Tryz.results77,Lf.zy]) (zj ?_) ?_)<;>(try (first|exact zi|exact stT)))|(refine hK _ _ ?_;clear hK K))
 all_goals exact zt (by unfold zdu zt6;grind)
theorem zbM (n a b : Int) : AEq Tryz.prog 79 [i64 n,i64 a,i64 b] [] (bl (decide (a ≤ n ∧ n ≤ b))) []:=by
 refine zc Tryz.func79 rfl Tryz.ntmps79 (by simp) (fun hsc=>?_);simp only [Lf.enter,Nat.reduceAdd];clear hsc
 have hU:=True.intro
 repeat' (first|(refine goR ?_)|(refine za (fun K hK=>?_))|((refine zh [] (by rw [Tryz.results79,Lf.zy]) (zj ?_) ?_)<;>(try (first|exact zi|exact stT)))|(refine hK _ _ ?_;clear hK K))
 all_goals exact zt (by grind)
theorem zip (n : Int) : AEq Tryz.prog 76 [i64 n] [] (bl (decide (1 ≤ n ∧ n ≤ 2147483647))) []:=by
 refine zc Tryz.func76 rfl Tryz.ntmps76 (by simp) (fun hsc=>?_);simp only [Lf.enter,Nat.reduceAdd];clear hsc
 have hU:=True.intro
 repeat' (first|(refine goR ?_)|(refine za (fun K hK=>?_))|(refine zd (f:=79) rfl Tryz.call79 (h:=AEq.pure' agT (zbM _ _ _) (hq:=?_)))|((refine zh [] (by rw [Tryz.results76,Lf.zy]) (zj ?_) ?_)<;>(try (first|exact zi|exact stT)))|(refine hK _ _ ?_;clear hK K))
def zoP (l : List (Int × Int)) : Bool:=decide (l.length ≤ 10) && decide (spE l = 0)
theorem zrD (f q : Bool) (l : List (Int × Int)) (h : l.length ≤ 1000000) : AEq Tryz.prog 80 [.sl f q (l.map yq)] [] (bl (zoP l)) []:=by
 refine zc Tryz.func80 rfl Tryz.ntmps80 (by simp) (fun hsc=>?_);simp only [Lf.enter,Nat.reduceAdd];clear hsc
 have hU:=True.intro
 repeat' (first|(refine goR ?_)|(refine za (fun K hK=>?_))|(refine zd (f:=130) rfl Tryz.call130 (h:=AEq.pure' agT (zhY _ _ _ (by assumption)) (hq:=?_)))|((refine zh [] (by rw [Tryz.results80,Lf.zy]) (zj ?_) ?_)<;>(try (first|exact zi|exact stT)))|(refine hK _ _ ?_;clear hK K))
 all_goals exact zt (by unfold zoP;grind)
theorem zkP (s : StL) : AEq Tryz.prog 78 [.ag (stA s)] [] (bl (!s.e && decide (s.fl.length = 0) && decide (s.ss.length = 0))) []:=by
 refine zc Tryz.func78 rfl Tryz.ntmps78 (by simp) (fun hsc=>?_);simp only [Lf.enter,Nat.reduceAdd];clear hsc
 have hU:=True.intro
 repeat' (first|(refine goR ?_)|(refine za (fun K hK=>?_))|((refine zh [] (by rw [Tryz.results78,Lf.zy]) (zj ?_) ?_)<;>(try (first|exact zi|exact stT)))|(refine hK _ _ ?_;clear hK K))
 all_goals exact zt (by grind)
def rsB (s : StL) : Bool := decide (
 (s.k = 1 ∧ 1 ≤ s.t ∧ s.t ≤ 2147483647 ∧ s.n = 0 ∧ zdu s.fl = true ∧ s.ss.length = 0) ∨
 (s.k = 2 ∧ s.fl.length = 0 ∧ s.ss.length = 0 ∧ 1 ≤ s.t ∧ s.t ≤ 2147483647 ∧ 0 ≤ s.n ∧ s.n ≤ 16384) ∨
 (s.k = 3 ∧ s.t = 0 ∧ s.n = 0 ∧ s.e = false ∧ s.fl.length = 0 ∧ zoP s.ss = true) ∨
 (s.k = 4 ∧ s.e = false ∧ s.fl.length = 0 ∧ s.ss.length = 0 ∧ 0 ≤ s.t ∧ s.t ≤ 2147483647 ∧ 1 ≤ s.n ∧ s.n ≤ 2147483647) ∨
 (s.k = 5 ∧ s.e = false ∧ s.fl.length = 0 ∧ s.ss.length = 0 ∧ 1 ≤ s.t ∧ s.t ≤ 2147483647 ∧ 0 ≤ s.n ∧ s.n ≤ 4294967295) ∨
 (s.k = 6 ∧ s.e = false ∧ s.fl.length = 0 ∧ s.ss.length = 0 ∧ s.t = 0 ∧ 0 ≤ s.n ∧ s.n ≤ 255) ∨
 (s.k = 7 ∧ s.e = false ∧ s.fl.length = 0 ∧ s.ss.length = 0 ∧ s.t = 0 ∧ 0 ≤ s.n ∧ s.n ≤ 2147483647) ∨
 (s.k = 8 ∧ s.e = false ∧ s.fl.length = 0 ∧ s.ss.length = 0 ∧ s.t = 0 ∧ 0 ≤ s.n ∧ s.n ≤ 16))
theorem znW (k t n : Int) (e : Bool) (fl : List Fl) (ss : List (Int × Int)) : AEq Tryz.prog 78 [.ag [i64 k,i64 t,i64 n,bl e,.sl false false (fl.map flA),.sl false false (ss.map yq)]] [] (bl (!e && decide (fl.length = 0) && decide (ss.length = 0))) []:=zkP ⟨k,t,n,e,fl,ss⟩
theorem zkQ (s : StL) (h1 : s.fl.length ≤ 9223372036854775807) (h2 : s.ss.length ≤ 1000000) : AEq Tryz.prog 36 [.ag (stA s)] [] (bl (rsB s)) []:=by
 refine zc Tryz.func36 rfl Tryz.ntmps36 (by simp) (fun hsc=>?_);simp only [Lf.enter,Nat.reduceAdd];clear hsc
 have hU:=True.intro
 repeat' (first|(refine goR ?_)|(refine za (fun K hK=>?_))|((refine zb (fun hcd=>?_) (fun hcd=>?_))<;>(try simp only [hcP] at hcd)<;>(try exact cdT))|(guard_target =~ rg _ _ _ (⟨_,_,_,_,_,some _⟩ :: _) _ _ _;(first|refine zH gT (fun hcd=>?_) (fun hcd=>?_)|refine zw gT (fun hcd=>?_) (fun hcd=>?_))<;>(try simp only [hcd])<;>(try (simp only [Bool.not_eq_true',Bool.not_eq_false'] at hcd;try simp only [hcd]))<;>(refine ku (Γ2:=_) ewT ?_)<;>(try simp only [hcP] at hcd)<;>(try exact cdT))|(refine zd (f:=78) rfl Tryz.call78 (h:=AEq.pure' agT (znW _ _ _ _ _ _) (hq:=?_)))|(refine zd (f:=79) rfl Tryz.call79 (h:=AEq.pure' agT (zbM _ _ _) (hq:=?_)))|(refine zd (f:=76) rfl Tryz.call76 (h:=AEq.pure' agT (zip _) (hq:=?_)))|(refine zd (f:=80) rfl Tryz.call80 (h:=AEq.pure' agT (zrD _ _ _ (by assumption)) (hq:=?_)))|(refine zd (f:=77) rfl Tryz.call77 (h:=AEq.pure' agT (zkO _ _ _ (by assumption)) (hq:=?_)))|((refine zh [] (by rw [Tryz.results36,Lf.zy]) (zj ?_) ?_)<;>(try (first|exact zi|exact stT)))|(refine hK _ _ ?_;clear hK K))
 all_goals exact zt (by unfold rsB;grind)
def zzD (L : List StL) : Prop:=∀ s ∈ L,s.fl.length ≤ 1000000 ∧ s.ss.length ≤ 1000000
attribute [local irreducible] rsB
end Go.Proofs.YtdalcgfnlbofdaaGreatDoor
namespace Go.Proofs.YtdalcgfnlbofdaaGreatDoor
open Go Go.Lf Go.Proofs
attribute [local irreducible] Lf.rg Lf.ro Lf.PWp Lf.SOp Lf.ACall Lf.Scoped Lf.dg Lf.dw
set_option maxRecDepth 20000
set_option maxHeartbeats 4000000
def smS (L : List StL) : Prop:=∀ s ∈ L,s.fl.length ≤ 40 ∧ s.ss.length ≤ 40
theorem smS.ok {L : List StL} (h : smS L) : zzD L:=fun s hs=>by have:=h s hs;omega
end Go.Proofs.YtdalcgfnlbofdaaGreatDoor
