import Derived.Test.YtdalcgfnlbofdaaGreatDoorPg
import Derived.Test.YtdalcgfnlbofdaaGreatDoorY23
import Derived.Test.YtdalcgfnlbofdaaGreatDoorY33
import Derived.Test.YtdalcgfnlbofdaaGreatDoorY32
import Derived.Test.YtdalcgfnlbofdaaGreatDoorY01
import Derived.Test.YtdalcgfnlbofdaaGreatDoorPc
set_option linter.unusedVariables false
set_option linter.unusedSimpArgs false
namespace Go.Proofs.YtdalcgfnlbofdaaGreatDoor
open Go Go.Lf Go.Proofs
attribute [local irreducible] Lf.rg Lf.ro Lf.PWp Lf.SOp Lf.ACall Lf.Scoped Lf.dg Lf.dw
set_option maxRecDepth 20000
set_option maxHeartbeats 4000000
def l8 : List UInt8:=[0,0,0,0,0,0,0,0]
def gaB (c : Int) : List UInt8:=wrB 7 0 (-1) [] [] 0 0 false 0 0 c 0
def rsG (c : Int) : List UInt8:=wrB 3 0 (-1) [] [] 0 0 false 0 0 c 0
def piB : List UInt8:=wrB 6 0 (-1) l8 [] 0 0 false 0 0 0 0
def wuB : List UInt8:=wrB 8 0 (-1) [] [] 0 0 false 0 0 0 1
theorem zr2 {c : Int} (hc : 0 ≤ c ∧ c ≤ 13) : Can 7 0 0 (-1) [] [] 0 0 false 0 0 c 0:=
 ⟨by decide,by decide,by decide,.inr ⟨by decide,rfl⟩,.inr ⟨by decide,rfl⟩,.inr ⟨by decide,rfl,rfl,rfl⟩,.inr ⟨by decide,rfl⟩,.inl ⟨rfl,by decide,by decide⟩,.inl ⟨.inr rfl,by omega,by omega⟩,.inr ⟨by decide,rfl⟩⟩
theorem zr3 {s c : Int} (hs : 1 ≤ s) (hc : 0 ≤ c ∧ c ≤ 13) : Can 3 0 s (-1) [] [] 0 0 false 0 0 c 0:=
  ⟨by decide, by decide, by have : ¬ s = 0 := by omega
                            unfold vg;rw [show zbH 3 = 1 from rfl];simp [this],.inr ⟨by decide,rfl⟩,.inr ⟨by decide,rfl⟩,.inr ⟨by decide,rfl,rfl,rfl⟩,.inr ⟨by decide,rfl⟩,.inr ⟨by decide,rfl⟩,.inl ⟨.inl rfl,by omega,by omega⟩,.inr ⟨by decide,rfl⟩⟩
theorem zr4 : Can 6 0 0 (-1) l8 [] 0 0 false 0 0 0 0:=
 ⟨by decide,by decide,by decide,.inr ⟨by decide,rfl⟩,.inr ⟨by decide,rfl⟩,.inr ⟨by decide,rfl,rfl,rfl⟩,.inr ⟨by decide,rfl⟩,.inr ⟨by decide,rfl⟩,.inr ⟨by decide,rfl⟩,.inr ⟨by decide,rfl⟩⟩
theorem zr5 : Can 8 0 0 (-1) [] [] 0 0 false 0 0 0 1:=
 ⟨by decide,by decide,by decide,.inr ⟨by decide,rfl⟩,.inr ⟨by decide,rfl⟩,.inr ⟨by decide,rfl,rfl,rfl⟩,.inr ⟨by decide,rfl⟩,.inr ⟨by decide,rfl⟩,.inr ⟨by decide,rfl⟩,.inl ⟨rfl,by decide,by decide⟩⟩
theorem zlP {c : Int} (hc : 0 ≤ c ∧ c ≤ 13) : (gaB c).length = 8:=by
 unfold gaB wrB
 rw [if_neg (by decide)]
 have : nuB 7 0 [] 0 0 false 0 0 c 0 = loB 0 false ++ nbB c 4:=rfl
 rw [this,zcE (zdt (by omega))]
 simp [eB,z7,zN]
theorem zlQ {c : Int} (hc : 0 ≤ c ∧ c ≤ 13) : (rsG c).length = 4:=by
 unfold rsG wrB
 rw [if_neg (by decide)]
 have : nuB 3 0 [] 0 0 false 0 0 c 0 = nbB c 4:=rfl
 rw [this,zcE (zdt (by omega))]
 simp [eB,zN]
theorem zoo {w c : Int} (hw : w = 0 ∨ w = 1) (hc : 0 ≤ c ∧ c ≤ 13) : kJ w 7 0 0 (-1) [] [] 0 0 false 0 0 c 0:=by
 have hl:=zlP hc
 unfold gaB at hl
 refine zio (zr2 hc) (by rw [hl];decide) hw ?_
 rw [hl];decide
theorem zr6 {w s c : Int} (hw : w = 0 ∨ w = 1) (hs : 1 ≤ s) (hs2 : s ≤ 2147483647) (hc : 0 ≤ c ∧ c ≤ 13) : kJ w 3 0 s (-1) [] [] 0 0 false 0 0 c 0:=by
 have hl:=zlQ hc
 unfold rsG at hl
 refine zio (zr3 hs hc) (by rw [hl];decide) hw ?_
 rw [hl]
 refine ⟨?_,?_,?_,?_,?_,?_,?_,?_⟩<;>(dsimp only;omega)
theorem zr7 {w : Int} (hw : w = 0 ∨ w = 1) : kJ w 6 0 0 (-1) l8 [] 0 0 false 0 0 0 0:=zio zr4 (by decide) hw (by decide)
theorem zr8 {w : Int} (hw : w = 0 ∨ w = 1) : kJ w 8 0 0 (-1) [] [] 0 0 false 0 0 0 1:=zio zr5 (by decide) hw (by decide)
theorem zfz (t g st p : Int) (fd : Bool) (d : List UInt8) (fs : Bool) (e : List (Int × Int)) (wt pa : Int) (al : Bool) (pr la co sp : Int) (w : Int) (hd : d.length ≤ 100000) (hl : e.length ≤ 10000) (hg1 : g ≤ 9223372036854775807) (hem : kJ w t g st (-1) d e wt pa al pr la co sp) : AEq Tryz.prog 47 [.ag [i64 t,i64 g,i64 st,i64 p,.sl fd false (d.map zf),.sl fs false (e.map yq),i64 wt,i64 pa,bl al,i64 pr,i64 la,i64 co,i64 sp],i64 w] [] (.sl true false ((oneQ w t g st (wrB t g (-1) d e wt pa al pr la co sp)).map frA)) []:=by
 refine zc Tryz.func47 rfl Tryz.ntmps47 (by simp) (fun hsc=>?_);simp only [Lf.enter,Nat.reduceAdd];clear hsc
 have hU:=True.intro
 repeat' (first|(refine goR ?_)|(refine za (fun K hK=>?_))|((refine zb (fun hcd=>?_) (fun hcd=>?_))<;>(try simp only [hcP] at hcd)<;>(try exact cdT))|(guard_target =~ SOp _ _ ⟨_,.buildSlice _ _ _,_,_,_,none⟩ _ _ _;refine yF (xs:=List.map (frA) (oneQ w t g st (wrB t g (-1) d e wt pa al pr la co sp))) rfl (he:=eoT) (hc:=hcT) (hK:=?_))|(refine zd (f:=38) rfl Tryz.call38 (h:=AEq.pure' agT (zds _ _ _ _ _ _ _ _ _ _ _ _ _ _ _ _ aoT aoT aoT aoT) (hq:=?_)))|((refine zh [] (by rw [Tryz.results47,Lf.zy]) (zj ?_) ?_)<;>(try (first|exact zi|exact stT)))|(refine hK _ _ ?_;clear hK K))
theorem zop (w : Int) (c : Int) (hc : 0 ≤ c ∧ c ≤ 13) (fd fs : Bool) (hw : w = 0 ∨ w = 1) : AEq Tryz.prog 47 [.ag [i64 7,i64 0,i64 0,i64 0,.sl fd false [],.sl fs false [],i64 0,i64 0,bl false,i64 0,i64 0,i64 c,i64 0],i64 w] [] (.sl true false ((oneQ w 7 0 0 (gaB c)).map frA)) []:=
 zfz 7 0 0 0 fd [] fs [] 0 0 false 0 0 c 0 w (by decide) (by decide) (by decide) (zoo hw hc)
theorem zoq (w : Int) (s c : Int) (hs : 1 ≤ s) (hs2 : s ≤ 2147483647) (hc : 0 ≤ c ∧ c ≤ 13) (fd fs : Bool) (hw : w = 0 ∨ w = 1) : AEq Tryz.prog 47 [.ag [i64 3,i64 0,i64 s,i64 0,.sl fd false [],.sl fs false [],i64 0,i64 0,bl false,i64 0,i64 0,i64 c,i64 0],i64 w] [] (.sl true false ((oneQ w 3 0 s (rsG c)).map frA)) []:=
 zfz 3 0 s 0 fd [] fs [] 0 0 false 0 0 c 0 w (by decide) (by decide) (by decide) (zr6 hw hs hs2 hc)
theorem zor (w : Int)  (fd fs : Bool) (hw : w = 0 ∨ w = 1) : AEq Tryz.prog 47 [.ag [i64 6,i64 0,i64 0,i64 0,.sl fd false (l8.map zf),.sl fs false [],i64 0,i64 0,bl false,i64 0,i64 0,i64 0,i64 0],i64 w] [] (.sl true false ((oneQ w 6 0 0 piB).map frA)) []:=
 zfz 6 0 0 0 fd l8 fs [] 0 0 false 0 0 0 0 w (by decide) (by decide) (by decide) (zr7 hw)
theorem zos (w : Int)  (fd fs : Bool) (hw : w = 0 ∨ w = 1) : AEq Tryz.prog 47 [.ag [i64 8,i64 0,i64 0,i64 0,.sl fd false [],.sl fs false [],i64 0,i64 0,bl false,i64 0,i64 0,i64 0,i64 1],i64 w] [] (.sl true false ((oneQ w 8 0 0 wuB).map frA)) []:=
 zfz 8 0 0 0 fd [] fs [] 0 0 false 0 0 0 1 w (by decide) (by decide) (by decide) (zr8 hw)
theorem zr9 (t g st p : Int) (fd : Bool) (d : List UInt8) (fs : Bool) (e : List (Int × Int)) (wt pa : Int) (al : Bool) (pr la co sp : Int) (w : Int) (hd : d.length ≤ 100000) (hl : e.length ≤ 10000) (hg1 : g ≤ 9223372036854775807) (hem : kJ w t g st (-1) d e wt pa al pr la co sp) : AEq Tryz.prog 87 [.ag [i64 t,i64 g,i64 st,i64 p,.sl fd false (d.map zf),.sl fs false (e.map yq),i64 wt,i64 pa,bl al,i64 pr,i64 la,i64 co,i64 sp],i64 w] [] (.sl true false ((oneQ w t g st (wrB t g (-1) d e wt pa al pr la co sp)).map frA)) []:=by
 refine zc Tryz.func87 rfl Tryz.ntmps87 (by simp) (fun hsc=>?_);simp only [Lf.enter,Nat.reduceAdd];clear hsc
 have hU:=True.intro
 repeat' (first|(refine goR ?_)|(refine za (fun K hK=>?_))|((refine zb (fun hcd=>?_) (fun hcd=>?_))<;>(try simp only [hcP] at hcd)<;>(try exact cdT))|(refine zd (f:=40) rfl Tryz.call40 (h:=AEq.pure' agT (zrz _ _ _ _ _ _ _ _ _ _ _ _ _ _ _ _ aoT aoT aoT aoT) (hq:=?_)))|(guard_target =~ SOp _ _ ⟨_,.buildSlice _ _ _,_,_,_,none⟩ _ _ _;refine yF (xs:=List.map (frA) (oneQ w t g st (wrB t g (-1) d e wt pa al pr la co sp))) rfl (he:=eoT) (hc:=hcT) (hK:=?_))|((refine zh [] (by rw [Tryz.results87,Lf.zy]) (zj ?_) ?_)<;>(try (first|exact zi|exact stT)))|(refine hK _ _ ?_;clear hK K))
theorem zot (w : Int) (c : Int) (hc : 0 ≤ c ∧ c ≤ 13) (fd fs : Bool) (hw : w = 0 ∨ w = 1) : AEq Tryz.prog 87 [.ag [i64 7,i64 0,i64 0,i64 0,.sl fd false [],.sl fs false [],i64 0,i64 0,bl false,i64 0,i64 0,i64 c,i64 0],i64 w] [] (.sl true false ((oneQ w 7 0 0 (gaB c)).map frA)) []:=
 zr9 7 0 0 0 fd [] fs [] 0 0 false 0 0 c 0 w (by decide) (by decide) (by decide) (zoo hw hc)
def reactR (w st n : Int) : List Fr:=
 if ¬ (w = 0 ∨ w = 1) ∨ st < 1 ∨ 2147483647 < st then [] else
 if max n 0 % 5 = 1 then oneQ w 7 0 0 (gaB (max n 0 / 5 % 14)) else if max n 0 % 5 = 2 then oneQ w 3 0 st (rsG (max n 0 / 5 % 14)) else if max n 0 % 5 = 3 then oneQ w 6 0 0 piB ++ oneQ w 7 0 0 (gaB (max n 0 / 5 % 14)) else if max n 0 % 5 = 4 then oneQ w 8 0 0 wuB else []
theorem ziC {w st n : Int} (h : ¬ (w = 0 ∨ w = 1) ∨ st < 1 ∨ 2147483647 < st) : reactR w st n = []:=if_pos h
theorem zbf {w st n m : Int} (h : ¬ (¬ (w = 0 ∨ w = 1) ∨ st < 1 ∨ 2147483647 < st)) (hm : max n 0 = m) :
    (m % 5 = 1 ∧ reactR w st n = oneQ w 7 0 0 (gaB (m / 5 % 14))) ∨ (m % 5 = 2 ∧ reactR w st n = oneQ w 3 0 st (rsG (m / 5 % 14))) ∨ (m % 5 = 3 ∧ reactR w st n = oneQ w 6 0 0 piB ++ oneQ w 7 0 0 (gaB (m / 5 % 14))) ∨ (m % 5 = 4 ∧ reactR w st n = oneQ w 8 0 0 wuB) ∨ (m % 5 = 0 ∧ reactR w st n = []):=by
  unfold reactR
  rw [if_neg h,hm]
  by_cases h1 : m % 5 = 1
  · exact .inl ⟨h1,if_pos h1⟩
  by_cases h2 : m % 5 = 2
  · exact .inr (.inl ⟨h2,by rw [if_neg h1,if_pos h2]⟩)
  by_cases h3 : m % 5 = 3
  · exact .inr (.inr (.inl ⟨h3,by rw [if_neg h1,if_neg h2,if_pos h3]⟩))
  by_cases h4 : m % 5 = 4
  · exact .inr (.inr (.inr (.inl ⟨h4,by rw [if_neg h1,if_neg h2,if_neg h3,if_pos h4]⟩)))
  · exact .inr (.inr (.inr (.inr ⟨by omega,by rw [if_neg h1,if_neg h2,if_neg h3,if_neg h4]⟩)))
theorem kQ (w : Int) (hw : w = 0 ∨ w = 1) : AEq Tryz.prog 43 [i64 w] [] (bl true) []:=by
 rcases hw with rfl|rfl
 all_goals (refine zc Tryz.func43 rfl Tryz.ntmps43 (by simp) (fun hsc=>?_);simp only [Lf.enter,Nat.reduceAdd];clear hsc)
 all_goals (have hU:=True.intro)
 all_goals (repeat' (first|(refine goR ?_)|(refine za (fun K hK=>?_))|((refine zh [] (by rw [Tryz.results43,Lf.zy]) (zj ?_) ?_)<;>(try (first|exact zi|exact stT)))|(refine hK _ _ ?_;clear hK K)))
theorem zkY (w : Int) (hw : ¬ (w = 0 ∨ w = 1)) : AEq Tryz.prog 43 [i64 w] [] (bl false) []:=by
 have h0 : ¬ w = 0:=fun h=>hw (.inl h)
 have h1 : ¬ w = 1:=fun h=>hw (.inr h)
 refine zc Tryz.func43 rfl Tryz.ntmps43 (by simp) (fun hsc=>?_);simp only [Lf.enter,Nat.reduceAdd];clear hsc
 have hU:=True.intro
 repeat' (first|(refine goR ?_)|(refine za (fun K hK=>?_))|((refine zh [] (by rw [Tryz.results43,Lf.zy]) (zj ?_) ?_)<;>(try (first|exact zi|exact stT)))|(refine hK _ _ ?_;clear hK K))
 all_goals exact zt (by simp [h0,h1])
theorem zlR (w st n : Int) (hn1 : n ≤ 9223372036854775807) : AEq Tryz.prog 17 [i64 w,i64 st,i64 n] [] (.sl false false ((reactR w st n).map frA)) []:=by
 have hfm : ∀ X Y : List Fr,List.map frA X ++ List.map frA Y = List.map frA (X ++ Y):=fun X Y=>List.map_append.symm
 by_cases hbad : ¬ (w = 0 ∨ w = 1) ∨ st < 1 ∨ 2147483647 < st
 ·rw [ziC hbad]
  have hb2 : ¬ (w = 0 ∨ w = 1) ∨ ((w = 0 ∨ w = 1) ∧ st < 1) ∨ ((w = 0 ∨ w = 1) ∧ 1 ≤ st ∧ 2147483647 < st):=by omega
  rcases hb2 with hw|⟨hw,h⟩|⟨hw,h,h2⟩
  all_goals (refine zc Tryz.func17 rfl Tryz.ntmps17 (by simp) (fun hsc=>?_);simp only [Lf.enter,Nat.reduceAdd];clear hsc)
  all_goals (have hU:=True.intro)
  all_goals (repeat' (first|(refine goR ?_)|(refine za (fun K hK=>?_))|((refine zb (fun hcd=>?_) (fun hcd=>?_))<;>(try simp only [hcP] at hcd)<;>(try exact cdT))|(refine zd (f:=43) rfl Tryz.call43 (h:=AEq.pure' agT (kQ _ (by assumption)) (hq:=?_)))|(refine zd (f:=43) rfl Tryz.call43 (h:=AEq.pure' agT (zkY _ (by assumption)) (hq:=?_)))|((refine zh [] (by rw [Tryz.results17,Lf.zy]) (zj ?_) ?_)<;>(try (first|exact zi|exact stT)))|(refine hK _ _ ?_;clear hK K)))
 ·have hw : w = 0 ∨ w = 1 := by omega
  have hs : 1 ≤ st:=by omega
  have hs2 : st ≤ 2147483647:=by omega
  obtain ⟨m,hm⟩ : ∃ m,max n 0 = m:=⟨_,rfl⟩
  have hm0 : 0 ≤ m:=by omega
  have hm1 : m ≤ 9223372036854775807:=by omega
  have hc:=zbf hbad hm
  by_cases hn : 0 ≤ n
  ·have hmn : m = n := by omega
   subst hmn
   have hcd2 : 0 ≤ m / 5 % 14 ∧ m / 5 % 14 ≤ 13:=by omega
   have ho1 : (oneQ w 7 0 0 (gaB (m / 5 % 14))).length = 1:=rfl
   have ho2 : (oneQ w 6 0 0 piB).length = 1:=rfl
   have hne : List.map frA (oneQ w 7 0 0 (gaB (m / 5 % 14))) ≠ []:=by simp [oneQ]
   rcases hc with ⟨h5,e⟩|⟨h5,e⟩|⟨h5,e⟩|⟨h5,e⟩|⟨h5,e⟩
   all_goals rw [e]
   all_goals (refine zc Tryz.func17 rfl Tryz.ntmps17 (by simp) (fun hsc=>?_);simp only [Lf.enter,Nat.reduceAdd];clear hsc)
   all_goals (have hU:=And.intro @h5 (@hfm))
   all_goals (repeat' (first|(refine goR ?_)|(refine za (fun K hK=>?_))|((refine zb (fun hcd=>?_) (fun hcd=>?_))<;>(try simp only [hcP] at hcd)<;>(try exact cdT))|(refine zd (f:=47) rfl Tryz.call47 (h:=AEq.pure' agT (zop _ _ (by assumption) _ _ (by assumption)) (hq:=?_)))|(refine zd (f:=47) rfl Tryz.call47 (h:=AEq.pure' agT (zoq _ _ _ (by assumption) (by assumption) (by assumption) _ _ (by assumption)) (hq:=?_)))|(refine zd (f:=47) rfl Tryz.call47 (h:=AEq.pure' agT (zor _ _ _ (by assumption)) (hq:=?_)))|(refine zd (f:=47) rfl Tryz.call47 (h:=AEq.pure' agT (zos _ _ _ (by assumption)) (hq:=?_)))|(guard_target =~ SOp _ _ ⟨_,.call ⟨.builtin .max,_,_⟩,_,_,_,none⟩ _ _ _;refine j2 rfl sT sT lmT ?_)|(refine zd (f:=43) rfl Tryz.call43 (h:=AEq.pure' agT (kQ _ (by assumption)) (hq:=?_)))|(guard_target =~ SOp _ _ ⟨_,.call ⟨.builtin .append,_,_⟩,_,_,_,none⟩ _ _ _;refine vM rfl (he:=eoT) (hne:=by first|exact .inl rfl|exact .inr (by assumption)|exact .inr (by simp;done)|fail) (hK:=?_))|(guard_target =~ SOp _ _ ⟨_,.makeSlice _ _ _,_,_,_,none⟩ _ _ _;refine zfc (x2:=AV.sl false false (List.map zf l8)) rfl sT eoT sT sT lmT lmT lmT lmT bT sT sT (by rfl) sT ?_)|((refine zh [] (by rw [Tryz.results17,Lf.zy]) (zj ?_) ?_)<;>(try (first|exact zi|exact stT)))|(refine hK _ _ ?_;clear hK K)|(apply_assumption (exfalso:=false) (symm:=false))))
  ·have hm2 : m = 0 := by omega
   subst hm2
   rcases hc with ⟨h5,e⟩|⟨h5,e⟩|⟨h5,e⟩|⟨h5,e⟩|⟨h5,e⟩
   all_goals (try exact absurd h5 (by decide))
   rw [e]
   refine zc Tryz.func17 rfl Tryz.ntmps17 (by simp) (fun hsc=>?_);simp only [Lf.enter,Nat.reduceAdd];clear hsc
   have hU:=True.intro
   repeat' (first|(refine goR ?_)|(refine za (fun K hK=>?_))|((refine zb (fun hcd=>?_) (fun hcd=>?_))<;>(try simp only [hcP] at hcd)<;>(try exact cdT))|(guard_target =~ SOp _ _ ⟨_,.call ⟨.builtin .max,_,_⟩,_,_,_,none⟩ _ _ _;refine zaX rfl sT sT lmT ?_)|(refine zd (f:=43) rfl Tryz.call43 (h:=AEq.pure' agT (kQ _ (by assumption)) (hq:=?_)))|((refine zh [] (by rw [Tryz.results17,Lf.zy]) (zj ?_) ?_)<;>(try (first|exact zi|exact stT)))|(refine hK _ _ ?_;clear hK K)|(apply_assumption (exfalso:=false) (symm:=false)))
theorem ziD (w st n : Int) : (reactR w st n).length ≤ 2:=by
 unfold reactR oneQ
 repeat' split
 all_goals simp
theorem zkZ (w st n : Int) : ∀ x ∈ reactR w st n,x.b.length ≤ 1000000000:=by
 have hc : 0 ≤ max n 0 / 5 % 14 ∧ max n 0 / 5 % 14 ≤ 13:=by omega
 have h1:=zlP hc
 have h2:=zlQ hc
 have h3 : piB.length ≤ 1000000000:=by decide
 have h4 : wuB.length ≤ 1000000000:=by decide
 intro x hx
 unfold reactR oneQ at hx
 repeat' split at hx
 all_goals (simp at hx)
 ·subst hx;dsimp only;omega
 ·subst hx;dsimp only;omega
 ·rcases hx with rfl | rfl
  ·exact h3
  ·dsimp only;omega
 ·subst hx;exact h4
theorem rx_1 : reactR 1 1 6 = oneQ 1 7 0 0 (gaB 1):=by kernel_rfl
theorem zsa : AEq Tryz.prog 42 [i64 1,i64 1,i64 6] [] (.sl false false ((oneQ 1 7 0 0 (gaB 1)).map frA)) []:=by
 have hwa : (1 : Int) = 0 ∨ (1 : Int) = 1:=.inr rfl
 have hcd2 : 0 ≤ (1 : Int) ∧ (1 : Int) ≤ 13:=by decide
 refine zc Tryz.func42 rfl Tryz.ntmps42 (by simp) (fun hsc=>?_);simp only [Lf.enter,Nat.reduceAdd];clear hsc
 have hU:=True.intro
 repeat' (first|(refine goR ?_)|(refine za (fun K hK=>?_))|((refine zb (fun hcd=>?_) (fun hcd=>?_))<;>(try simp only [hcP] at hcd)<;>(try exact cdT))|(refine zd (f:=87) rfl Tryz.call87 (h:=AEq.pure' agT (zot _ _ (by assumption) _ _ (by assumption)) (hq:=?_)))|(guard_target =~ SOp _ _ ⟨_,.call ⟨.builtin .max,_,_⟩,_,_,_,none⟩ _ _ _;refine j2 rfl sT sT lmT ?_)|((refine zh [] (by rw [Tryz.results42,Lf.zy]) (zj ?_) ?_)<;>(try (first|exact zi|exact stT)))|(refine hK _ _ ?_;clear hK K))
theorem rx_len : (oneQ 1 7 0 0 (gaB 1)).length = 1:=rfl
theorem zzF : (oneQ 1 7 0 0 (gaB 1))[0]? = some ⟨false,1,7,0,0,false,gaB 1⟩:=rfl
theorem ziE : AEq Tryz.prog 15 [] [] (bl true) []:=by
 have h0:=zzF
 have hle:=rx_len
 have hl : (oneQ 1 7 0 0 (gaB 1)).length ≤ 1000000000:=by rw [rx_len];decide
 have hx : ∀ x ∈ oneQ 1 7 0 0 (gaB 1),x.b.length ≤ 1000000000:=by rw [← rx_1];exact zkZ 1 1 6
 have hab : (oneQ 1 7 0 0 (gaB 1)).map rqF = (oneQ 1 7 0 0 (gaB 1)).map rqF:=rfl
 refine zc Tryz.func15 rfl Tryz.ntmps15 (by simp) (fun hsc=>?_);simp only [Lf.enter,Nat.reduceAdd];clear hsc
 have hU:=And.intro @rx_1 (@rx_len)
 repeat' (first|(refine goR ?_)|(refine za (fun K hK=>?_))|(refine zd (f:=42) rfl Tryz.call42 (h:=AEq.pure' agT zsa (hq:=?_)))|(refine zd (f:=17) rfl Tryz.call17 (h:=AEq.pure' agT (zlR _ _ _ aoT) (hq:=?_)))|(refine zd (f:=9) rfl Tryz.call9 (h:=AEq.pure' agT (zud _ _ _ _ _ _ aoT aoT aoT) (hq:=?_)))|((refine zh [] (by rw [Tryz.results15,Lf.zy]) (zj ?_) ?_)<;>(try (first|exact zi|exact stT)))|(refine hK _ _ ?_;clear hK K))
end Go.Proofs.YtdalcgfnlbofdaaGreatDoor
