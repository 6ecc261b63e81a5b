import Derived.Test.YtdalcgfnlbofdaaGreatDoorTg
import Derived.Test.YtdalcgfnlbofdaaGreatDoorZ20
import Derived.Test.YtdalcgfnlbofdaaGreatDoorZ18
import Derived.Test.YtdalcgfnlbofdaaGreatDoorLc
set_option linter.unusedVariables false
set_option linter.unusedSimpArgs false
namespace Go.Proofs.YtdalcgfnlbofdaaGreatDoor
open Go Go.Lf Go.Proofs
attribute [local irreducible] Lf.rg Lf.ro Lf.PWp Lf.SOp Lf.ACall Lf.Scoped Lf.dg Lf.dw
set_option maxRecDepth 20000
set_option maxHeartbeats 4000000
structure Fm where
 (t g s p : Int) (fd : Bool) (d : List UInt8) (fs : Bool) (st : List (Int × Int)) (wt pa : Int) (al : Bool) (pr la co sp : Int)
@[go_sem] def fmA (f : Fm) : List AV:=[i64 f.t,i64 f.g,i64 f.s,i64 f.p,.sl f.fd false (f.d.map zf),.sl f.fs false (f.st.map zV),i64 f.wt,i64 f.pa,bl f.al,i64 f.pr,i64 f.la,i64 f.co,i64 f.sp]
def fm0 : Fm:=⟨0,0,0,0,true,[],true,[],0,0,false,0,0,0,0⟩
def vS (t g : Int) (b : List UInt8) : Int:=if zB t g 8 = true then zJ b 1 else -1
theorem ku {t g : Int} (h0 : ¬ t = 0) (h1 : ¬ t = 1) (h5 : ¬ t = 5) : zB t g 8 = false:=by
 unfold zB kQ
 rw [if_neg (by decide),if_neg (by decide),if_pos rfl,decide_eq_false (by omega)];rfl
theorem ym {t g : Int} (h1 : ¬ t = 1) : zB t g 32 = false:=by
 unfold zB kQ
 rw [if_neg (by decide),if_neg (by decide),if_neg (by decide),if_pos rfl,decide_eq_false h1];rfl
theorem f_t {α : Type} {c : Bool} {x y : α} (h : c = true) : (if c = true then x else y) = x:=if_pos h
theorem f_f {α : Type} {c : Bool} {x y : α} (h : c = false) : (if c = true then x else y) = y:=if_neg (by rw [h];simp)
structure Nm where
 (wt pa : Int) (al : Bool) (pr la co sp : Int) (sh : Bool) (pos : Int)
def zR (t g : Int) (b : List UInt8) (a : Int) : Nm:=
 if t = 1 then (if zB 1 g 32 = true then ⟨zJ (b.drop (yh b a 4).toNat) 1,yB (zJ (b.drop a.toNat) 4),hiN (zJ (b.drop a.toNat) 4),0,0,0,0,shB b a 5,yh b (yh b a 4) 1⟩ else ⟨0,0,false,0,0,0,0,false,a⟩)
 else if t = 2 then ⟨zJ (b.drop (yh b a 4).toNat) 1,yB (zJ (b.drop a.toNat) 4),hiN (zJ (b.drop a.toNat) 4),0,0,0,0,shB b a 5,yh b (yh b a 4) 1⟩
 else if t = 3 then ⟨0,0,false,0,0,(zJ (b.drop a.toNat) 4),0,shB b a 4,yh b a 4⟩
 else if t = 5 then ⟨0,0,false,yB (zJ (b.drop a.toNat) 4),0,0,0,shB b a 4,yh b a 4⟩
 else if t = 7 then ⟨0,0,false,0,yB (zJ (b.drop a.toNat) 4),zJ (b.drop (yh b a 4).toNat) 4,0,shB b a 8,yh b (yh b a 4) 4⟩
 else if t = 8 then ⟨0,0,false,0,0,0,yB (zJ (b.drop a.toNat) 4),shB b a 4,yh b a 4⟩
 else ⟨0,0,false,0,0,0,0,false,a⟩
theorem zfC (t g : Int) (b : List UInt8) (a : Int) (h0 : 0 ≤ a) (h1 : a ≤ b.length) : 0 ≤ (zR t g b a).pos ∧ (zR t g b a).pos ≤ b.length:=by
 obtain ⟨p0,p1⟩:=zbd b a 4 h0 h1 (by decide)
 unfold zR
 repeat' split
 all_goals first|exact zbd b _ _ p0 p1 (by decide)|exact ⟨p0,p1⟩|exact ⟨h0,h1⟩
theorem zwa (f : Bool) (b : List UInt8) (a : Int) (sh : Bool) (t : Int) (g s p : Int) (h0 : 0 ≤ a) (h1 : a ≤ b.length) (h2 : b.length ≤ 1000000000) (hg0 : 0 ≤ g) (hg1 : g < 256) : AEq Tryz.prog 97 [.ptr 1 0,.ptr 0 0] [.box [i64 t,i64 g,i64 s,i64 p,.sl true false [],.sl true false [],i64 0,i64 0,bl false,i64 0,i64 0,i64 0,i64 0],.box [.ptr 2 0,bl sh],.box [.sl f false (b.map zf),i64 a]] (.tu []) [.box [i64 t,i64 g,i64 s,i64 p,.sl true false [],.sl true false [],i64 (zR t g b a).wt,i64 (zR t g b a).pa,bl (zR t g b a).al,i64 (zR t g b a).pr,i64 (zR t g b a).la,i64 (zR t g b a).co,i64 (zR t g b a).sp],.box [.ptr 2 0,bl (sh || (zR t g b a).sh)],.box [.sl f false (b.map zf),i64 (zR t g b a).pos]]:=by
 by_cases c1 : t = 1
 ·subst c1
  rcases (show zB 1 g 32 = true ∨ zB 1 g 32 = false by cases zB 1 g 32<;>simp) with hH|hH
  ·rw [show zR 1 g b a = ⟨zJ (b.drop (yh b a 4).toNat) 1, yB (zJ (b.drop a.toNat) 4), hiN (zJ (b.drop a.toNat) 4), 0, 0, 0, 0, shB b a 5, yh b (yh b a 4) 1⟩ from (if_pos rfl).trans (if_pos hH)]
   exact zoz f b a sh g s p h0 h1 h2 hg0 hg1 hH
  ·rw [show zR 1 g b a = ⟨0, 0, false, 0, 0, 0, 0, false, a⟩ from (if_pos rfl).trans (if_neg (by rw [hH]; simp)), Bool.or_false]
   exact zoA f b a sh g s p h0 h1 h2 hg0 hg1 hH
 by_cases c2 : t = 2
 ·subst c2;exact zrY f b a sh g s p h0 h1 h2 hg0 hg1
 by_cases c3 : t = 3
 ·subst c3;exact zrZ f b a sh g s p h0 h1 h2 hg0 hg1
 by_cases c5 : t = 5
 ·subst c5;exact zr0 f b a sh g s p h0 h1 h2 hg0 hg1
 by_cases c7 : t = 7
 ·subst c7;exact zr1 f b a sh g s p h0 h1 h2 hg0 hg1
 by_cases c8 : t = 8
 ·subst c8;exact zr2 f b a sh g s p h0 h1 h2 hg0 hg1
 rw [show zR t g b a = ⟨0,0,false,0,0,0,0,false,a⟩ from by unfold zR;rw [if_neg c1,if_neg c2,if_neg c3,if_neg c5,if_neg c7,if_neg c8],Bool.or_false]
 exact zr3 f b a sh t g s p h0 h1 h2 hg0 hg1 c1 c2 c3 c5 c7 c8
def yL (t g : Int) (b : List UInt8) : Int:=if zB t g 8 = true then yh b 0 1 else 0
def zag (t g : Int) (b : List UInt8) : Bool:=(zB t g 8 && shB b 0 1) || (zR t g b (yL t g b)).sh
def zbe (t g s : Int) (b : List UInt8) : Fm × Int × Int:=
 let n:=zR t g b (yL t g b)
 if zag t g b = true then (fm0,scI t,6)
 else if (b.length : Int) - n.pos < vS t g b then (fm0,2,1)
 else if t = 4 then (⟨t,g,s,vS t g b,true,[],false,zeq b,n.wt,n.pa,n.al,n.pr,n.la,n.co,n.sp⟩,0,0)
 else (⟨t,g,s,vS t g b,false,byL b n.pos (b.length - n.pos - max (vS t g b) 0),true,[],n.wt,n.pa,n.al,n.pr,n.la,n.co,n.sp⟩,0,0)
theorem zbS (t g s : Int) (b : List UInt8) :
    (zag t g b = true ∧ zbe t g s b = (fm0,scI t,6)) ∨
    (zag t g b = false ∧ (b.length : Int) - (zR t g b (yL t g b)).pos < vS t g b ∧ zbe t g s b = (fm0,2,1)) ∨
    (zag t g b = false ∧ ¬ (b.length : Int) - (zR t g b (yL t g b)).pos < vS t g b ∧ t = 4 ∧ zbe t g s b = (⟨t,g,s,vS t g b,true,[],false,zeq b,(zR t g b (yL t g b)).wt,(zR t g b (yL t g b)).pa,(zR t g b (yL t g b)).al,(zR t g b (yL t g b)).pr,(zR t g b (yL t g b)).la,(zR t g b (yL t g b)).co,(zR t g b (yL t g b)).sp⟩,0,0)) ∨
    (zag t g b = false ∧ ¬ (b.length : Int) - (zR t g b (yL t g b)).pos < vS t g b ∧ ¬ t = 4 ∧ zbe t g s b = (⟨t,g,s,vS t g b,false,byL b (zR t g b (yL t g b)).pos (b.length - (zR t g b (yL t g b)).pos - max (vS t g b) 0),true,[],(zR t g b (yL t g b)).wt,(zR t g b (yL t g b)).pa,(zR t g b (yL t g b)).al,(zR t g b (yL t g b)).pr,(zR t g b (yL t g b)).la,(zR t g b (yL t g b)).co,(zR t g b (yL t g b)).sp⟩,0,0)):=by
  cases h : zag t g b with
  | true=>exact .inl ⟨rfl,by unfold zbe;rw [if_pos h]⟩
  | false=>
    have hn : ¬ zag t g b = true:=by rw [h];simp
    by_cases h2 : (b.length : Int) - (zR t g b (yL t g b)).pos < vS t g b
    · exact .inr (.inl ⟨rfl,h2,by unfold zbe;dsimp only;rw [if_neg hn,if_pos h2]⟩)
    · by_cases h4 : t = 4
      · exact .inr (.inr (.inl ⟨rfl,h2,h4,by unfold zbe;dsimp only;rw [if_neg hn,if_neg h2,if_pos h4]⟩))
      · exact .inr (.inr (.inr ⟨rfl,h2,h4,by unfold zbe;dsimp only;rw [if_neg hn,if_neg h2,if_neg h4]⟩))
set_option maxRecDepth 20000 in
set_option maxHeartbeats 40000000 in
theorem zAQ (w t g s : Int) (r f : Bool) (b : List UInt8) (hg0 : 0 ≤ g) (hg1 : g < 256) (hb : b.length ≤ 1000000000) : AEq Tryz.prog 56 [.ag [i64 w,i64 t,i64 g,i64 s,bl r,.sl f false (b.map zf)]] [] (.tu [.ag (fmA (zbe t g s b).1),.ag [i64 (zbe t g s b).2.1,i64 (zbe t g s b).2.2]]) []:=by
 have hgb:=vc b 1
 have hgb0:=hgb.1
 have hgb1:=hgb.2
 have hpp:=zbd b 0 1 (by decide) (by omega) (by decide)
 have hpp0:=hpp.1
 have hpp1:=hpp.2
 have hcs:=zbS t g s b
 rcases (show zB t g 8 = true ∨ zB t g 8 = false by cases zB t g 8<;>simp) with h8|h8
 ·have hA : yL t g b = yh b 0 1 := f_t h8
  have hp : vS t g b = zJ b 1:=f_t h8
  have hS : zag t g b = (shB b 0 1 || (zR t g b (yh b 0 1)).sh):=by unfold zag;rw [hA,h8];rfl
  have hmx : max (zJ b 1) 0 = zJ b 1:=by omega
  rw [hA,hp,hS,hmx] at hcs
  obtain ⟨hq0,hq1⟩:=zfC t g b (yh b 0 1) hpp0 hpp1
  generalize hn : zR t g b (yh b 0 1) = n at hcs hq0 hq1
  obtain ⟨wt,pa,al,pr,la,co,sp,sh,pos⟩:=n
  dsimp only at hcs hq0 hq1
  rcases hcs with ⟨e1,e⟩|⟨e1,e2,e⟩|⟨e1,e2,e3,e⟩|⟨e1,e2,e3,e⟩
  all_goals rw [e]
  all_goals dsimp only
  all_goals (refine zc Tryz.func56 rfl Tryz.ntmps56 (by simp) (fun hsc=>?_);simp only [Lf.enter,Nat.reduceAdd];clear hsc)
  all_goals (have hU:=And.intro @h8 ( And.intro @hn ( And.intro @e1 ( And.intro @Bool.false_or (@Int.zero_add)))))
  all_goals (repeat' (first|(refine goR ?_)|(guard_target =~ PWp _ _ _ _ _ _ _;refine zn (id:=13) [0,1,2,3,4,5,6,7,8,9,10,11,12,13,14,15,17,18,16] [13,18] mixed (by kernel_rfl) (by kernel_rfl) ?_)|(refine za (fun K hK=>?_))|(guard_target =~ PWp _ _ _ _ _ _ _;refine zG mixed (by kernel_rfl) ?_)|((refine zb (fun hcd=>?_) (fun hcd=>?_))<;>(try simp only [hcP] at hcd)<;>(try exact cdT))|(refine zd (f:=53) rfl Tryz.call53 (h:=AEq.pure' agT (ziD _ _) (hq:=?_)))|(refine zd (f:=97) rfl Tryz.call97 (h:=AEq.sub' [_,_,_] (hc:=zwa _ _ _ _ _ _ _ _ aoT aoT aoT aoT aoT) (hq:=?_)))|(refine zd (f:=99) rfl Tryz.call99 (h:=AEq.pure' agT (zdq _ _ _ aoT) (hq:=?_)))|(refine zd (f:=94) rfl Tryz.call94 (h:=AEq.pure' agT (zrW _ _ _ aoT aoT aoT) (hq:=?_)))|(refine zd (f:=95) rfl Tryz.call95 (h:=AEq.sub' [] (hc:=zep _ _ _ aoT) (hq:=?_)))|(refine zd (f:=55) rfl Tryz.call55 (h:=AEq.pure' agT (ziE _) (hq:=?_)))|(refine zd (f:=96) rfl Tryz.call96 (h:=AEq.sub' [_,_] (hc:=kt _ _ _ _ _ aoT aoT aoT aoT aoT) (hq:=?_)))|((refine zY [] exT (by rfl) (by rw [Tryz.results56];exact Lf.jP roT roT) sT sT (zu ?_ ?_) ?_)<;>(try (first|exact zh|exact stT)))|(guard_target =~ dg _ _ _ _ _ _ _;first|(guard_target =~ dg _ _ _ (⟨_,.call ⟨.value (.func 98),_,_⟩,_,_,_,none⟩ :: _) _ _ _;(refine yY (x:=_) (h:=zQ (h:=zd (f:=98) rfl Tryz.call98 (h:=AEq.sub' [_] (hc:=v9 _ _ _ aoT aoT) (hq:=zi ⟨rfl,rfl⟩)))) (hk:=?_))))|(guard_target =~ dw _ _ _ _ _ _ _ _ _ _;first|(guard_target =~ dw _ _ _ _ _ (8 :: _) _ _ _ _;(refine zlK rfl rfl (h:=zQ (h:=zd (f:=98) rfl Tryz.call98 (h:=AEq.sub' [_] (hc:=v9 _ _ _ aoT aoT) (hq:=zi ⟨rfl,rfl⟩)))) (hk:=?_)))|(guard_target =~ dw _ _ _ _ _ (11 :: _) _ _ _ _;(refine vK rfl rfl (h:=(fun τ=>zQ (h:=zd6 rfl sT sT lmT (zi ⟨rfl,rfl⟩)))) (hk:=?_)))|(guard_target =~ dw _ _ _ _ _ (13 :: _) _ _ _ _;(refine zaq rfl rfl (h:=zQ (h:=zd (f:=100) rfl Tryz.call100 (h:=AEq.sub' [_] (hc:=zmg _ _ _ _ aoT aoT aoT) (hq:=zi ⟨rfl,rfl⟩)))) (hk:=?_)))|(guard_target =~ dw _ _ _ _ _ (18 :: _) _ _ _ _;(refine kO rfl rfl (h:=zcT (h:=z0 rfl (hK:=zi ⟨rfl,rfl⟩))) (hk:=?_))))|(refine hK _ _ ?_;clear hK K)))
 ·have hA : yL t g b = 0 := f_f h8
  have hp : vS t g b = -1:=f_f h8
  have hS : zag t g b = (zR t g b 0).sh:=by unfold zag;rw [hA,h8];rfl
  rw [hA,hp,hS] at hcs
  obtain ⟨hq0,hq1⟩:=zfC t g b 0 (by decide) (by omega)
  generalize hn : zR t g b 0 = n at hcs hq0 hq1
  obtain ⟨wt,pa,al,pr,la,co,sp,sh,pos⟩:=n
  dsimp only at hcs hq0 hq1
  rcases hcs with ⟨e1,e⟩|⟨e1,e2,e⟩|⟨e1,e2,e3,e⟩|⟨e1,e2,e3,e⟩
  all_goals rw [e]
  all_goals dsimp only
  all_goals (refine zc Tryz.func56 rfl Tryz.ntmps56 (by simp) (fun hsc=>?_);simp only [Lf.enter,Nat.reduceAdd];clear hsc)
  all_goals (have hU:=And.intro @h8 ( And.intro @hn ( And.intro @e1 (@Bool.false_or))))
  all_goals (repeat' (first|(refine goR ?_)|(guard_target =~ PWp _ _ _ _ _ _ _;refine zn (id:=13) [0,1,2,3,4,5,6,7,8,9,10,11,12,13,14,15,17,18,16] [13,18] mixed (by kernel_rfl) (by kernel_rfl) ?_)|(refine za (fun K hK=>?_))|(guard_target =~ PWp _ _ _ _ _ _ _;refine zG mixed (by kernel_rfl) ?_)|((refine zb (fun hcd=>?_) (fun hcd=>?_))<;>(try simp only [hcP] at hcd)<;>(try exact cdT))|(refine zd (f:=53) rfl Tryz.call53 (h:=AEq.pure' agT (ziD _ _) (hq:=?_)))|(refine zd (f:=97) rfl Tryz.call97 (h:=AEq.sub' [_,_,_] (hc:=zwa _ _ _ _ _ _ _ _ aoT aoT aoT aoT aoT) (hq:=?_)))|(refine zd (f:=99) rfl Tryz.call99 (h:=AEq.pure' agT (zdq _ _ _ aoT) (hq:=?_)))|(refine zd (f:=94) rfl Tryz.call94 (h:=AEq.pure' agT (zrW _ _ _ aoT aoT aoT) (hq:=?_)))|(refine zd (f:=95) rfl Tryz.call95 (h:=AEq.sub' [] (hc:=zep _ _ _ aoT) (hq:=?_)))|(refine zd (f:=55) rfl Tryz.call55 (h:=AEq.pure' agT (ziE _) (hq:=?_)))|((refine zY [] exT (by rfl) (by rw [Tryz.results56];exact Lf.jP roT roT) sT sT (zu ?_ ?_) ?_)<;>(try (first|exact zh|exact stT)))|(guard_target =~ dg _ _ _ _ _ _ _;first|(guard_target =~ dg _ _ _ (⟨_,.call ⟨.value (.func 98),_,_⟩,_,_,_,none⟩ :: _) _ _ _;(refine yY (x:=_) (h:=zQ (h:=zd (f:=98) rfl Tryz.call98 (h:=AEq.sub' [_] (hc:=v9 _ _ _ aoT aoT) (hq:=zi ⟨rfl,rfl⟩)))) (hk:=?_))))|(guard_target =~ dw _ _ _ _ _ _ _ _ _ _;first|(guard_target =~ dw _ _ _ _ _ (8 :: _) _ _ _ _;(refine zlK rfl rfl (h:=zQ (h:=zd (f:=98) rfl Tryz.call98 (h:=AEq.sub' [_] (hc:=v9 _ _ _ aoT aoT) (hq:=zi ⟨rfl,rfl⟩)))) (hk:=?_)))|(guard_target =~ dw _ _ _ _ _ (11 :: _) _ _ _ _;(refine vK rfl rfl (h:=(fun τ=>zQ (h:=zd7 rfl sT sT lmT (zi ⟨rfl,rfl⟩)))) (hk:=?_)))|(guard_target =~ dw _ _ _ _ _ (13 :: _) _ _ _ _;(refine zaq rfl rfl (h:=zQ (h:=zd (f:=100) rfl Tryz.call100 (h:=AEq.sub' [_] (hc:=zmg _ _ _ _ aoT aoT aoT) (hq:=zi ⟨rfl,rfl⟩)))) (hk:=?_)))|(guard_target =~ dw _ _ _ _ _ (18 :: _) _ _ _ _;(refine kO rfl rfl (h:=zcT (h:=z0 rfl (hK:=zi ⟨rfl,rfl⟩))) (hk:=?_))))|(refine hK _ _ ?_;clear hK K)))
def yq (t g s : Int) (b : List UInt8) : Fm × Int × Int:=if vj t s = false then (fm0,2,1) else if vL t g b.length = false then (fm0,scI t,6) else zbe t g s b
theorem zgk (w t g s : Int) (r f : Bool) (b : List UInt8) (hb : b.length ≤ 1000000000) (ho : ¬ kK ⟨b.length,t,g,s,r⟩) : AEq Tryz.prog 18 [.ag [i64 w,i64 t,i64 g,i64 s,bl r,.sl f false (b.map zf)]] [] (.tu [.ag (fmA fm0),.ag [i64 0,i64 0],i64 1]) []:=by
 have hd : decide (kK ⟨b.length,t,g,s,r⟩) = false:=decide_eq_false ho
 refine zc Tryz.func18 rfl Tryz.ntmps18 (by simp) (fun hsc=>?_);simp only [Lf.enter,Nat.reduceAdd];clear hsc
 have hU:=@hd
 repeat' (first|(refine goR ?_)|(refine za (fun K hK=>?_))|((refine zb (fun hcd=>?_) (fun hcd=>?_))<;>(try simp only [hcP] at hcd)<;>(try exact cdT))|(refine zd (f:=50) rfl Tryz.call50 (h:=AEq.pure' agT (zmj _ _ _ _ _) (hq:=?_)))|(refine zd (f:=51) rfl Tryz.call51 (h:=AEq.pure' agT (hof _ _ _ _ _ _ _ (by omega)) (hq:=?_)))|((refine zY [] exT (by rfl) (by rw [Tryz.results18];exact Lf.zm0 roT roT roT) sT sT (zm1 ?_ ?_ ?_) ?_)<;>(try (first|exact zh|exact stT)))|(refine hK _ _ ?_;clear hK K))
 all_goals exact zA rfl
theorem ya (w t g s : Int) (r f : Bool) (b : List UInt8) (hb : b.length ≤ 1000000000) (ho : kK ⟨b.length,t,g,s,r⟩) : AEq Tryz.prog 18 [.ag [i64 w,i64 t,i64 g,i64 s,bl r,.sl f false (b.map zf)]] [] (.tu [.ag (fmA (yq t g s b).1),.ag [i64 (yq t g s b).2.1,i64 (yq t g s b).2.2],i64 0]) []:=by
 have hd : decide (kK ⟨b.length,t,g,s,r⟩) = true:=decide_eq_true ho
 obtain ⟨_,_,_,_,hg0,hg2,_,_⟩:=ho
 dsimp only at hg0 hg2
 have hg1 : g < 256:=by omega
 have key : (∃ a c,vj t s = a ∧ vL t g b.length = c):=⟨_,_,rfl,rfl⟩
 obtain ⟨a,c,h1,h2⟩:=key
 have e : yq t g s b = if a = false then (fm0,2,1) else if c = false then (fm0,scI t,6) else zbe t g s b:=by unfold yq;rw [h1,h2]
 cases a
 all_goals cases c
 all_goals rw [e]
 all_goals simp only [Bool.true_eq_false,if_true,if_false]
 all_goals (refine zc Tryz.func18 rfl Tryz.ntmps18 (by simp) (fun hsc=>?_);simp only [Lf.enter,Nat.reduceAdd];clear hsc)
 all_goals (have hU:=And.intro @hd ( And.intro @h1 (@h2)))
 all_goals (repeat' (first|(refine goR ?_)|(guard_target =~ PWp _ _ _ _ _ _ _;refine zn (id:=8) [0,2,1,3,4] [2,3] mixed (by kernel_rfl) (by kernel_rfl) ?_)|(refine za (fun K hK=>?_))|((refine zb (fun hcd=>?_) (fun hcd=>?_))<;>(try simp only [hcP] at hcd)<;>(try exact cdT))|(refine zd (f:=53) rfl Tryz.call53 (h:=AEq.pure' agT (ziD _ _) (hq:=?_)))|(refine zd (f:=50) rfl Tryz.call50 (h:=AEq.pure' agT (zmj _ _ _ _ _) (hq:=?_)))|(refine zd (f:=52) rfl Tryz.call52 (h:=AEq.pure' agT (ziF _ _ _ _ _ _ _) (hq:=?_)))|(refine zd (f:=54) rfl Tryz.call54 (h:=AEq.pure' agT (zr4 _ _ _ _ _ _ _ aoT aoT aoT) (hq:=?_)))|(refine zd (f:=56) rfl Tryz.call56 (h:=AEq.pure' agT (zAQ _ _ _ _ _ _ _ aoT aoT aoT) (hq:=?_)))|(refine zd (f:=55) rfl Tryz.call55 (h:=AEq.pure' agT (ziE _) (hq:=?_)))|(refine zd (f:=51) rfl Tryz.call51 (h:=AEq.pure' agT (hof _ _ _ _ _ _ _ aoT) (hq:=?_)))|((refine zY [] exT (by rfl) (by rw [Tryz.results18];exact Lf.zm0 roT roT roT) sT sT (zm1 ?_ ?_ ?_) ?_)<;>(try (first|exact zh|exact stT)))|(guard_target =~ dw _ _ _ _ _ _ _ _ _ _;first|((first|guard_target =~ dw _ _ _ _ _ (2 :: _) _ _ _ _|guard_target =~ dw _ _ _ _ _ (3 :: _) _ _ _ _);(refine kO rfl rfl (h:=zcT (h:=z0 rfl (hK:=zi ⟨rfl,rfl⟩))) (hk:=?_))))|(refine hK _ _ ?_;clear hK K)))
 all_goals exact zA rfl
end Go.Proofs.YtdalcgfnlbofdaaGreatDoor
