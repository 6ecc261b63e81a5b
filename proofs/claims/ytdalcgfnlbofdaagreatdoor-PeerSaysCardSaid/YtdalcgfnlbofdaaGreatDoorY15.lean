import Derived.Test.YtdalcgfnlbofdaaGreatDoorPg
import Derived.Test.YtdalcgfnlbofdaaGreatDoorY14
import Derived.Test.YtdalcgfnlbofdaaGreatDoorY11
import Derived.Test.YtdalcgfnlbofdaaGreatDoorPc
set_option linter.unusedVariables false
set_option linter.unusedSimpArgs false
namespace Go.Proofs.YtdalcgfnlbofdaaGreatDoor
open Go Go.Lf Go.Proofs
attribute [local irreducible] Lf.rg Lf.ro Lf.PWp Lf.SOp Lf.ACall Lf.Scoped Lf.dg Lf.dw
set_option maxRecDepth 20000
set_option maxHeartbeats 4000000
structure Fm where
 (t g s p : Int) (fd : Bool) (d : List UInt8) (fs : Bool) (st : List (Int × Int)) (wt pa : Int) (al : Bool) (pr la co sp : Int)
@[go_sem] def fmA (f : Fm) : List AV:=[i64 f.t,i64 f.g,i64 f.s,i64 f.p,.sl f.fd false (f.d.map zf),.sl f.fs false (f.st.map yq),i64 f.wt,i64 f.pa,bl f.al,i64 f.pr,i64 f.la,i64 f.co,i64 f.sp]
def fm0 : Fm:=⟨0,0,0,0,true,[],true,[],0,0,false,0,0,0,0⟩
def v3 (t g : Int) (b : List UInt8) : Int:=if zF t g 8 = true then zM b 1 else -1
theorem kH {t g : Int} (h0 : ¬ t = 0) (h1 : ¬ t = 1) (h5 : ¬ t = 5) : zF t g 8 = false:=by
 unfold zF kS
 rw [if_neg (by decide),if_neg (by decide),if_pos rfl,decide_eq_false (by omega)];rfl
theorem yB {t g : Int} (h1 : ¬ t = 1) : zF t g 32 = false:=by
 unfold zF kS
 rw [if_neg (by decide),if_neg (by decide),if_neg (by decide),if_pos rfl,decide_eq_false h1];rfl
theorem f_t {α : Type} {c : Bool} {x y : α} (h : c = true) : (if c = true then x else y) = x:=if_pos h
theorem f_f {α : Type} {c : Bool} {x y : α} (h : c = false) : (if c = true then x else y) = y:=if_neg (by rw [h];simp)
structure Nm where
 (wt pa : Int) (al : Bool) (pr la co sp : Int) (sh : Bool) (pos : Int)
def zY (t g : Int) (b : List UInt8) (a : Int) : Nm:=
 if t = 1 then (if zF 1 g 32 = true then ⟨zM (b.drop (yx b a 4).toNat) 1,yO (zM (b.drop a.toNat) 4),hiN (zM (b.drop a.toNat) 4),0,0,0,0,shB b a 5,yx b (yx b a 4) 1⟩ else ⟨0,0,false,0,0,0,0,false,a⟩)
 else if t = 2 then ⟨zM (b.drop (yx b a 4).toNat) 1,yO (zM (b.drop a.toNat) 4),hiN (zM (b.drop a.toNat) 4),0,0,0,0,shB b a 5,yx b (yx b a 4) 1⟩
 else if t = 3 then ⟨0,0,false,0,0,(zM (b.drop a.toNat) 4),0,shB b a 4,yx b a 4⟩
 else if t = 5 then ⟨0,0,false,yO (zM (b.drop a.toNat) 4),0,0,0,shB b a 4,yx b a 4⟩
 else if t = 7 then ⟨0,0,false,0,yO (zM (b.drop a.toNat) 4),zM (b.drop (yx b a 4).toNat) 4,0,shB b a 8,yx b (yx b a 4) 4⟩
 else if t = 8 then ⟨0,0,false,0,0,0,yO (zM (b.drop a.toNat) 4),shB b a 4,yx b a 4⟩
 else ⟨0,0,false,0,0,0,0,false,a⟩
theorem zfr (t g : Int) (b : List UInt8) (a : Int) (h0 : 0 ≤ a) (h1 : a ≤ b.length) : 0 ≤ (zY t g b a).pos ∧ (zY t g b a).pos ≤ b.length:=by
 obtain ⟨p0,p1⟩:=zbb b a 4 h0 h1 (by decide)
 unfold zY
 repeat' split
 all_goals first|exact zbb b _ _ p0 p1 (by decide)|exact ⟨p0,p1⟩|exact ⟨h0,h1⟩
theorem zuF (f : Bool) (b : List UInt8) (a : Int) (sh : Bool) (t : Int) (g s p : Int) (h0 : 0 ≤ a) (h1 : a ≤ b.length) (h2 : b.length ≤ 1000000000) (hg0 : 0 ≤ g) (hg1 : g < 256) : AEq Tryz.prog 97 [.ptr 1 0,.ptr 0 0] [.box [i64 t,i64 g,i64 s,i64 p,.sl true false [],.sl true false [],i64 0,i64 0,bl false,i64 0,i64 0,i64 0,i64 0],.box [.ptr 2 0,bl sh],.box [.sl f false (b.map zf),i64 a]] (.tu []) [.box [i64 t,i64 g,i64 s,i64 p,.sl true false [],.sl true false [],i64 (zY t g b a).wt,i64 (zY t g b a).pa,bl (zY t g b a).al,i64 (zY t g b a).pr,i64 (zY t g b a).la,i64 (zY t g b a).co,i64 (zY t g b a).sp],.box [.ptr 2 0,bl (sh || (zY t g b a).sh)],.box [.sl f false (b.map zf),i64 (zY t g b a).pos]]:=by
 by_cases c1 : t = 1
 ·subst c1
  rcases (show zF 1 g 32 = true ∨ zF 1 g 32 = false by cases zF 1 g 32<;>simp) with hH|hH
  ·rw [show zY 1 g b a = ⟨zM (b.drop (yx b a 4).toNat) 1, yO (zM (b.drop a.toNat) 4), hiN (zM (b.drop a.toNat) 4), 0, 0, 0, 0, shB b a 5, yx b (yx b a 4) 1⟩ from (if_pos rfl).trans (if_pos hH)]
   exact znw f b a sh g s p h0 h1 h2 hg0 hg1 hH
  ·rw [show zY 1 g b a = ⟨0, 0, false, 0, 0, 0, 0, false, a⟩ from (if_pos rfl).trans (if_neg (by rw [hH]; simp)), Bool.or_false]
   exact znx f b a sh g s p h0 h1 h2 hg0 hg1 hH
 by_cases c2 : t = 2
 ·subst c2;exact zrg f b a sh g s p h0 h1 h2 hg0 hg1
 by_cases c3 : t = 3
 ·subst c3;exact zrh f b a sh g s p h0 h1 h2 hg0 hg1
 by_cases c5 : t = 5
 ·subst c5;exact zri f b a sh g s p h0 h1 h2 hg0 hg1
 by_cases c7 : t = 7
 ·subst c7;exact zrj f b a sh g s p h0 h1 h2 hg0 hg1
 by_cases c8 : t = 8
 ·subst c8;exact zrk f b a sh g s p h0 h1 h2 hg0 hg1
 rw [show zY t g b a = ⟨0,0,false,0,0,0,0,false,a⟩ from by unfold zY;rw [if_neg c1,if_neg c2,if_neg c3,if_neg c5,if_neg c7,if_neg c8],Bool.or_false]
 exact zrl f b a sh t g s p h0 h1 h2 hg0 hg1 c1 c2 c3 c5 c7 c8
def yW (t g : Int) (b : List UInt8) : Int:=if zF t g 8 = true then yx b 0 1 else 0
def zam (t g : Int) (b : List UInt8) : Bool:=(zF t g 8 && shB b 0 1) || (zY t g b (yW t g b)).sh
def zbc (t g s : Int) (b : List UInt8) : Fm × Int × Int:=
 let n:=zY t g b (yW t g b)
 if zam t g b = true then (fm0,scI t,6)
 else if (b.length : Int) - n.pos < v3 t g b then (fm0,2,1)
 else if t = 4 then (⟨t,g,s,v3 t g b,true,[],false,zep b,n.wt,n.pa,n.al,n.pr,n.la,n.co,n.sp⟩,0,0)
 else (⟨t,g,s,v3 t g b,false,byL b n.pos (b.length - n.pos - max (v3 t g b) 0),true,[],n.wt,n.pa,n.al,n.pr,n.la,n.co,n.sp⟩,0,0)
theorem zbJ (t g s : Int) (b : List UInt8) :
    (zam t g b = true ∧ zbc t g s b = (fm0,scI t,6)) ∨
    (zam t g b = false ∧ (b.length : Int) - (zY t g b (yW t g b)).pos < v3 t g b ∧ zbc t g s b = (fm0,2,1)) ∨
    (zam t g b = false ∧ ¬ (b.length : Int) - (zY t g b (yW t g b)).pos < v3 t g b ∧ t = 4 ∧ zbc t g s b = (⟨t,g,s,v3 t g b,true,[],false,zep b,(zY t g b (yW t g b)).wt,(zY t g b (yW t g b)).pa,(zY t g b (yW t g b)).al,(zY t g b (yW t g b)).pr,(zY t g b (yW t g b)).la,(zY t g b (yW t g b)).co,(zY t g b (yW t g b)).sp⟩,0,0)) ∨
    (zam t g b = false ∧ ¬ (b.length : Int) - (zY t g b (yW t g b)).pos < v3 t g b ∧ ¬ t = 4 ∧ zbc t g s b = (⟨t,g,s,v3 t g b,false,byL b (zY t g b (yW t g b)).pos (b.length - (zY t g b (yW t g b)).pos - max (v3 t g b) 0),true,[],(zY t g b (yW t g b)).wt,(zY t g b (yW t g b)).pa,(zY t g b (yW t g b)).al,(zY t g b (yW t g b)).pr,(zY t g b (yW t g b)).la,(zY t g b (yW t g b)).co,(zY t g b (yW t g b)).sp⟩,0,0)):=by
  cases h : zam t g b with
  | true=>exact .inl ⟨rfl,by unfold zbc;rw [if_pos h]⟩
  | false=>
    have hn : ¬ zam t g b = true:=by rw [h];simp
    by_cases h2 : (b.length : Int) - (zY t g b (yW t g b)).pos < v3 t g b
    · exact .inr (.inl ⟨rfl,h2,by unfold zbc;dsimp only;rw [if_neg hn,if_pos h2]⟩)
    · by_cases h4 : t = 4
      · exact .inr (.inr (.inl ⟨rfl,h2,h4,by unfold zbc;dsimp only;rw [if_neg hn,if_neg h2,if_pos h4]⟩))
      · exact .inr (.inr (.inr ⟨rfl,h2,h4,by unfold zbc;dsimp only;rw [if_neg hn,if_neg h2,if_neg h4]⟩))
set_option maxRecDepth 20000 in
set_option maxHeartbeats 40000000 in
theorem zzt (w t g s : Int) (r f : Bool) (b : List UInt8) (hg0 : 0 ≤ g) (hg1 : g < 256) (hb : b.length ≤ 1000000000) : AEq Tryz.prog 56 [.ag [i64 w,i64 t,i64 g,i64 s,bl r,.sl f false (b.map zf)]] [] (.tu [.ag (fmA (zbc t g s b).1),.ag [i64 (zbc t g s b).2.1,i64 (zbc t g s b).2.2]]) []:=by
 have hgb:=vm b 1
 have hgb0:=hgb.1
 have hgb1:=hgb.2
 have hpp:=zbb b 0 1 (by decide) (by omega) (by decide)
 have hpp0:=hpp.1
 have hpp1:=hpp.2
 have hcs:=zbJ t g s b
 rcases (show zF t g 8 = true ∨ zF t g 8 = false by cases zF t g 8<;>simp) with h8|h8
 ·have hA : yW t g b = yx b 0 1 := f_t h8
  have hp : v3 t g b = zM b 1:=f_t h8
  have hS : zam t g b = (shB b 0 1 || (zY t g b (yx b 0 1)).sh):=by unfold zam;rw [hA,h8];rfl
  have hmx : max (zM b 1) 0 = zM b 1:=by omega
  rw [hA,hp,hS,hmx] at hcs
  obtain ⟨hq0,hq1⟩:=zfr t g b (yx b 0 1) hpp0 hpp1
  generalize hn : zY t g b (yx b 0 1) = n at hcs hq0 hq1
  obtain ⟨wt,pa,al,pr,la,co,sp,sh,pos⟩:=n
  dsimp only at hcs hq0 hq1
  rcases hcs with ⟨e1,e⟩|⟨e1,e2,e⟩|⟨e1,e2,e3,e⟩|⟨e1,e2,e3,e⟩
  all_goals rw [e]
  all_goals dsimp only
  all_goals (refine zc Tryz.func56 rfl Tryz.ntmps56 (by simp) (fun hsc=>?_);simp only [Lf.enter,Nat.reduceAdd];clear hsc)
  all_goals (have hU:=And.intro @h8 ( And.intro @hn ( And.intro @e1 ( And.intro @Bool.false_or (@Int.zero_add)))))
  all_goals (repeat' (first|(refine goR ?_)|(guard_target =~ PWp _ _ _ _ _ _ _;refine zp (id:=13) [0,1,2,3,4,5,6,7,8,9,10,11,12,13,14,15,17,18,16] [13,18] mixed (by kernel_rfl) (by kernel_rfl) ?_)|(refine za (fun K hK=>?_))|(guard_target =~ PWp _ _ _ _ _ _ _;refine zQ mixed (by kernel_rfl) ?_)|((refine zb (fun hcd=>?_) (fun hcd=>?_))<;>(try simp only [hcP] at hcd)<;>(try exact cdT))|(refine zd (f:=53) rfl Tryz.call53 (h:=AEq.pure' agT (zh4 _ _) (hq:=?_)))|(refine zd (f:=97) rfl Tryz.call97 (h:=AEq.sub' [_,_,_] (hc:=zuF _ _ _ _ _ _ _ _ aoT aoT aoT aoT aoT) (hq:=?_)))|(refine zd (f:=99) rfl Tryz.call99 (h:=AEq.pure' agT (zdk _ _ _ aoT) (hq:=?_)))|(refine zd (f:=94) rfl Tryz.call94 (h:=AEq.pure' agT (zre _ _ _ aoT aoT aoT) (hq:=?_)))|(refine zd (f:=95) rfl Tryz.call95 (h:=AEq.sub' [] (hc:=zeo _ _ _ aoT) (hq:=?_)))|(refine zd (f:=55) rfl Tryz.call55 (h:=AEq.pure' agT (zh5 _) (hq:=?_)))|(refine zd (f:=96) rfl Tryz.call96 (h:=AEq.sub' [_,_] (hc:=kF _ _ _ _ _ aoT aoT aoT aoT aoT) (hq:=?_)))|((refine yv [] exT (by rfl) (by rw [Tryz.results56];exact Lf.kp roT roT) sT sT (zA ?_ ?_) ?_)<;>(try (first|exact zi|exact stT)))|(guard_target =~ dg _ _ _ _ _ _ _;first|(guard_target =~ dg _ _ _ (⟨_,.call ⟨.value (.func 98),_,_⟩,_,_,_,none⟩ :: _) _ _ _;(refine ko (x:=_) (h:=yj (h:=zd (f:=98) rfl Tryz.call98 (h:=AEq.sub' [_] (hc:=kj _ _ _ aoT aoT) (hq:=ze ⟨rfl,rfl⟩)))) (hk:=?_))))|(guard_target =~ dw _ _ _ _ _ _ _ _ _ _;first|(guard_target =~ dw _ _ _ _ _ (8 :: _) _ _ _ _;(refine vX rfl rfl (h:=yj (h:=zd (f:=98) rfl Tryz.call98 (h:=AEq.sub' [_] (hc:=kj _ _ _ aoT aoT) (hq:=ze ⟨rfl,rfl⟩)))) (hk:=?_)))|(guard_target =~ dw _ _ _ _ _ (11 :: _) _ _ _ _;(refine z9 rfl rfl (h:=(fun τ=>yj (h:=j2 rfl sT sT lmT (ze ⟨rfl,rfl⟩)))) (hk:=?_)))|(guard_target =~ dw _ _ _ _ _ (13 :: _) _ _ _ _;(refine zaV rfl rfl (h:=yj (h:=zd (f:=100) rfl Tryz.call100 (h:=AEq.sub' [_] (hc:=zlx _ _ _ _ aoT aoT aoT) (hq:=ze ⟨rfl,rfl⟩)))) (hk:=?_)))|(guard_target =~ dw _ _ _ _ _ (18 :: _) _ _ _ _;(refine zbn rfl rfl (h:=ziN (h:=z6 rfl (hK:=ze ⟨rfl,rfl⟩))) (hk:=?_))))|(refine hK _ _ ?_;clear hK K)))
 ·have hA : yW t g b = 0 := f_f h8
  have hp : v3 t g b = -1:=f_f h8
  have hS : zam t g b = (zY t g b 0).sh:=by unfold zam;rw [hA,h8];rfl
  rw [hA,hp,hS] at hcs
  obtain ⟨hq0,hq1⟩:=zfr t g b 0 (by decide) (by omega)
  generalize hn : zY t g b 0 = n at hcs hq0 hq1
  obtain ⟨wt,pa,al,pr,la,co,sp,sh,pos⟩:=n
  dsimp only at hcs hq0 hq1
  rcases hcs with ⟨e1,e⟩|⟨e1,e2,e⟩|⟨e1,e2,e3,e⟩|⟨e1,e2,e3,e⟩
  all_goals rw [e]
  all_goals dsimp only
  all_goals (refine zc Tryz.func56 rfl Tryz.ntmps56 (by simp) (fun hsc=>?_);simp only [Lf.enter,Nat.reduceAdd];clear hsc)
  all_goals (have hU:=And.intro @h8 ( And.intro @hn ( And.intro @e1 (@Bool.false_or))))
  all_goals (repeat' (first|(refine goR ?_)|(guard_target =~ PWp _ _ _ _ _ _ _;refine zp (id:=13) [0,1,2,3,4,5,6,7,8,9,10,11,12,13,14,15,17,18,16] [13,18] mixed (by kernel_rfl) (by kernel_rfl) ?_)|(refine za (fun K hK=>?_))|(guard_target =~ PWp _ _ _ _ _ _ _;refine zQ mixed (by kernel_rfl) ?_)|((refine zb (fun hcd=>?_) (fun hcd=>?_))<;>(try simp only [hcP] at hcd)<;>(try exact cdT))|(refine zd (f:=53) rfl Tryz.call53 (h:=AEq.pure' agT (zh4 _ _) (hq:=?_)))|(refine zd (f:=97) rfl Tryz.call97 (h:=AEq.sub' [_,_,_] (hc:=zuF _ _ _ _ _ _ _ _ aoT aoT aoT aoT aoT) (hq:=?_)))|(refine zd (f:=99) rfl Tryz.call99 (h:=AEq.pure' agT (zdk _ _ _ aoT) (hq:=?_)))|(refine zd (f:=94) rfl Tryz.call94 (h:=AEq.pure' agT (zre _ _ _ aoT aoT aoT) (hq:=?_)))|(refine zd (f:=95) rfl Tryz.call95 (h:=AEq.sub' [] (hc:=zeo _ _ _ aoT) (hq:=?_)))|(refine zd (f:=55) rfl Tryz.call55 (h:=AEq.pure' agT (zh5 _) (hq:=?_)))|((refine yv [] exT (by rfl) (by rw [Tryz.results56];exact Lf.kp roT roT) sT sT (zA ?_ ?_) ?_)<;>(try (first|exact zi|exact stT)))|(guard_target =~ dg _ _ _ _ _ _ _;first|(guard_target =~ dg _ _ _ (⟨_,.call ⟨.value (.func 98),_,_⟩,_,_,_,none⟩ :: _) _ _ _;(refine ko (x:=_) (h:=yj (h:=zd (f:=98) rfl Tryz.call98 (h:=AEq.sub' [_] (hc:=kj _ _ _ aoT aoT) (hq:=ze ⟨rfl,rfl⟩)))) (hk:=?_))))|(guard_target =~ dw _ _ _ _ _ _ _ _ _ _;first|(guard_target =~ dw _ _ _ _ _ (8 :: _) _ _ _ _;(refine vX rfl rfl (h:=yj (h:=zd (f:=98) rfl Tryz.call98 (h:=AEq.sub' [_] (hc:=kj _ _ _ aoT aoT) (hq:=ze ⟨rfl,rfl⟩)))) (hk:=?_)))|(guard_target =~ dw _ _ _ _ _ (11 :: _) _ _ _ _;(refine z9 rfl rfl (h:=(fun τ=>yj (h:=zaX rfl sT sT lmT (ze ⟨rfl,rfl⟩)))) (hk:=?_)))|(guard_target =~ dw _ _ _ _ _ (13 :: _) _ _ _ _;(refine zaV rfl rfl (h:=yj (h:=zd (f:=100) rfl Tryz.call100 (h:=AEq.sub' [_] (hc:=zlx _ _ _ _ aoT aoT aoT) (hq:=ze ⟨rfl,rfl⟩)))) (hk:=?_)))|(guard_target =~ dw _ _ _ _ _ (18 :: _) _ _ _ _;(refine zbn rfl rfl (h:=ziN (h:=z6 rfl (hK:=ze ⟨rfl,rfl⟩))) (hk:=?_))))|(refine hK _ _ ?_;clear hK K)))
def ym (t g s : Int) (b : List UInt8) : Fm × Int × Int:=if vg t s = false then (fm0,2,1) else if vP t g b.length = false then (fm0,scI t,6) else zbc t g s b
theorem zbK (w t g s : Int) (r f : Bool) (b : List UInt8) (hb : b.length ≤ 1000000000) (ho : ¬ km ⟨b.length,t,g,s,r⟩) : AEq Tryz.prog 18 [.ag [i64 w,i64 t,i64 g,i64 s,bl r,.sl f false (b.map zf)]] [] (.tu [.ag (fmA fm0),.ag [i64 0,i64 0],i64 1]) []:=by
 have hd : decide (km ⟨b.length,t,g,s,r⟩) = false:=decide_eq_false ho
 refine zc Tryz.func18 rfl Tryz.ntmps18 (by simp) (fun hsc=>?_);simp only [Lf.enter,Nat.reduceAdd];clear hsc
 have hU:=@hd
 repeat' (first|(refine goR ?_)|(refine za (fun K hK=>?_))|((refine zb (fun hcd=>?_) (fun hcd=>?_))<;>(try simp only [hcP] at hcd)<;>(try exact cdT))|(refine zd (f:=50) rfl Tryz.call50 (h:=AEq.pure' agT (zly _ _ _ _ _) (hq:=?_)))|(refine zd (f:=51) rfl Tryz.call51 (h:=AEq.pure' agT (hof _ _ _ _ _ _ _ (by omega)) (hq:=?_)))|((refine yv [] exT (by rfl) (by rw [Tryz.results18];exact Lf.zpF roT roT roT) sT sT (zpH ?_ ?_ ?_) ?_)<;>(try (first|exact zi|exact stT)))|(refine hK _ _ ?_;clear hK K))
 all_goals exact yc rfl
theorem zW (w t g s : Int) (r f : Bool) (b : List UInt8) (hb : b.length ≤ 1000000000) (ho : km ⟨b.length,t,g,s,r⟩) : AEq Tryz.prog 18 [.ag [i64 w,i64 t,i64 g,i64 s,bl r,.sl f false (b.map zf)]] [] (.tu [.ag (fmA (ym t g s b).1),.ag [i64 (ym t g s b).2.1,i64 (ym t g s b).2.2],i64 0]) []:=by
 have hd : decide (km ⟨b.length,t,g,s,r⟩) = true:=decide_eq_true ho
 obtain ⟨_,_,_,_,hg0,hg2,_,_⟩:=ho
 dsimp only at hg0 hg2
 have hg1 : g < 256:=by omega
 have key : (∃ a c,vg t s = a ∧ vP t g b.length = c):=⟨_,_,rfl,rfl⟩
 obtain ⟨a,c,h1,h2⟩:=key
 have e : ym t g s b = if a = false then (fm0,2,1) else if c = false then (fm0,scI t,6) else zbc t g s b:=by unfold ym;rw [h1,h2]
 cases a
 all_goals cases c
 all_goals rw [e]
 all_goals simp only [Bool.true_eq_false,if_true,if_false]
 all_goals (refine zc Tryz.func18 rfl Tryz.ntmps18 (by simp) (fun hsc=>?_);simp only [Lf.enter,Nat.reduceAdd];clear hsc)
 all_goals (have hU:=And.intro @hd ( And.intro @h1 (@h2)))
 all_goals (repeat' (first|(refine goR ?_)|(guard_target =~ PWp _ _ _ _ _ _ _;refine zp (id:=8) [0,2,1,3,4] [2,3] mixed (by kernel_rfl) (by kernel_rfl) ?_)|(refine za (fun K hK=>?_))|((refine zb (fun hcd=>?_) (fun hcd=>?_))<;>(try simp only [hcP] at hcd)<;>(try exact cdT))|(refine zd (f:=53) rfl Tryz.call53 (h:=AEq.pure' agT (zh4 _ _) (hq:=?_)))|(refine zd (f:=50) rfl Tryz.call50 (h:=AEq.pure' agT (zly _ _ _ _ _) (hq:=?_)))|(refine zd (f:=52) rfl Tryz.call52 (h:=AEq.pure' agT (zh6 _ _ _ _ _ _ _) (hq:=?_)))|(refine zd (f:=54) rfl Tryz.call54 (h:=AEq.pure' agT (zrm _ _ _ _ _ _ _ aoT aoT aoT) (hq:=?_)))|(refine zd (f:=56) rfl Tryz.call56 (h:=AEq.pure' agT (zzt _ _ _ _ _ _ _ aoT aoT aoT) (hq:=?_)))|(refine zd (f:=55) rfl Tryz.call55 (h:=AEq.pure' agT (zh5 _) (hq:=?_)))|(refine zd (f:=51) rfl Tryz.call51 (h:=AEq.pure' agT (hof _ _ _ _ _ _ _ aoT) (hq:=?_)))|((refine yv [] exT (by rfl) (by rw [Tryz.results18];exact Lf.zpF roT roT roT) sT sT (zpH ?_ ?_ ?_) ?_)<;>(try (first|exact zi|exact stT)))|(guard_target =~ dw _ _ _ _ _ _ _ _ _ _;first|((first|guard_target =~ dw _ _ _ _ _ (2 :: _) _ _ _ _|guard_target =~ dw _ _ _ _ _ (3 :: _) _ _ _ _);(refine zbn rfl rfl (h:=ziN (h:=z6 rfl (hK:=ze ⟨rfl,rfl⟩))) (hk:=?_))))|(refine hK _ _ ?_;clear hK K)))
 all_goals exact yc rfl
theorem zlD {α : Type} {l : List α} {i : Nat} (h : i < l.length) : ∃ x,l[i]? = some x:=⟨l[i],List.getElem?_eq_getElem h⟩
theorem zkw {α : Type} {a b : List α} (hl : a.length = b.length) : (∀ i : Nat,i < a.length → a[i]? = b[i]?) → a = b:=by
 intro h
 apply List.ext_getElem?
 intro i
 by_cases hi : i < a.length
 ·exact h i hi
 ·rw [List.getElem?_eq_none (by omega),List.getElem?_eq_none (by omega)]
theorem zf8 {α : Type} {a b : List α} {i : Nat} {x y : α} (hx : a[i]? = some x) (hy : b[i]? = some y) (h : ∀ j : Nat,j < i → a[j]? = b[j]?) (e : x = y) : ∀ j : Nat,j < i + 1 → a[j]? = b[j]?:=by
 intro j hj
 by_cases hji : j < i
 ·exact h j hji
 ·obtain rfl : j = i := by omega
  rw [hx,hy,e]
theorem zh7 {α : Type} {a b : List α} {i : Nat} {x y : α} (hx : a[i]? = some x) (hy : b[i]? = some y) (e : ¬ x = y) : ¬ a = b:=by
 intro h
 subst h
 rw [hx] at hy
 exact e (Option.some.inj hy)
theorem zrn {x y : Int × Int} : x = y ↔ x.1 = y.1 ∧ x.2 = y.2:=by
 obtain ⟨a,b⟩:=x;obtain ⟨c,d⟩:=y;simp
theorem zkx (f g q r : Bool) (a b : List (Int × Int)) (ha : a.length ≤ 1000000) : AEq Tryz.prog 123 [.sl f q (a.map yq),.sl g r (b.map yq)] [] (bl (decide (a = b))) []:=by
 by_cases hl : a.length = b.length
 ·refine zc Tryz.func123 rfl Tryz.ntmps123 (by simp) (fun hsc => ?_); simp only [Lf.enter, Nat.reduceAdd]; clear hsc
  have hU:=True.intro
  repeat' (first|(refine goR ?_)|(refine za (fun K hK=>?_))|((refine zb (fun hcd=>?_) (fun hcd=>?_))<;>(try simp only [hcP] at hcd)<;>(try exact cdT))|(refine hK _ _ ?_;clear hK K))
  refine zz [4,5,13,14,15,16,17,18,19,20,21,22,23,24,25] (fun i : Nat=>[(13,i64 i)]) (fun _=>[]) (fun i=>i ≤ a.length ∧ ∀ j : Nat,j < i → a[j]? = b[j]?) (fun i=>a.length - i) 0 ⟨Nat.zero_le _,fun j hj=>by omega⟩ ?_ rfl ?_
  ·(refine ⟨⟨_,sT,?_⟩,trivial⟩<;>(try (first|exact zi)))
  ·rintro i ⟨hi, hk⟩
   simp only [vf,List.map_cons,List.map_nil,List.cons_append,List.nil_append]
   by_cases hlt : i < a.length
   ·obtain ⟨x, hx⟩ := zlD hlt
    obtain ⟨y,hy⟩:=zlD (l:=b) (i:=i) (by omega)
    by_cases hxy : x = y
    ·subst hxy
     repeat' (first|(refine goR ?_)|(refine za (fun K hK=>?_))|(guard_target =~ PWp _ _ _ _ _ _ _;refine zQ mixed (by kernel_rfl) ?_)|((refine zb (fun hcd=>?_) (fun hcd=>?_))<;>(try simp only [hcP] at hcd)<;>(try exact cdT))|(refine hK _ _ ?_;clear hK K)|(guard_target =~ dg _ _ _ _ _ _ _;first|(guard_target =~ dg _ _ _ (⟨_,.binOp _ _ _ _ _,_,_,_,none⟩ :: _) _ _ _;(refine ko (x:=_) (h:=yj (h:=zV (ne:=true) rfl (by first|exact kR|fail) (hc:=rfl) (hK:=ze ⟨rfl,rfl⟩))) (hk:=?_)))|(guard_target =~ dg _ _ _ (⟨_,.indexAddr _ _ _,_,_,_,none⟩ :: _) _ _ _;(refine ko (x:=_) (h:=yj (h:=vh rfl (hK:=ze ⟨rfl,rfl⟩))) (hk:=?_))))|(rw [if_pos rfl]))
     refine ⟨i + 1,⟨by omega,zf8 hx hy hk rfl⟩,by omega,?_,arT,srT⟩
     (refine ⟨⟨_,sT,?_⟩,trivial⟩<;>(try (first|exact zi)))
    ·have hne := zh7 hx hy hxy
     rw [zrn] at hxy
     repeat' (first|(refine goR ?_)|(refine za (fun K hK=>?_))|(guard_target =~ PWp _ _ _ _ _ _ _;refine zQ mixed (by kernel_rfl) ?_)|((refine zb (fun hcd=>?_) (fun hcd=>?_))<;>(try simp only [hcP] at hcd)<;>(try exact cdT))|((refine zh [] (by rw [Tryz.results123,Lf.zy]) (zj ?_) ?_)<;>(try (first|exact zi|exact stT)))|(guard_target =~ dg _ _ _ _ _ _ _;first|(guard_target =~ dg _ _ _ (⟨_,.binOp _ _ _ _ _,_,_,_,none⟩ :: _) _ _ _;(refine ko (x:=_) (h:=yj (h:=zV (ne:=true) rfl (by first|exact kR|fail) (hc:=rfl) (hK:=ze ⟨rfl,rfl⟩))) (hk:=?_)))|(guard_target =~ dg _ _ _ (⟨_,.indexAddr _ _ _,_,_,_,none⟩ :: _) _ _ _;(refine ko (x:=_) (h:=yj (h:=vh rfl (hK:=ze ⟨rfl,rfl⟩))) (hk:=?_))))|(refine hK _ _ ?_;clear hK K))
     all_goals exact zt (by symm;rw [decide_eq_false_iff_not];exact hne)
   ·have he : a = b := zkw hl (fun j hj => hk j (by omega))
    repeat' (first|(refine goR ?_)|(refine za (fun K hK=>?_))|((refine zb (fun hcd=>?_) (fun hcd=>?_))<;>(try simp only [hcP] at hcd)<;>(try exact cdT))|((refine zh [] (by rw [Tryz.results123,Lf.zy]) (zj ?_) ?_)<;>(try (first|exact zi|exact stT)))|(refine hK _ _ ?_;clear hK K)|(apply_assumption (exfalso:=false) (symm:=false)))
    exact zt (by symm;rw [decide_eq_true_eq];exact he)
 ·have hne : ¬ a = b := fun e => hl (by rw [e])
  refine zc Tryz.func123 rfl Tryz.ntmps123 (by simp) (fun hsc=>?_);simp only [Lf.enter,Nat.reduceAdd];clear hsc
  have hU:=True.intro
  repeat' (first|(refine goR ?_)|(refine za (fun K hK=>?_))|((refine zb (fun hcd=>?_) (fun hcd=>?_))<;>(try simp only [hcP] at hcd)<;>(try exact cdT))|((refine zh [] (by rw [Tryz.results123,Lf.zy]) (zj ?_) ?_)<;>(try (first|exact zi|exact stT)))|(refine hK _ _ ?_;clear hK K))
  exact zt (by symm;rw [decide_eq_false_iff_not];exact hne)
structure Gm where
 (t g s p : Int) (d : List UInt8) (st : List (Int × Int)) (wt pa : Int) (al : Bool) (pr la co sp : Int)
deriving DecidableEq
theorem zlE (t g s p : Int) (fd : Bool) (d : List UInt8) (fs : Bool) (e : List (Int × Int)) (wt pa : Int) (al : Bool) (pr la co sp : Int) (t' g' s' p' : Int) (fd' : Bool) (d' : List UInt8) (fs' : Bool) (e' : List (Int × Int)) (wt' pa' : Int) (al' : Bool) (pr' la' co' sp' : Int) (hd : d.length ≤ 1000000000) (he : e.length ≤ 1000000) : AEq Tryz.prog 70 [.ag [i64 t,i64 g,i64 s,i64 p,.sl fd false (d.map zf),.sl fs false (e.map yq),i64 wt,i64 pa,bl al,i64 pr,i64 la,i64 co,i64 sp],.ag [i64 t',i64 g',i64 s',i64 p',.sl fd' false (d'.map zf),.sl fs' false (e'.map yq),i64 wt',i64 pa',bl al',i64 pr',i64 la',i64 co',i64 sp']] [] (bl (decide ((⟨t,g,s,p,d,e,wt,pa,al,pr,la,co,sp⟩ : Gm) = (⟨t',g',s',p',d',e',wt',pa',al',pr',la',co',sp'⟩ : Gm)))) []:=by
 refine zc Tryz.func70 rfl Tryz.ntmps70 (by simp) (fun hsc=>?_);simp only [Lf.enter,Nat.reduceAdd];clear hsc
 have hU:=True.intro
 repeat' (first|(refine goR ?_)|(refine za (fun K hK=>?_))|((refine zb (fun hcd=>?_) (fun hcd=>?_))<;>(try simp only [hcP] at hcd)<;>(try exact cdT))|(guard_target =~ rg _ _ _ (⟨_,_,_,_,_,some _⟩ :: _) _ _ _;(first|refine zH gT (fun hcd=>?_) (fun hcd=>?_)|refine zw gT (fun hcd=>?_) (fun hcd=>?_))<;>(try simp only [hcd])<;>(try (simp only [Bool.not_eq_true',Bool.not_eq_false'] at hcd;try simp only [hcd]))<;>(refine ku (Γ2:=_) ewT ?_)<;>(try simp only [hcP] at hcd)<;>(try exact cdT))|(guard_target =~ SOp _ _ ⟨_,.binOp _ _ _ _ _,_,_,_,none⟩ _ _ _;refine zV (ne:=false) rfl (by first|exact jn|exact kR|exact zp5|fail) (hc:=rfl) (hK:=?_))|(refine zd (f:=122) rfl Tryz.call122 (h:=AEq.pure' agT (zfm _ _ _ _ _ _) (hq:=?_)))|(refine zd (f:=123) rfl Tryz.call123 (h:=AEq.pure' agT (zkx _ _ _ _ _ _ (by assumption)) (hq:=?_)))|(guard_target =~ SOp _ _ ⟨_,.binOp _ _ _ _ _,_,_,_,some _⟩ _ _ _;refine zV (ne:=false) rfl (by first|exact jn|exact kR|exact zp5|fail) (hc:=rfl) (hK:=?_))|((refine zh [] (by rw [Tryz.results70,Lf.zy]) (zj ?_) ?_)<;>(try (first|exact zi|exact stT)))|(refine hK _ _ ?_;clear hK K))
 all_goals first|exact zt (by grind)|trace_state
theorem zny (t g s p : Int) (fd : Bool) (d : List UInt8) (fs : Bool) (e : List (Int × Int)) (wt pa : Int) (al : Bool) (pr la co sp : Int) (t' g' s' p' : Int) (fd' : Bool) (d' : List UInt8) (fs' : Bool) (e' : List (Int × Int)) (wt' pa' : Int) (al' : Bool) (pr' la' co' sp' : Int) (hd : d.length ≤ 1000000000) (he : e.length ≤ 1000000) : AEq Tryz.prog 72 [.ag [i64 t,i64 g,i64 s,i64 p,.sl fd false (d.map zf),.sl fs false (e.map yq),i64 wt,i64 pa,bl al,i64 pr,i64 la,i64 co,i64 sp],.ag [i64 t',i64 g',i64 s',i64 p',.sl fd' false (d'.map zf),.sl fs' false (e'.map yq),i64 wt',i64 pa',bl al',i64 pr',i64 la',i64 co',i64 sp']] [] (bl (decide ((⟨t,g,s,p,d,e,wt,pa,al,pr,la,co,sp⟩ : Gm) = (⟨t',g',s',p',d',e',wt',pa',al',pr',la',co',sp'⟩ : Gm)))) []:=by
 refine zc Tryz.func72 rfl Tryz.ntmps72 (by simp) (fun hsc=>?_);simp only [Lf.enter,Nat.reduceAdd];clear hsc
 have hU:=True.intro
 repeat' (first|(refine goR ?_)|(refine za (fun K hK=>?_))|(refine hK _ _ ?_;clear hK K))
 all_goals simp only [List.append_eq,List.cons_append,List.nil_append]
 repeat' (first|(refine goR ?_)|(guard_target =~ rg _ _ _ (⟨_,_,_,_,_,some _⟩ :: _) _ _ _;(first|refine zH gT (fun hcd=>?_) (fun hcd=>?_)|refine zw gT (fun hcd=>?_) (fun hcd=>?_))<;>(try simp only [hcd])<;>(try (simp only [Bool.not_eq_true',Bool.not_eq_false'] at hcd;try simp only [hcd]))<;>(refine ku (Γ2:=_) ewT ?_)<;>(try simp only [hcP] at hcd)<;>(try exact cdT))|(refine zd (f:=75) rfl Tryz.call75 (h:=AEq.pure' agT (zg5 _ _ _ _ _ _ (by omega)) (hq:=?_)))|(refine zd (f:=124) rfl Tryz.call124 (h:=AEq.pure' agT (zhS _ _ _ _ _ _ (by omega)) (hq:=?_)))|((refine zh [] (by rw [Tryz.results72,Lf.zy]) (zj ?_) ?_)<;>(try (first|exact zi|exact stT)))|(refine hK _ _ ?_;clear hK K))
 all_goals first|exact zt (by grind)|trace_state
end Go.Proofs.YtdalcgfnlbofdaaGreatDoor
