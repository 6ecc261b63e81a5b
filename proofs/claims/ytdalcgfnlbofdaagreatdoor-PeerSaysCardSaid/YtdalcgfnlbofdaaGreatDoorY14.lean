import Derived.Test.YtdalcgfnlbofdaaGreatDoorPg
import Derived.Test.YtdalcgfnlbofdaaGreatDoorY13
import Derived.Test.YtdalcgfnlbofdaaGreatDoorY12
import Derived.Test.YtdalcgfnlbofdaaGreatDoorY01
import Derived.Test.YtdalcgfnlbofdaaGreatDoorPc
set_option linter.unusedVariables false
set_option linter.unusedSimpArgs false
namespace Go.Proofs.YtdalcgfnlbofdaaGreatDoor
open Go Go.Lf Go.Proofs
attribute [local irreducible] Lf.rg Lf.ro Lf.PWp Lf.SOp Lf.ACall Lf.Scoped Lf.dg Lf.dw
set_option maxRecDepth 20000
set_option maxHeartbeats 4000000
def hiN (m : Int) : Bool:=decide (2147483648 ≤ m)
def yx (b : List UInt8) (a n : Int) : Int:=if a + n ≤ b.length then a + n else a
def shB (b : List UInt8) (a n : Int) : Bool:=decide ((b.length : Int) < a + n)
theorem zbb (b : List UInt8) (a n : Int) (h0 : 0 ≤ a) (h1 : a ≤ b.length) (hn : 0 ≤ n) : 0 ≤ yx b a n ∧ yx b a n ≤ b.length:=by
 unfold yx;split<;>omega
theorem yC {b : List UInt8} {a n : Int} (h : a + n ≤ b.length) : yx b a n = a + n:=if_pos h
theorem zbq {b : List UInt8} {a n : Int} (h : (b.length : Int) < a + n) : shB b a n = true:=decide_eq_true h
theorem kU {b : List UInt8} {a n : Int} (h : ¬ (b.length : Int) < a + n) : shB b a n = false:=decide_eq_false h
theorem zh3 {b : List UInt8} {a n : Int} (h0 : 0 ≤ a) (h1 : a ≤ b.length) (hn1 : 1 ≤ n) (hn4 : n ≤ 4) : zaf (b.drop a.toNat) n = if (b.length : Int) < a + n then 3 else 0:=by
 have hl : ((b.drop a.toNat).length : Int) = b.length - a:=by rw [List.length_drop];omega
 unfold zaf
 rw [if_neg (by rw [yr ⟨hn1,hn4⟩];simp),hl]
 by_cases h : (b.length : Int) < a + n
 ·rw [if_pos (by omega),if_pos h]
 ·rw [if_neg (by omega),if_neg h]
theorem zkv {b : List UInt8} {a n : Int} (h0 : 0 ≤ a) (h1 : a ≤ b.length) (hn1 : 1 ≤ n) (hn4 : n ≤ 4) : zkq b a n = yx b a n:=by
 unfold zkq yx
 rw [zh3 h0 h1 hn1 hn4]
 by_cases h : (b.length : Int) < a + n
 ·rw [if_pos h,if_neg (by decide),if_neg (by omega)]
 ·rw [if_neg h,if_pos rfl,if_pos (by omega)]
theorem zlC {b : List UInt8} {a n m : Int} {sh : Bool} (hn : 0 < n) (hm : 0 < m) : ((sh || shB b a n) || shB b (yx b a n) m) = (sh || shB b a (n + m)):=by
 rw [Bool.or_assoc]
 congr 1
 by_cases h : a + n ≤ b.length
 ·rw [yC h, kU (by omega), Bool.false_or]
  unfold shB
  rw [show a + n + m = a + (n + m) from by omega]
 ·rw [zbq (by omega),Bool.true_or,zbq (by omega)]
theorem znu (n : Int) (h0 : 0 ≤ n) (h1 : n < 4294967296) : AEq Tryz.prog 185 [i64 n] [] (.tu [i64 (yO n),bl (hiN n)]) []:=by
 by_cases h : n < 2147483648
 ·rw [show yO n = n from if_pos h,show hiN n = false from decide_eq_false (by omega)];exact zhP n h0 h
 ·rw [show yO n = n - 2147483648 from if_neg h,show hiN n = true from decide_eq_true (by omega)];exact zhQ n (by omega) h1
theorem znv (n : Int) (h0 : 0 ≤ n) (h1 : n < 4294967296) : AEq Tryz.prog 160 [i64 n] [] (.tu [i64 (yO n),bl (hiN n)]) []:=by
 by_cases h : n < 2147483648
 ·rw [show yO n = n from if_pos h,show hiN n = false from decide_eq_false (by omega)];exact znp n h0 h
 ·rw [show yO n = n - 2147483648 from if_neg h,show hiN n = true from decide_eq_true (by omega)];exact znq n (by omega) h1
theorem kF (f : Bool) (b : List UInt8) (a n : Int) (sh : Bool) (h0 : 0 ≤ a) (h1 : a ≤ b.length) (hn1 : 1 ≤ n) (hn4 : n ≤ 4) (h2 : b.length ≤ 1000000000) : AEq Tryz.prog 96 [.ptr 0 0,i64 n] [.box [.ptr 1 0,bl sh],.box [.sl f false (b.map zf),i64 a]] (i64 (zM (b.drop a.toNat) n)) [.box [.ptr 1 0,bl (sh || shB b a n)],.box [.sl f false (b.map zf),i64 (yx b a n)]]:=by
 have hc:=zkv h0 h1 hn1 hn4
 have hE:=zh3 h0 h1 hn1 hn4
 by_cases h : (b.length : Int) < a + n
 ·rw [if_pos h] at hE
  have hs:=zbq h
  cases sh with
  | true=>
   refine zc Tryz.func96 rfl Tryz.ntmps96 (by simp) (fun hsc=>?_);simp only [Lf.enter,Nat.reduceAdd];clear hsc
   have hU:=And.intro @hc ( And.intro @hE ( And.intro @hs ( And.intro @Bool.or_true (@Bool.true_or))))
   repeat' (first|(refine goR ?_)|(refine za (fun K hK=>?_))|(refine zd (f:=144) rfl Tryz.call144 (h:=AEq.sub' [_] (hc:=za7 _ _ _ _ aoT aoT aoT) (hq:=?_)))|((refine zh [0,1] (by rw [Tryz.results96,Lf.zy]) (zj ?_) ?_)<;>(try (first|exact zi|exact stT)))|(refine hK _ _ ?_;clear hK K))
  | false=>
   refine zc Tryz.func96 rfl Tryz.ntmps96 (by simp) (fun hsc=>?_);simp only [Lf.enter,Nat.reduceAdd];clear hsc
   have hU:=And.intro @hc ( And.intro @hE ( And.intro @hs ( And.intro @Bool.or_true (@Bool.true_or))))
   repeat' (first|(refine goR ?_)|(refine za (fun K hK=>?_))|(refine zd (f:=144) rfl Tryz.call144 (h:=AEq.sub' [_] (hc:=za7 _ _ _ _ aoT aoT aoT) (hq:=?_)))|((refine zh [0,1] (by rw [Tryz.results96,Lf.zy]) (zj ?_) ?_)<;>(try (first|exact zi|exact stT)))|(refine hK _ _ ?_;clear hK K))
 ·rw [if_neg h] at hE
  have hs:=kU h
  cases sh with
  | true=>
   refine zc Tryz.func96 rfl Tryz.ntmps96 (by simp) (fun hsc=>?_);simp only [Lf.enter,Nat.reduceAdd];clear hsc
   have hU:=And.intro @hc ( And.intro @hE ( And.intro @hs ( And.intro @Bool.or_true (@Bool.true_or))))
   repeat' (first|(refine goR ?_)|(refine za (fun K hK=>?_))|(refine zd (f:=144) rfl Tryz.call144 (h:=AEq.sub' [_] (hc:=za7 _ _ _ _ aoT aoT aoT) (hq:=?_)))|((refine zh [0,1] (by rw [Tryz.results96,Lf.zy]) (zj ?_) ?_)<;>(try (first|exact zi|exact stT)))|(refine hK _ _ ?_;clear hK K))
  | false=>
   refine zc Tryz.func96 rfl Tryz.ntmps96 (by simp) (fun hsc=>?_);simp only [Lf.enter,Nat.reduceAdd];clear hsc
   have hU:=And.intro @hc ( And.intro @hE ( And.intro @hs ( And.intro @Bool.or_false (@Bool.false_or))))
   repeat' (first|(refine goR ?_)|(refine za (fun K hK=>?_))|(refine zd (f:=144) rfl Tryz.call144 (h:=AEq.sub' [_] (hc:=za7 _ _ _ _ aoT aoT aoT) (hq:=?_)))|((refine zh [0,1] (by rw [Tryz.results96,Lf.zy]) (zj ?_) ?_)<;>(try (first|exact zi|exact stT)))|(refine hK _ _ ?_;clear hK K))
theorem zfq (f : Bool) (b : List UInt8) (a : Int) (sh : Bool) (h0 : 0 ≤ a) (h1 : a ≤ b.length) (h2 : b.length ≤ 1000000000) : AEq Tryz.prog 146 [.ptr 0 0] [.box [.ptr 1 0,bl sh],.box [.sl f false (b.map zf),i64 a]] (.tu [i64 (yO (zM (b.drop a.toNat) 4)),bl (hiN (zM (b.drop a.toNat) 4))]) [.box [.ptr 1 0,bl (sh || shB b a 4)],.box [.sl f false (b.map zf),i64 (yx b a 4)]]:=by
 have hg:=vm (b.drop a.toNat) 4
 have hg1:=hg.1
 have hg2:=hg.2
 refine zc Tryz.func146 rfl Tryz.ntmps146 (by simp) (fun hsc=>?_);simp only [Lf.enter,Nat.reduceAdd];clear hsc
 have hU:=True.intro
 repeat' (first|(refine goR ?_)|(refine za (fun K hK=>?_))|(refine zd (f:=185) rfl Tryz.call185 (h:=AEq.pure' agT (znu _ aoT aoT) (hq:=?_)))|(refine zd (f:=96) rfl Tryz.call96 (h:=AEq.sub' [_,_] (hc:=kF _ _ _ _ _ aoT aoT aoT aoT aoT) (hq:=?_)))|((refine zh [0,1] (by rw [Tryz.results146,Lf.yE]) (zA ?_ ?_) ?_)<;>(try (first|exact zi|exact stT)))|(refine hK _ _ ?_;clear hK K))
theorem zbI (f : Bool) (b : List UInt8) (a : Int) (sh : Bool) (t g s p : Int) (h0 : 0 ≤ a) (h1 : a ≤ b.length) (h2 : b.length ≤ 1000000000) : AEq Tryz.prog 145 [.ptr 1 0,.ptr 0 0] [.box [i64 t,i64 g,i64 s,i64 p,.sl true false [],.sl true false [],i64 0,i64 0,bl false,i64 0,i64 0,i64 0,i64 0],.box [.ptr 2 0,bl sh],.box [.sl f false (b.map zf),i64 a]] (.tu []) [.box [i64 t,i64 g,i64 s,i64 p,.sl true false [],.sl true false [],i64 (zM (b.drop (yx b a 4).toNat) 1),i64 (yO (zM (b.drop a.toNat) 4)),bl (hiN (zM (b.drop a.toNat) 4)),i64 0,i64 0,i64 0,i64 0],.box [.ptr 2 0,bl (sh || shB b a 5)],.box [.sl f false (b.map zf),i64 (yx b (yx b a 4) 1)]]:=by
 have hp:=zbb b a 4 h0 h1 (by decide)
 have hp1:=hp.1
 have hp2:=hp.2
 have hs:=zlC (b:=b) (a:=a) (n:=4) (m:=1) (sh:=sh) (by decide) (by decide)
 rw [show (4 : Int) + 1 = 5 from rfl] at hs
 refine zc Tryz.func145 rfl Tryz.ntmps145 (by simp) (fun hsc=>?_);simp only [Lf.enter,Nat.reduceAdd];clear hsc
 have hU:=@hs
 repeat' (first|(refine goR ?_)|(refine za (fun K hK=>?_))|(refine zd (f:=96) rfl Tryz.call96 (h:=AEq.sub' [_,_] (hc:=kF _ _ _ _ _ aoT aoT aoT aoT aoT) (hq:=?_)))|(refine zd (f:=146) rfl Tryz.call146 (h:=AEq.sub' [_,_] (hc:=zfq _ _ _ _ aoT aoT aoT) (hq:=?_)))|((refine zh [0,1,2] (by rw [Tryz.results145,Lf.vW]) yk ?_)<;>(try (first|exact zi|exact stT)))|(refine hK _ _ ?_;clear hK K))
theorem znw (f : Bool) (b : List UInt8) (a : Int) (sh : Bool) (g s p : Int) (h0 : 0 ≤ a) (h1 : a ≤ b.length) (h2 : b.length ≤ 1000000000) (hg0 : 0 ≤ g) (hg1 : g < 256) (hH : zF 1 g 32 = true) : AEq Tryz.prog 97 [.ptr 1 0,.ptr 0 0] [.box [i64 1,i64 g,i64 s,i64 p,.sl true false [],.sl true false [],i64 0,i64 0,bl false,i64 0,i64 0,i64 0,i64 0],.box [.ptr 2 0,bl sh],.box [.sl f false (b.map zf),i64 a]] (.tu []) [.box [i64 1,i64 g,i64 s,i64 p,.sl true false [],.sl true false [],i64 (zM (b.drop (yx b a 4).toNat) 1),i64 (yO (zM (b.drop a.toNat) 4)),bl (hiN (zM (b.drop a.toNat) 4)),i64 0,i64 0,i64 0,i64 0],.box [.ptr 2 0,bl (sh || shB b a 5)],.box [.sl f false (b.map zf),i64 (yx b (yx b a 4) 1)]]:=by
 refine zc Tryz.func97 rfl Tryz.ntmps97 (by simp) (fun hsc=>?_);simp only [Lf.enter,Nat.reduceAdd];clear hsc
 have hU:=@hH
 repeat' (first|(refine goR ?_)|(refine za (fun K hK=>?_))|(guard_target =~ PWp _ _ _ _ _ _ _;refine zQ mixed (by kernel_rfl) ?_)|((refine zb (fun hcd=>?_) (fun hcd=>?_))<;>(try simp only [hcP] at hcd)<;>(try exact cdT))|(refine zd (f:=145) rfl Tryz.call145 (h:=AEq.sub' [_,_,_] (hc:=zbI _ _ _ _ _ _ _ _ aoT aoT aoT) (hq:=?_)))|((refine zh [0,1,2] (by rw [Tryz.results97,Lf.vW]) yk ?_)<;>(try (first|exact zi|exact stT)))|(guard_target =~ dg _ _ _ _ _ _ _;first|(guard_target =~ dg _ _ _ (⟨_,.call ⟨.value (.func 94),_,_⟩,_,_,_,none⟩ :: _) _ _ _;(refine ko (x:=_) (h:=yj (h:=zd (f:=94) rfl Tryz.call94 (h:=AEq.pure' agT (zlB _ _ _ aoT aoT aoT) (hq:=ze ⟨rfl,rfl⟩)))) (hk:=?_))))|(refine hK _ _ ?_;clear hK K))
theorem znx (f : Bool) (b : List UInt8) (a : Int) (sh : Bool) (g s p : Int) (h0 : 0 ≤ a) (h1 : a ≤ b.length) (h2 : b.length ≤ 1000000000) (hg0 : 0 ≤ g) (hg1 : g < 256) (hH : zF 1 g 32 = false) : AEq Tryz.prog 97 [.ptr 1 0,.ptr 0 0] [.box [i64 1,i64 g,i64 s,i64 p,.sl true false [],.sl true false [],i64 0,i64 0,bl false,i64 0,i64 0,i64 0,i64 0],.box [.ptr 2 0,bl sh],.box [.sl f false (b.map zf),i64 a]] (.tu []) [.box [i64 1,i64 g,i64 s,i64 p,.sl true false [],.sl true false [],i64 0,i64 0,bl false,i64 0,i64 0,i64 0,i64 0],.box [.ptr 2 0,bl sh],.box [.sl f false (b.map zf),i64 (a)]]:=by
 refine zc Tryz.func97 rfl Tryz.ntmps97 (by simp) (fun hsc=>?_);simp only [Lf.enter,Nat.reduceAdd];clear hsc
 have hU:=@hH
 repeat' (first|(refine goR ?_)|(refine za (fun K hK=>?_))|(guard_target =~ PWp _ _ _ _ _ _ _;refine zQ mixed (by kernel_rfl) ?_)|((refine zb (fun hcd=>?_) (fun hcd=>?_))<;>(try simp only [hcP] at hcd)<;>(try exact cdT))|((refine zh [0,1,2] (by rw [Tryz.results97,Lf.vW]) yk ?_)<;>(try (first|exact zi|exact stT)))|(guard_target =~ dg _ _ _ _ _ _ _;first|(guard_target =~ dg _ _ _ (⟨_,.call ⟨.value (.func 94),_,_⟩,_,_,_,none⟩ :: _) _ _ _;(refine ko (x:=_) (h:=yj (h:=zd (f:=94) rfl Tryz.call94 (h:=AEq.pure' agT (zlB _ _ _ aoT aoT aoT) (hq:=ze ⟨rfl,rfl⟩)))) (hk:=?_))))|(refine hK _ _ ?_;clear hK K))
theorem zrg (f : Bool) (b : List UInt8) (a : Int) (sh : Bool) (g s p : Int) (h0 : 0 ≤ a) (h1 : a ≤ b.length) (h2 : b.length ≤ 1000000000) (hg0 : 0 ≤ g) (hg1 : g < 256) : AEq Tryz.prog 97 [.ptr 1 0,.ptr 0 0] [.box [i64 2,i64 g,i64 s,i64 p,.sl true false [],.sl true false [],i64 0,i64 0,bl false,i64 0,i64 0,i64 0,i64 0],.box [.ptr 2 0,bl sh],.box [.sl f false (b.map zf),i64 a]] (.tu []) [.box [i64 2,i64 g,i64 s,i64 p,.sl true false [],.sl true false [],i64 (zM (b.drop (yx b a 4).toNat) 1),i64 (yO (zM (b.drop a.toNat) 4)),bl (hiN (zM (b.drop a.toNat) 4)),i64 0,i64 0,i64 0,i64 0],.box [.ptr 2 0,bl (sh || shB b a 5)],.box [.sl f false (b.map zf),i64 (yx b (yx b a 4) 1)]]:=by
 refine zc Tryz.func97 rfl Tryz.ntmps97 (by simp) (fun hsc=>?_);simp only [Lf.enter,Nat.reduceAdd];clear hsc
 have hU:=True.intro
 repeat' (first|(refine goR ?_)|(refine za (fun K hK=>?_))|((refine zb (fun hcd=>?_) (fun hcd=>?_))<;>(try simp only [hcP] at hcd)<;>(try exact cdT))|(refine zd (f:=145) rfl Tryz.call145 (h:=AEq.sub' [_,_,_] (hc:=zbI _ _ _ _ _ _ _ _ (by assumption) (by assumption) (by assumption)) (hq:=?_)))|((refine zh [0,1,2] (by rw [Tryz.results97,Lf.vW]) yk ?_)<;>(try (first|exact zi|exact stT)))|(refine hK _ _ ?_;clear hK K))
theorem zrh (f : Bool) (b : List UInt8) (a : Int) (sh : Bool) (g s p : Int) (h0 : 0 ≤ a) (h1 : a ≤ b.length) (h2 : b.length ≤ 1000000000) (hg0 : 0 ≤ g) (hg1 : g < 256) : AEq Tryz.prog 97 [.ptr 1 0,.ptr 0 0] [.box [i64 3,i64 g,i64 s,i64 p,.sl true false [],.sl true false [],i64 0,i64 0,bl false,i64 0,i64 0,i64 0,i64 0],.box [.ptr 2 0,bl sh],.box [.sl f false (b.map zf),i64 a]] (.tu []) [.box [i64 3,i64 g,i64 s,i64 p,.sl true false [],.sl true false [],i64 0,i64 0,bl false,i64 0,i64 0,i64 (zM (b.drop a.toNat) 4),i64 0],.box [.ptr 2 0,bl (sh || shB b a 4)],.box [.sl f false (b.map zf),i64 (yx b a 4)]]:=by
 refine zc Tryz.func97 rfl Tryz.ntmps97 (by simp) (fun hsc=>?_);simp only [Lf.enter,Nat.reduceAdd];clear hsc
 have hU:=True.intro
 repeat' (first|(refine goR ?_)|(refine za (fun K hK=>?_))|((refine zb (fun hcd=>?_) (fun hcd=>?_))<;>(try simp only [hcP] at hcd)<;>(try exact cdT))|(refine zd (f:=96) rfl Tryz.call96 (h:=AEq.sub' [_,_] (hc:=kF _ _ _ _ _ aoT aoT aoT aoT aoT) (hq:=?_)))|((refine zh [0,1,2] (by rw [Tryz.results97,Lf.vW]) yk ?_)<;>(try (first|exact zi|exact stT)))|(refine hK _ _ ?_;clear hK K))
theorem zri (f : Bool) (b : List UInt8) (a : Int) (sh : Bool) (g s p : Int) (h0 : 0 ≤ a) (h1 : a ≤ b.length) (h2 : b.length ≤ 1000000000) (hg0 : 0 ≤ g) (hg1 : g < 256) : AEq Tryz.prog 97 [.ptr 1 0,.ptr 0 0] [.box [i64 5,i64 g,i64 s,i64 p,.sl true false [],.sl true false [],i64 0,i64 0,bl false,i64 0,i64 0,i64 0,i64 0],.box [.ptr 2 0,bl sh],.box [.sl f false (b.map zf),i64 a]] (.tu []) [.box [i64 5,i64 g,i64 s,i64 p,.sl true false [],.sl true false [],i64 0,i64 0,bl false,i64 (yO (zM (b.drop a.toNat) 4)),i64 0,i64 0,i64 0],.box [.ptr 2 0,bl (sh || shB b a 4)],.box [.sl f false (b.map zf),i64 (yx b a 4)]]:=by
 refine zc Tryz.func97 rfl Tryz.ntmps97 (by simp) (fun hsc=>?_);simp only [Lf.enter,Nat.reduceAdd];clear hsc
 have hU:=True.intro
 repeat' (first|(refine goR ?_)|(refine za (fun K hK=>?_))|((refine zb (fun hcd=>?_) (fun hcd=>?_))<;>(try simp only [hcP] at hcd)<;>(try exact cdT))|(refine zd (f:=146) rfl Tryz.call146 (h:=AEq.sub' [_,_] (hc:=zfq _ _ _ _ (by assumption) (by assumption) (by assumption)) (hq:=?_)))|((refine zh [0,1,2] (by rw [Tryz.results97,Lf.vW]) yk ?_)<;>(try (first|exact zi|exact stT)))|(refine hK _ _ ?_;clear hK K))
theorem zrj (f : Bool) (b : List UInt8) (a : Int) (sh : Bool) (g s p : Int) (h0 : 0 ≤ a) (h1 : a ≤ b.length) (h2 : b.length ≤ 1000000000) (hg0 : 0 ≤ g) (hg1 : g < 256) : AEq Tryz.prog 97 [.ptr 1 0,.ptr 0 0] [.box [i64 7,i64 g,i64 s,i64 p,.sl true false [],.sl true false [],i64 0,i64 0,bl false,i64 0,i64 0,i64 0,i64 0],.box [.ptr 2 0,bl sh],.box [.sl f false (b.map zf),i64 a]] (.tu []) [.box [i64 7,i64 g,i64 s,i64 p,.sl true false [],.sl true false [],i64 0,i64 0,bl false,i64 0,i64 (yO (zM (b.drop a.toNat) 4)),i64 (zM (b.drop (yx b a 4).toNat) 4),i64 0],.box [.ptr 2 0,bl (sh || shB b a 8)],.box [.sl f false (b.map zf),i64 (yx b (yx b a 4) 4)]]:=by
 have hp:=zbb b a 4 h0 h1 (by decide)
 have hp1:=hp.1
 have hp2:=hp.2
 have hs:=zlC (b:=b) (a:=a) (n:=4) (m:=4) (sh:=sh) (by decide) (by decide)
 rw [show (4 : Int) + 4 = 8 from rfl] at hs
 refine zc Tryz.func97 rfl Tryz.ntmps97 (by simp) (fun hsc=>?_);simp only [Lf.enter,Nat.reduceAdd];clear hsc
 have hU:=@hs
 repeat' (first|(refine goR ?_)|(refine za (fun K hK=>?_))|((refine zb (fun hcd=>?_) (fun hcd=>?_))<;>(try simp only [hcP] at hcd)<;>(try exact cdT))|(refine zd (f:=146) rfl Tryz.call146 (h:=AEq.sub' [_,_] (hc:=zfq _ _ _ _ aoT aoT aoT) (hq:=?_)))|(refine zd (f:=96) rfl Tryz.call96 (h:=AEq.sub' [_,_] (hc:=kF _ _ _ _ _ aoT aoT aoT aoT aoT) (hq:=?_)))|((refine zh [0,1,2] (by rw [Tryz.results97,Lf.vW]) yk ?_)<;>(try (first|exact zi|exact stT)))|(refine hK _ _ ?_;clear hK K))
theorem zrk (f : Bool) (b : List UInt8) (a : Int) (sh : Bool) (g s p : Int) (h0 : 0 ≤ a) (h1 : a ≤ b.length) (h2 : b.length ≤ 1000000000) (hg0 : 0 ≤ g) (hg1 : g < 256) : AEq Tryz.prog 97 [.ptr 1 0,.ptr 0 0] [.box [i64 8,i64 g,i64 s,i64 p,.sl true false [],.sl true false [],i64 0,i64 0,bl false,i64 0,i64 0,i64 0,i64 0],.box [.ptr 2 0,bl sh],.box [.sl f false (b.map zf),i64 a]] (.tu []) [.box [i64 8,i64 g,i64 s,i64 p,.sl true false [],.sl true false [],i64 0,i64 0,bl false,i64 0,i64 0,i64 0,i64 (yO (zM (b.drop a.toNat) 4))],.box [.ptr 2 0,bl (sh || shB b a 4)],.box [.sl f false (b.map zf),i64 (yx b a 4)]]:=by
 refine zc Tryz.func97 rfl Tryz.ntmps97 (by simp) (fun hsc=>?_);simp only [Lf.enter,Nat.reduceAdd];clear hsc
 have hU:=True.intro
 repeat' (first|(refine goR ?_)|(refine za (fun K hK=>?_))|((refine zb (fun hcd=>?_) (fun hcd=>?_))<;>(try simp only [hcP] at hcd)<;>(try exact cdT))|(refine zd (f:=146) rfl Tryz.call146 (h:=AEq.sub' [_,_] (hc:=zfq _ _ _ _ (by assumption) (by assumption) (by assumption)) (hq:=?_)))|((refine zh [0,1,2] (by rw [Tryz.results97,Lf.vW]) yk ?_)<;>(try (first|exact zi|exact stT)))|(refine hK _ _ ?_;clear hK K))
theorem zrl (f : Bool) (b : List UInt8) (a : Int) (sh : Bool) (t : Int) (g s p : Int) (h0 : 0 ≤ a) (h1 : a ≤ b.length) (h2 : b.length ≤ 1000000000) (hg0 : 0 ≤ g) (hg1 : g < 256) (hh1 : ¬ t = 1) (hh2 : ¬ t = 2) (hh3 : ¬ t = 3) (hh5 : ¬ t = 5) (hh7 : ¬ t = 7) (hh8 : ¬ t = 8) : AEq Tryz.prog 97 [.ptr 1 0,.ptr 0 0] [.box [i64 t,i64 g,i64 s,i64 p,.sl true false [],.sl true false [],i64 0,i64 0,bl false,i64 0,i64 0,i64 0,i64 0],.box [.ptr 2 0,bl sh],.box [.sl f false (b.map zf),i64 a]] (.tu []) [.box [i64 t,i64 g,i64 s,i64 p,.sl true false [],.sl true false [],i64 0,i64 0,bl false,i64 0,i64 0,i64 0,i64 0],.box [.ptr 2 0,bl sh],.box [.sl f false (b.map zf),i64 (a)]]:=by
 refine zc Tryz.func97 rfl Tryz.ntmps97 (by simp) (fun hsc=>?_);simp only [Lf.enter,Nat.reduceAdd];clear hsc
 have hU:=True.intro
 repeat' (first|(refine goR ?_)|(refine za (fun K hK=>?_))|((refine zb (fun hcd=>?_) (fun hcd=>?_))<;>(try simp only [hcP] at hcd)<;>(try exact cdT))|((refine zh [0,1,2] (by rw [Tryz.results97,Lf.vW]) yk ?_)<;>(try (first|exact zi|exact stT)))|(refine hK _ _ ?_;clear hK K))
theorem zh4 (a c : Int) : AEq Tryz.prog 53 [i64 a,i64 c] [] (.ag [i64 a,i64 c]) []:=by
 refine zc Tryz.func53 rfl Tryz.ntmps53 (by simp) (fun hsc=>?_);simp only [Lf.enter,Nat.reduceAdd];clear hsc
 have hU:=True.intro
 repeat' (first|(refine goR ?_)|(refine za (fun K hK=>?_))|((refine yv [] exT (by rfl) (by rw [Tryz.results53,Lf.jh];(try simp (disch:=omega) only [Lf.zG,go_sem,seval,↓reduceIte,hU]);rfl) sT sT (zj ?_) ?_)<;>(try (first|exact zi|exact stT)))|(refine hK _ _ ?_;clear hK K))
def scI (t : Int) : Int:=if t = 0 ∨ t = 2 then 1 else 2
theorem zh5 (t : Int) : AEq Tryz.prog 55 [i64 t] [] (i64 (scI t)) []:=by
 by_cases h : t = 0 ∨ t = 2
 ·rw [show scI t = 1 from if_pos h]
  rcases h with rfl|rfl
  ·refine zc Tryz.func55 rfl Tryz.ntmps55 (by simp) (fun hsc => ?_); simp only [Lf.enter, Nat.reduceAdd]; clear hsc
   have hU:=True.intro
   repeat' (first|(refine goR ?_)|(refine za (fun K hK=>?_))|((refine zb (fun hcd=>?_) (fun hcd=>?_))<;>(try simp only [hcP] at hcd)<;>(try exact cdT))|((refine zh [] (by rw [Tryz.results55,Lf.zy]) (zj ?_) ?_)<;>(try (first|exact zi|exact stT)))|(refine hK _ _ ?_;clear hK K))
  ·refine zc Tryz.func55 rfl Tryz.ntmps55 (by simp) (fun hsc => ?_); simp only [Lf.enter, Nat.reduceAdd]; clear hsc
   have hU:=True.intro
   repeat' (first|(refine goR ?_)|(refine za (fun K hK=>?_))|((refine zb (fun hcd=>?_) (fun hcd=>?_))<;>(try simp only [hcP] at hcd)<;>(try exact cdT))|((refine zh [] (by rw [Tryz.results55,Lf.zy]) (zj ?_) ?_)<;>(try (first|exact zi|exact stT)))|(refine hK _ _ ?_;clear hK K))
 ·rw [show scI t = 2 from if_neg h]
  have h0 : ¬ t = 0:=by omega
  have h2 : ¬ t = 2:=by omega
  refine zc Tryz.func55 rfl Tryz.ntmps55 (by simp) (fun hsc=>?_);simp only [Lf.enter,Nat.reduceAdd];clear hsc
  have hU:=True.intro
  repeat' (first|(refine goR ?_)|(refine za (fun K hK=>?_))|((refine zb (fun hcd=>?_) (fun hcd=>?_))<;>(try simp only [hcP] at hcd)<;>(try exact cdT))|((refine zh [] (by rw [Tryz.results55,Lf.zy]) (zj ?_) ?_)<;>(try (first|exact zi|exact stT)))|(refine hK _ _ ?_;clear hK K))
def vg (t s : Int) : Bool:=if zbH t = 0 then decide (s = 0) else if zbH t = 1 then !decide (s = 0) else true
theorem zh6 (w t g s : Int) (r f : Bool) (b : List UInt8) : AEq Tryz.prog 52 [.ag [i64 w,i64 t,i64 g,i64 s,bl r,.sl f false (b.map zf)]] [] (bl (vg t s)) []:=by
 by_cases h0 : zbH t = 0
 ·rw [show vg t s = decide (s = 0) from if_pos h0]
  refine zc Tryz.func52 rfl Tryz.ntmps52 (by simp) (fun hsc=>?_);simp only [Lf.enter,Nat.reduceAdd];clear hsc
  have hU:=@h0
  repeat' (first|(refine goR ?_)|(refine za (fun K hK=>?_))|((refine zb (fun hcd=>?_) (fun hcd=>?_))<;>(try simp only [hcP] at hcd)<;>(try exact cdT))|(refine zd (f:=93) rfl Tryz.call93 (h:=AEq.pure' agT (ztQ _) (hq:=?_)))|((refine zh [] (by rw [Tryz.results52,Lf.zy]) (zj ?_) ?_)<;>(try (first|exact zi|exact stT)))|(refine hK _ _ ?_;clear hK K))
  all_goals exact zt (by first|rfl|(simp;done))
 ·by_cases h1 : zbH t = 1
  ·rw [show vg t s = !decide (s = 0) from (if_neg h0).trans (if_pos h1)]
   refine zc Tryz.func52 rfl Tryz.ntmps52 (by simp) (fun hsc=>?_);simp only [Lf.enter,Nat.reduceAdd];clear hsc
   have hU:=@h1
   repeat' (first|(refine goR ?_)|(refine za (fun K hK=>?_))|((refine zb (fun hcd=>?_) (fun hcd=>?_))<;>(try simp only [hcP] at hcd)<;>(try exact cdT))|(refine zd (f:=93) rfl Tryz.call93 (h:=AEq.pure' agT (ztQ _) (hq:=?_)))|((refine zh [] (by rw [Tryz.results52,Lf.zy]) (zj ?_) ?_)<;>(try (first|exact zi|exact stT)))|(refine hK _ _ ?_;clear hK K))
   all_goals exact zt (by first|rfl|(simp;done))
  ·rw [show vg t s = true from (if_neg h0).trans (if_neg h1)]
   refine zc Tryz.func52 rfl Tryz.ntmps52 (by simp) (fun hsc=>?_);simp only [Lf.enter,Nat.reduceAdd];clear hsc
   have hU:=True.intro
   repeat' (first|(refine goR ?_)|(refine za (fun K hK=>?_))|((refine zb (fun hcd=>?_) (fun hcd=>?_))<;>(try simp only [hcP] at hcd)<;>(try exact cdT))|(refine zd (f:=93) rfl Tryz.call93 (h:=AEq.pure' agT (ztQ _) (hq:=?_)))|((refine zh [] (by rw [Tryz.results52,Lf.zy]) (zj ?_) ?_)<;>(try (first|exact zi|exact stT)))|(refine hK _ _ ?_;clear hK K))
def vP (t g : Int) (n : Nat) : Bool:=if t = 2 then decide (n = 5) else if t = 3 ∨ t = 8 then decide (n = 4) else if t = 6 then decide (n = 8) else if t = 7 then decide (8 ≤ n) else if t = 4 then (if zF 4 g 1 = true then decide (n = 0) else decide (n % 6 = 0)) else true
theorem zdl (g : Int) (n : Nat) : vP 4 g n = if zF 4 g 1 = true then decide (n = 0) else decide (n % 6 = 0):=rfl
theorem zrm (w t g s : Int) (r f : Bool) (b : List UInt8) (hg0 : 0 ≤ g) (hg1 : g < 256) (hb : b.length ≤ 1000000000) : AEq Tryz.prog 54 [.ag [i64 w,i64 t,i64 g,i64 s,bl r,.sl f false (b.map zf)]] [] (bl (vP t g b.length)) []:=by
 by_cases h2 : t = 2
 ·subst h2
  rw [show vP 2 g b.length = decide (b.length = 5) from rfl]
  refine zc Tryz.func54 rfl Tryz.ntmps54 (by simp) (fun hsc=>?_);simp only [Lf.enter,Nat.reduceAdd];clear hsc
  have hU:=True.intro
  repeat' (first|(refine goR ?_)|(refine za (fun K hK=>?_))|((refine zb (fun hcd=>?_) (fun hcd=>?_))<;>(try simp only [hcP] at hcd)<;>(try exact cdT))|((refine zh [] (by rw [Tryz.results54,Lf.zy]) (zj ?_) ?_)<;>(try (first|exact zi|exact stT)))|(refine hK _ _ ?_;clear hK K))
  all_goals exact zt (by grind)
 by_cases h3 : t = 3
 ·subst h3
  rw [show vP 3 g b.length = decide (b.length = 4) from rfl]
  refine zc Tryz.func54 rfl Tryz.ntmps54 (by simp) (fun hsc=>?_);simp only [Lf.enter,Nat.reduceAdd];clear hsc
  have hU:=True.intro
  repeat' (first|(refine goR ?_)|(refine za (fun K hK=>?_))|((refine zb (fun hcd=>?_) (fun hcd=>?_))<;>(try simp only [hcP] at hcd)<;>(try exact cdT))|((refine zh [] (by rw [Tryz.results54,Lf.zy]) (zj ?_) ?_)<;>(try (first|exact zi|exact stT)))|(refine hK _ _ ?_;clear hK K))
  all_goals exact zt (by grind)
 by_cases h8 : t = 8
 ·subst h8
  rw [show vP 8 g b.length = decide (b.length = 4) from rfl]
  refine zc Tryz.func54 rfl Tryz.ntmps54 (by simp) (fun hsc=>?_);simp only [Lf.enter,Nat.reduceAdd];clear hsc
  have hU:=True.intro
  repeat' (first|(refine goR ?_)|(refine za (fun K hK=>?_))|((refine zb (fun hcd=>?_) (fun hcd=>?_))<;>(try simp only [hcP] at hcd)<;>(try exact cdT))|((refine zh [] (by rw [Tryz.results54,Lf.zy]) (zj ?_) ?_)<;>(try (first|exact zi|exact stT)))|(refine hK _ _ ?_;clear hK K))
  all_goals exact zt (by grind)
 by_cases h6 : t = 6
 ·subst h6
  rw [show vP 6 g b.length = decide (b.length = 8) from rfl]
  refine zc Tryz.func54 rfl Tryz.ntmps54 (by simp) (fun hsc=>?_);simp only [Lf.enter,Nat.reduceAdd];clear hsc
  have hU:=True.intro
  repeat' (first|(refine goR ?_)|(refine za (fun K hK=>?_))|((refine zb (fun hcd=>?_) (fun hcd=>?_))<;>(try simp only [hcP] at hcd)<;>(try exact cdT))|((refine zh [] (by rw [Tryz.results54,Lf.zy]) (zj ?_) ?_)<;>(try (first|exact zi|exact stT)))|(refine hK _ _ ?_;clear hK K))
  all_goals exact zt (by grind)
 by_cases h7 : t = 7
 ·subst h7
  rw [show vP 7 g b.length = decide (8 ≤ b.length) from rfl]
  refine zc Tryz.func54 rfl Tryz.ntmps54 (by simp) (fun hsc=>?_);simp only [Lf.enter,Nat.reduceAdd];clear hsc
  have hU:=True.intro
  repeat' (first|(refine goR ?_)|(refine za (fun K hK=>?_))|((refine zb (fun hcd=>?_) (fun hcd=>?_))<;>(try simp only [hcP] at hcd)<;>(try exact cdT))|((refine zh [] (by rw [Tryz.results54,Lf.zy]) (zj ?_) ?_)<;>(try (first|exact zi|exact stT)))|(refine hK _ _ ?_;clear hK K))
  all_goals exact zt (by grind)
 by_cases h4 : t = 4
 ·subst h4
  cases hH : zF 4 g 1 with
  | true=>
   rw [show vP 4 g b.length = decide (b.length = 0) from (zdl g _).trans (if_pos hH)]
   refine zc Tryz.func54 rfl Tryz.ntmps54 (by simp) (fun hsc=>?_);simp only [Lf.enter,Nat.reduceAdd];clear hsc
   have hU:=@hH
   repeat' (first|(refine goR ?_)|(refine za (fun K hK=>?_))|((refine zb (fun hcd=>?_) (fun hcd=>?_))<;>(try simp only [hcP] at hcd)<;>(try exact cdT))|(refine zd (f:=94) rfl Tryz.call94 (h:=AEq.pure' agT (zba _ _ _ aoT aoT aoT) (hq:=?_)))|((refine zh [] (by rw [Tryz.results54,Lf.zy]) (zj ?_) ?_)<;>(try (first|exact zi|exact stT)))|(refine hK _ _ ?_;clear hK K))
   all_goals exact zt (by grind)
  | false=>
   rw [show vP 4 g b.length = decide (b.length % 6 = 0) from (zdl g _).trans (if_neg (by rw [hH];simp))]
   refine zc Tryz.func54 rfl Tryz.ntmps54 (by simp) (fun hsc=>?_);simp only [Lf.enter,Nat.reduceAdd];clear hsc
   have hU:=@hH
   repeat' (first|(refine goR ?_)|(refine za (fun K hK=>?_))|((refine zb (fun hcd=>?_) (fun hcd=>?_))<;>(try simp only [hcP] at hcd)<;>(try exact cdT))|(refine zd (f:=94) rfl Tryz.call94 (h:=AEq.pure' agT (zba _ _ _ aoT aoT aoT) (hq:=?_)))|((refine zh [] (by rw [Tryz.results54,Lf.zy]) (zj ?_) ?_)<;>(try (first|exact zi|exact stT)))|(refine hK _ _ ?_;clear hK K))
   all_goals exact zt (by grind)
 rw [show vP t g b.length = true from by unfold vP;rw [if_neg h2,if_neg (by omega),if_neg h6,if_neg h7,if_neg h4]]
 refine zc Tryz.func54 rfl Tryz.ntmps54 (by simp) (fun hsc=>?_);simp only [Lf.enter,Nat.reduceAdd];clear hsc
 have hU:=True.intro
 repeat' (first|(refine goR ?_)|(refine za (fun K hK=>?_))|((refine zb (fun hcd=>?_) (fun hcd=>?_))<;>(try simp only [hcP] at hcd)<;>(try exact cdT))|((refine zh [] (by rw [Tryz.results54,Lf.zy]) (zj ?_) ?_)<;>(try (first|exact zi|exact stT)))|(refine hK _ _ ?_;clear hK K))
end Go.Proofs.YtdalcgfnlbofdaaGreatDoor
