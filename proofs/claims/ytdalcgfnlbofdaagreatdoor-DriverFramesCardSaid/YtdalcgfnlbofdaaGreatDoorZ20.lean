import Derived.Test.YtdalcgfnlbofdaaGreatDoorTg
import Derived.Test.YtdalcgfnlbofdaaGreatDoorZ19
import Derived.Test.YtdalcgfnlbofdaaGreatDoorZ18
import Derived.Test.YtdalcgfnlbofdaaGreatDoorZ05
import Derived.Test.YtdalcgfnlbofdaaGreatDoorLc
set_option linter.unusedVariables false
set_option linter.unusedSimpArgs false
namespace Go.Proofs.YtdalcgfnlbofdaaGreatDoor
open Go Go.Lf Go.Proofs
attribute [local irreducible] Lf.rg Lf.ro Lf.PWp Lf.SOp Lf.ACall Lf.Scoped Lf.dg Lf.dw
set_option maxRecDepth 20000
set_option maxHeartbeats 4000000
def hiN (m : Int) : Bool:=decide (2147483648 ≤ m)
def yh (b : List UInt8) (a n : Int) : Int:=if a + n ≤ b.length then a + n else a
def shB (b : List UInt8) (a n : Int) : Bool:=decide ((b.length : Int) < a + n)
theorem zbd (b : List UInt8) (a n : Int) (h0 : 0 ≤ a) (h1 : a ≤ b.length) (hn : 0 ≤ n) : 0 ≤ yh b a n ∧ yh b a n ≤ b.length:=by
 unfold yh;split<;>omega
theorem yo {b : List UInt8} {a n : Int} (h : a + n ≤ b.length) : yh b a n = a + n:=if_pos h
theorem zbs {b : List UInt8} {a n : Int} (h : (b.length : Int) < a + n) : shB b a n = true:=decide_eq_true h
theorem kR {b : List UInt8} {a n : Int} (h : ¬ (b.length : Int) < a + n) : shB b a n = false:=decide_eq_false h
theorem ziC {b : List UInt8} {a n : Int} (h0 : 0 ≤ a) (h1 : a ≤ b.length) (hn1 : 1 ≤ n) (hn4 : n ≤ 4) : j9 (b.drop a.toNat) n = if (b.length : Int) < a + n then 3 else 0:=by
 have hl : ((b.drop a.toNat).length : Int) = b.length - a:=by rw [List.length_drop];omega
 unfold j9
 rw [if_neg (by rw [yg ⟨hn1,hn4⟩];simp),hl]
 by_cases h : (b.length : Int) < a + n
 ·rw [if_pos (by omega),if_pos h]
 ·rw [if_neg (by omega),if_neg h]
theorem zkZ {b : List UInt8} {a n : Int} (h0 : 0 ≤ a) (h1 : a ≤ b.length) (hn1 : 1 ≤ n) (hn4 : n ≤ 4) : zkV b a n = yh b a n:=by
 unfold zkV yh
 rw [ziC h0 h1 hn1 hn4]
 by_cases h : (b.length : Int) < a + n
 ·rw [if_pos h,if_neg (by decide),if_neg (by omega)]
 ·rw [if_neg h,if_pos rfl,if_pos (by omega)]
theorem zml {b : List UInt8} {a n m : Int} {sh : Bool} (hn : 0 < n) (hm : 0 < m) : ((sh || shB b a n) || shB b (yh b a n) m) = (sh || shB b a (n + m)):=by
 rw [Bool.or_assoc]
 congr 1
 by_cases h : a + n ≤ b.length
 ·rw [yo h, kR (by omega), Bool.false_or]
  unfold shB
  rw [show a + n + m = a + (n + m) from by omega]
 ·rw [zbs (by omega),Bool.true_or,zbs (by omega)]
theorem zox (n : Int) (h0 : 0 ≤ n) (h1 : n < 4294967296) : AEq Tryz.prog 185 [i64 n] [] (.tu [i64 (yB n),bl (hiN n)]) []:=by
 by_cases h : n < 2147483648
 ·rw [show yB n = n from if_pos h,show hiN n = false from decide_eq_false (by omega)];exact zio n h0 h
 ·rw [show yB n = n - 2147483648 from if_neg h,show hiN n = true from decide_eq_true (by omega)];exact zip n (by omega) h1
theorem zoy (n : Int) (h0 : 0 ≤ n) (h1 : n < 4294967296) : AEq Tryz.prog 160 [i64 n] [] (.tu [i64 (yB n),bl (hiN n)]) []:=by
 by_cases h : n < 2147483648
 ·rw [show yB n = n from if_pos h,show hiN n = false from decide_eq_false (by omega)];exact zos n h0 h
 ·rw [show yB n = n - 2147483648 from if_neg h,show hiN n = true from decide_eq_true (by omega)];exact zot n (by omega) h1
theorem kt (f : Bool) (b : List UInt8) (a n : Int) (sh : Bool) (h0 : 0 ≤ a) (h1 : a ≤ b.length) (hn1 : 1 ≤ n) (hn4 : n ≤ 4) (h2 : b.length ≤ 1000000000) : AEq Tryz.prog 96 [.ptr 0 0,i64 n] [.box [.ptr 1 0,bl sh],.box [.sl f false (b.map zf),i64 a]] (i64 (zJ (b.drop a.toNat) n)) [.box [.ptr 1 0,bl (sh || shB b a n)],.box [.sl f false (b.map zf),i64 (yh b a n)]]:=by
 have hc:=zkZ h0 h1 hn1 hn4
 have hE:=ziC h0 h1 hn1 hn4
 by_cases h : (b.length : Int) < a + n
 ·rw [if_pos h] at hE
  have hs:=zbs h
  cases sh with
  | true=>
   refine zc Tryz.func96 rfl Tryz.ntmps96 (by simp) (fun hsc=>?_);simp only [Lf.enter,Nat.reduceAdd];clear hsc
   have hU:=And.intro @hc ( And.intro @hE ( And.intro @hs ( And.intro @Bool.or_true (@Bool.true_or))))
   repeat' (first|(refine goR ?_)|(refine za (fun K hK=>?_))|(refine zd (f:=144) rfl Tryz.call144 (h:=AEq.sub' [_] (hc:=zba _ _ _ _ aoT aoT aoT) (hq:=?_)))|((refine ze [0,1] (by rw [Tryz.results96,Lf.zt]) (zj ?_) ?_)<;>(try (first|exact zh|exact stT)))|(refine hK _ _ ?_;clear hK K))
  | false=>
   refine zc Tryz.func96 rfl Tryz.ntmps96 (by simp) (fun hsc=>?_);simp only [Lf.enter,Nat.reduceAdd];clear hsc
   have hU:=And.intro @hc ( And.intro @hE ( And.intro @hs ( And.intro @Bool.or_true (@Bool.true_or))))
   repeat' (first|(refine goR ?_)|(refine za (fun K hK=>?_))|(refine zd (f:=144) rfl Tryz.call144 (h:=AEq.sub' [_] (hc:=zba _ _ _ _ aoT aoT aoT) (hq:=?_)))|((refine ze [0,1] (by rw [Tryz.results96,Lf.zt]) (zj ?_) ?_)<;>(try (first|exact zh|exact stT)))|(refine hK _ _ ?_;clear hK K))
 ·rw [if_neg h] at hE
  have hs:=kR h
  cases sh with
  | true=>
   refine zc Tryz.func96 rfl Tryz.ntmps96 (by simp) (fun hsc=>?_);simp only [Lf.enter,Nat.reduceAdd];clear hsc
   have hU:=And.intro @hc ( And.intro @hE ( And.intro @hs ( And.intro @Bool.or_true (@Bool.true_or))))
   repeat' (first|(refine goR ?_)|(refine za (fun K hK=>?_))|(refine zd (f:=144) rfl Tryz.call144 (h:=AEq.sub' [_] (hc:=zba _ _ _ _ aoT aoT aoT) (hq:=?_)))|((refine ze [0,1] (by rw [Tryz.results96,Lf.zt]) (zj ?_) ?_)<;>(try (first|exact zh|exact stT)))|(refine hK _ _ ?_;clear hK K))
  | false=>
   refine zc Tryz.func96 rfl Tryz.ntmps96 (by simp) (fun hsc=>?_);simp only [Lf.enter,Nat.reduceAdd];clear hsc
   have hU:=And.intro @hc ( And.intro @hE ( And.intro @hs ( And.intro @Bool.or_false (@Bool.false_or))))
   repeat' (first|(refine goR ?_)|(refine za (fun K hK=>?_))|(refine zd (f:=144) rfl Tryz.call144 (h:=AEq.sub' [_] (hc:=zba _ _ _ _ aoT aoT aoT) (hq:=?_)))|((refine ze [0,1] (by rw [Tryz.results96,Lf.zt]) (zj ?_) ?_)<;>(try (first|exact zh|exact stT)))|(refine hK _ _ ?_;clear hK K))
theorem zfB (f : Bool) (b : List UInt8) (a : Int) (sh : Bool) (h0 : 0 ≤ a) (h1 : a ≤ b.length) (h2 : b.length ≤ 1000000000) : AEq Tryz.prog 146 [.ptr 0 0] [.box [.ptr 1 0,bl sh],.box [.sl f false (b.map zf),i64 a]] (.tu [i64 (yB (zJ (b.drop a.toNat) 4)),bl (hiN (zJ (b.drop a.toNat) 4))]) [.box [.ptr 1 0,bl (sh || shB b a 4)],.box [.sl f false (b.map zf),i64 (yh b a 4)]]:=by
 have hg:=vc (b.drop a.toNat) 4
 have hg1:=hg.1
 have hg2:=hg.2
 refine zc Tryz.func146 rfl Tryz.ntmps146 (by simp) (fun hsc=>?_);simp only [Lf.enter,Nat.reduceAdd];clear hsc
 have hU:=True.intro
 repeat' (first|(refine goR ?_)|(refine za (fun K hK=>?_))|(refine zd (f:=185) rfl Tryz.call185 (h:=AEq.pure' agT (zox _ aoT aoT) (hq:=?_)))|(refine zd (f:=96) rfl Tryz.call96 (h:=AEq.sub' [_,_] (hc:=kt _ _ _ _ _ aoT aoT aoT aoT aoT) (hq:=?_)))|((refine ze [0,1] (by rw [Tryz.results146,Lf.yb]) (zu ?_ ?_) ?_)<;>(try (first|exact zh|exact stT)))|(refine hK _ _ ?_;clear hK K))
theorem zbR (f : Bool) (b : List UInt8) (a : Int) (sh : Bool) (t g s p : Int) (h0 : 0 ≤ a) (h1 : a ≤ b.length) (h2 : b.length ≤ 1000000000) : AEq Tryz.prog 145 [.ptr 1 0,.ptr 0 0] [.box [i64 t,i64 g,i64 s,i64 p,.sl true false [],.sl true false [],i64 0,i64 0,bl false,i64 0,i64 0,i64 0,i64 0],.box [.ptr 2 0,bl sh],.box [.sl f false (b.map zf),i64 a]] (.tu []) [.box [i64 t,i64 g,i64 s,i64 p,.sl true false [],.sl true false [],i64 (zJ (b.drop (yh b a 4).toNat) 1),i64 (yB (zJ (b.drop a.toNat) 4)),bl (hiN (zJ (b.drop a.toNat) 4)),i64 0,i64 0,i64 0,i64 0],.box [.ptr 2 0,bl (sh || shB b a 5)],.box [.sl f false (b.map zf),i64 (yh b (yh b a 4) 1)]]:=by
 have hp:=zbd b a 4 h0 h1 (by decide)
 have hp1:=hp.1
 have hp2:=hp.2
 have hs:=zml (b:=b) (a:=a) (n:=4) (m:=1) (sh:=sh) (by decide) (by decide)
 rw [show (4 : Int) + 1 = 5 from rfl] at hs
 refine zc Tryz.func145 rfl Tryz.ntmps145 (by simp) (fun hsc=>?_);simp only [Lf.enter,Nat.reduceAdd];clear hsc
 have hU:=@hs
 repeat' (first|(refine goR ?_)|(refine za (fun K hK=>?_))|(refine zd (f:=96) rfl Tryz.call96 (h:=AEq.sub' [_,_] (hc:=kt _ _ _ _ _ aoT aoT aoT aoT aoT) (hq:=?_)))|(refine zd (f:=146) rfl Tryz.call146 (h:=AEq.sub' [_,_] (hc:=zfB _ _ _ _ aoT aoT aoT) (hq:=?_)))|((refine ze [0,1,2] (by rw [Tryz.results145,Lf.vJ]) z5 ?_)<;>(try (first|exact zh|exact stT)))|(refine hK _ _ ?_;clear hK K))
theorem zoz (f : Bool) (b : List UInt8) (a : Int) (sh : Bool) (g s p : Int) (h0 : 0 ≤ a) (h1 : a ≤ b.length) (h2 : b.length ≤ 1000000000) (hg0 : 0 ≤ g) (hg1 : g < 256) (hH : zB 1 g 32 = true) : AEq Tryz.prog 97 [.ptr 1 0,.ptr 0 0] [.box [i64 1,i64 g,i64 s,i64 p,.sl true false [],.sl true false [],i64 0,i64 0,bl false,i64 0,i64 0,i64 0,i64 0],.box [.ptr 2 0,bl sh],.box [.sl f false (b.map zf),i64 a]] (.tu []) [.box [i64 1,i64 g,i64 s,i64 p,.sl true false [],.sl true false [],i64 (zJ (b.drop (yh b a 4).toNat) 1),i64 (yB (zJ (b.drop a.toNat) 4)),bl (hiN (zJ (b.drop a.toNat) 4)),i64 0,i64 0,i64 0,i64 0],.box [.ptr 2 0,bl (sh || shB b a 5)],.box [.sl f false (b.map zf),i64 (yh b (yh b a 4) 1)]]:=by
 refine zc Tryz.func97 rfl Tryz.ntmps97 (by simp) (fun hsc=>?_);simp only [Lf.enter,Nat.reduceAdd];clear hsc
 have hU:=@hH
 repeat' (first|(refine goR ?_)|(refine za (fun K hK=>?_))|(guard_target =~ PWp _ _ _ _ _ _ _;refine zG mixed (by kernel_rfl) ?_)|((refine zb (fun hcd=>?_) (fun hcd=>?_))<;>(try simp only [hcP] at hcd)<;>(try exact cdT))|(refine zd (f:=145) rfl Tryz.call145 (h:=AEq.sub' [_,_,_] (hc:=zbR _ _ _ _ _ _ _ _ aoT aoT aoT) (hq:=?_)))|((refine ze [0,1,2] (by rw [Tryz.results97,Lf.vJ]) z5 ?_)<;>(try (first|exact zh|exact stT)))|(guard_target =~ dg _ _ _ _ _ _ _;first|(guard_target =~ dg _ _ _ (⟨_,.call ⟨.value (.func 94),_,_⟩,_,_,_,none⟩ :: _) _ _ _;(refine yY (x:=_) (h:=zQ (h:=zd (f:=94) rfl Tryz.call94 (h:=AEq.pure' agT (zmk _ _ _ aoT aoT aoT) (hq:=zi ⟨rfl,rfl⟩)))) (hk:=?_))))|(refine hK _ _ ?_;clear hK K))
theorem zoA (f : Bool) (b : List UInt8) (a : Int) (sh : Bool) (g s p : Int) (h0 : 0 ≤ a) (h1 : a ≤ b.length) (h2 : b.length ≤ 1000000000) (hg0 : 0 ≤ g) (hg1 : g < 256) (hH : zB 1 g 32 = false) : AEq Tryz.prog 97 [.ptr 1 0,.ptr 0 0] [.box [i64 1,i64 g,i64 s,i64 p,.sl true false [],.sl true false [],i64 0,i64 0,bl false,i64 0,i64 0,i64 0,i64 0],.box [.ptr 2 0,bl sh],.box [.sl f false (b.map zf),i64 a]] (.tu []) [.box [i64 1,i64 g,i64 s,i64 p,.sl true false [],.sl true false [],i64 0,i64 0,bl false,i64 0,i64 0,i64 0,i64 0],.box [.ptr 2 0,bl sh],.box [.sl f false (b.map zf),i64 (a)]]:=by
 refine zc Tryz.func97 rfl Tryz.ntmps97 (by simp) (fun hsc=>?_);simp only [Lf.enter,Nat.reduceAdd];clear hsc
 have hU:=@hH
 repeat' (first|(refine goR ?_)|(refine za (fun K hK=>?_))|(guard_target =~ PWp _ _ _ _ _ _ _;refine zG mixed (by kernel_rfl) ?_)|((refine zb (fun hcd=>?_) (fun hcd=>?_))<;>(try simp only [hcP] at hcd)<;>(try exact cdT))|((refine ze [0,1,2] (by rw [Tryz.results97,Lf.vJ]) z5 ?_)<;>(try (first|exact zh|exact stT)))|(guard_target =~ dg _ _ _ _ _ _ _;first|(guard_target =~ dg _ _ _ (⟨_,.call ⟨.value (.func 94),_,_⟩,_,_,_,none⟩ :: _) _ _ _;(refine yY (x:=_) (h:=zQ (h:=zd (f:=94) rfl Tryz.call94 (h:=AEq.pure' agT (zmk _ _ _ aoT aoT aoT) (hq:=zi ⟨rfl,rfl⟩)))) (hk:=?_))))|(refine hK _ _ ?_;clear hK K))
theorem zrY (f : Bool) (b : List UInt8) (a : Int) (sh : Bool) (g s p : Int) (h0 : 0 ≤ a) (h1 : a ≤ b.length) (h2 : b.length ≤ 1000000000) (hg0 : 0 ≤ g) (hg1 : g < 256) : AEq Tryz.prog 97 [.ptr 1 0,.ptr 0 0] [.box [i64 2,i64 g,i64 s,i64 p,.sl true false [],.sl true false [],i64 0,i64 0,bl false,i64 0,i64 0,i64 0,i64 0],.box [.ptr 2 0,bl sh],.box [.sl f false (b.map zf),i64 a]] (.tu []) [.box [i64 2,i64 g,i64 s,i64 p,.sl true false [],.sl true false [],i64 (zJ (b.drop (yh b a 4).toNat) 1),i64 (yB (zJ (b.drop a.toNat) 4)),bl (hiN (zJ (b.drop a.toNat) 4)),i64 0,i64 0,i64 0,i64 0],.box [.ptr 2 0,bl (sh || shB b a 5)],.box [.sl f false (b.map zf),i64 (yh b (yh b a 4) 1)]]:=by
 refine zc Tryz.func97 rfl Tryz.ntmps97 (by simp) (fun hsc=>?_);simp only [Lf.enter,Nat.reduceAdd];clear hsc
 have hU:=True.intro
 repeat' (first|(refine goR ?_)|(refine za (fun K hK=>?_))|((refine zb (fun hcd=>?_) (fun hcd=>?_))<;>(try simp only [hcP] at hcd)<;>(try exact cdT))|(refine zd (f:=145) rfl Tryz.call145 (h:=AEq.sub' [_,_,_] (hc:=zbR _ _ _ _ _ _ _ _ (by assumption) (by assumption) (by assumption)) (hq:=?_)))|((refine ze [0,1,2] (by rw [Tryz.results97,Lf.vJ]) z5 ?_)<;>(try (first|exact zh|exact stT)))|(refine hK _ _ ?_;clear hK K))
theorem zrZ (f : Bool) (b : List UInt8) (a : Int) (sh : Bool) (g s p : Int) (h0 : 0 ≤ a) (h1 : a ≤ b.length) (h2 : b.length ≤ 1000000000) (hg0 : 0 ≤ g) (hg1 : g < 256) : AEq Tryz.prog 97 [.ptr 1 0,.ptr 0 0] [.box [i64 3,i64 g,i64 s,i64 p,.sl true false [],.sl true false [],i64 0,i64 0,bl false,i64 0,i64 0,i64 0,i64 0],.box [.ptr 2 0,bl sh],.box [.sl f false (b.map zf),i64 a]] (.tu []) [.box [i64 3,i64 g,i64 s,i64 p,.sl true false [],.sl true false [],i64 0,i64 0,bl false,i64 0,i64 0,i64 (zJ (b.drop a.toNat) 4),i64 0],.box [.ptr 2 0,bl (sh || shB b a 4)],.box [.sl f false (b.map zf),i64 (yh b a 4)]]:=by
 refine zc Tryz.func97 rfl Tryz.ntmps97 (by simp) (fun hsc=>?_);simp only [Lf.enter,Nat.reduceAdd];clear hsc
 have hU:=True.intro
 repeat' (first|(refine goR ?_)|(refine za (fun K hK=>?_))|((refine zb (fun hcd=>?_) (fun hcd=>?_))<;>(try simp only [hcP] at hcd)<;>(try exact cdT))|(refine zd (f:=96) rfl Tryz.call96 (h:=AEq.sub' [_,_] (hc:=kt _ _ _ _ _ aoT aoT aoT aoT aoT) (hq:=?_)))|((refine ze [0,1,2] (by rw [Tryz.results97,Lf.vJ]) z5 ?_)<;>(try (first|exact zh|exact stT)))|(refine hK _ _ ?_;clear hK K))
theorem zr0 (f : Bool) (b : List UInt8) (a : Int) (sh : Bool) (g s p : Int) (h0 : 0 ≤ a) (h1 : a ≤ b.length) (h2 : b.length ≤ 1000000000) (hg0 : 0 ≤ g) (hg1 : g < 256) : AEq Tryz.prog 97 [.ptr 1 0,.ptr 0 0] [.box [i64 5,i64 g,i64 s,i64 p,.sl true false [],.sl true false [],i64 0,i64 0,bl false,i64 0,i64 0,i64 0,i64 0],.box [.ptr 2 0,bl sh],.box [.sl f false (b.map zf),i64 a]] (.tu []) [.box [i64 5,i64 g,i64 s,i64 p,.sl true false [],.sl true false [],i64 0,i64 0,bl false,i64 (yB (zJ (b.drop a.toNat) 4)),i64 0,i64 0,i64 0],.box [.ptr 2 0,bl (sh || shB b a 4)],.box [.sl f false (b.map zf),i64 (yh b a 4)]]:=by
 refine zc Tryz.func97 rfl Tryz.ntmps97 (by simp) (fun hsc=>?_);simp only [Lf.enter,Nat.reduceAdd];clear hsc
 have hU:=True.intro
 repeat' (first|(refine goR ?_)|(refine za (fun K hK=>?_))|((refine zb (fun hcd=>?_) (fun hcd=>?_))<;>(try simp only [hcP] at hcd)<;>(try exact cdT))|(refine zd (f:=146) rfl Tryz.call146 (h:=AEq.sub' [_,_] (hc:=zfB _ _ _ _ (by assumption) (by assumption) (by assumption)) (hq:=?_)))|((refine ze [0,1,2] (by rw [Tryz.results97,Lf.vJ]) z5 ?_)<;>(try (first|exact zh|exact stT)))|(refine hK _ _ ?_;clear hK K))
theorem zr1 (f : Bool) (b : List UInt8) (a : Int) (sh : Bool) (g s p : Int) (h0 : 0 ≤ a) (h1 : a ≤ b.length) (h2 : b.length ≤ 1000000000) (hg0 : 0 ≤ g) (hg1 : g < 256) : AEq Tryz.prog 97 [.ptr 1 0,.ptr 0 0] [.box [i64 7,i64 g,i64 s,i64 p,.sl true false [],.sl true false [],i64 0,i64 0,bl false,i64 0,i64 0,i64 0,i64 0],.box [.ptr 2 0,bl sh],.box [.sl f false (b.map zf),i64 a]] (.tu []) [.box [i64 7,i64 g,i64 s,i64 p,.sl true false [],.sl true false [],i64 0,i64 0,bl false,i64 0,i64 (yB (zJ (b.drop a.toNat) 4)),i64 (zJ (b.drop (yh b a 4).toNat) 4),i64 0],.box [.ptr 2 0,bl (sh || shB b a 8)],.box [.sl f false (b.map zf),i64 (yh b (yh b a 4) 4)]]:=by
 have hp:=zbd b a 4 h0 h1 (by decide)
 have hp1:=hp.1
 have hp2:=hp.2
 have hs:=zml (b:=b) (a:=a) (n:=4) (m:=4) (sh:=sh) (by decide) (by decide)
 rw [show (4 : Int) + 4 = 8 from rfl] at hs
 refine zc Tryz.func97 rfl Tryz.ntmps97 (by simp) (fun hsc=>?_);simp only [Lf.enter,Nat.reduceAdd];clear hsc
 have hU:=@hs
 repeat' (first|(refine goR ?_)|(refine za (fun K hK=>?_))|((refine zb (fun hcd=>?_) (fun hcd=>?_))<;>(try simp only [hcP] at hcd)<;>(try exact cdT))|(refine zd (f:=146) rfl Tryz.call146 (h:=AEq.sub' [_,_] (hc:=zfB _ _ _ _ aoT aoT aoT) (hq:=?_)))|(refine zd (f:=96) rfl Tryz.call96 (h:=AEq.sub' [_,_] (hc:=kt _ _ _ _ _ aoT aoT aoT aoT aoT) (hq:=?_)))|((refine ze [0,1,2] (by rw [Tryz.results97,Lf.vJ]) z5 ?_)<;>(try (first|exact zh|exact stT)))|(refine hK _ _ ?_;clear hK K))
theorem zr2 (f : Bool) (b : List UInt8) (a : Int) (sh : Bool) (g s p : Int) (h0 : 0 ≤ a) (h1 : a ≤ b.length) (h2 : b.length ≤ 1000000000) (hg0 : 0 ≤ g) (hg1 : g < 256) : AEq Tryz.prog 97 [.ptr 1 0,.ptr 0 0] [.box [i64 8,i64 g,i64 s,i64 p,.sl true false [],.sl true false [],i64 0,i64 0,bl false,i64 0,i64 0,i64 0,i64 0],.box [.ptr 2 0,bl sh],.box [.sl f false (b.map zf),i64 a]] (.tu []) [.box [i64 8,i64 g,i64 s,i64 p,.sl true false [],.sl true false [],i64 0,i64 0,bl false,i64 0,i64 0,i64 0,i64 (yB (zJ (b.drop a.toNat) 4))],.box [.ptr 2 0,bl (sh || shB b a 4)],.box [.sl f false (b.map zf),i64 (yh b a 4)]]:=by
 refine zc Tryz.func97 rfl Tryz.ntmps97 (by simp) (fun hsc=>?_);simp only [Lf.enter,Nat.reduceAdd];clear hsc
 have hU:=True.intro
 repeat' (first|(refine goR ?_)|(refine za (fun K hK=>?_))|((refine zb (fun hcd=>?_) (fun hcd=>?_))<;>(try simp only [hcP] at hcd)<;>(try exact cdT))|(refine zd (f:=146) rfl Tryz.call146 (h:=AEq.sub' [_,_] (hc:=zfB _ _ _ _ (by assumption) (by assumption) (by assumption)) (hq:=?_)))|((refine ze [0,1,2] (by rw [Tryz.results97,Lf.vJ]) z5 ?_)<;>(try (first|exact zh|exact stT)))|(refine hK _ _ ?_;clear hK K))
theorem zr3 (f : Bool) (b : List UInt8) (a : Int) (sh : Bool) (t : Int) (g s p : Int) (h0 : 0 ≤ a) (h1 : a ≤ b.length) (h2 : b.length ≤ 1000000000) (hg0 : 0 ≤ g) (hg1 : g < 256) (hh1 : ¬ t = 1) (hh2 : ¬ t = 2) (hh3 : ¬ t = 3) (hh5 : ¬ t = 5) (hh7 : ¬ t = 7) (hh8 : ¬ t = 8) : AEq Tryz.prog 97 [.ptr 1 0,.ptr 0 0] [.box [i64 t,i64 g,i64 s,i64 p,.sl true false [],.sl true false [],i64 0,i64 0,bl false,i64 0,i64 0,i64 0,i64 0],.box [.ptr 2 0,bl sh],.box [.sl f false (b.map zf),i64 a]] (.tu []) [.box [i64 t,i64 g,i64 s,i64 p,.sl true false [],.sl true false [],i64 0,i64 0,bl false,i64 0,i64 0,i64 0,i64 0],.box [.ptr 2 0,bl sh],.box [.sl f false (b.map zf),i64 (a)]]:=by
 refine zc Tryz.func97 rfl Tryz.ntmps97 (by simp) (fun hsc=>?_);simp only [Lf.enter,Nat.reduceAdd];clear hsc
 have hU:=True.intro
 repeat' (first|(refine goR ?_)|(refine za (fun K hK=>?_))|((refine zb (fun hcd=>?_) (fun hcd=>?_))<;>(try simp only [hcP] at hcd)<;>(try exact cdT))|((refine ze [0,1,2] (by rw [Tryz.results97,Lf.vJ]) z5 ?_)<;>(try (first|exact zh|exact stT)))|(refine hK _ _ ?_;clear hK K))
theorem ziD (a c : Int) : AEq Tryz.prog 53 [i64 a,i64 c] [] (.ag [i64 a,i64 c]) []:=by
 refine zc Tryz.func53 rfl Tryz.ntmps53 (by simp) (fun hsc=>?_);simp only [Lf.enter,Nat.reduceAdd];clear hsc
 have hU:=True.intro
 repeat' (first|(refine goR ?_)|(refine za (fun K hK=>?_))|((refine zY [] exT (by rfl) (by rw [Tryz.results53,Lf.yM];(try simp (disch:=omega) only [Lf.zD,go_sem,seval,↓reduceIte,hU]);rfl) sT sT (zj ?_) ?_)<;>(try (first|exact zh|exact stT)))|(refine hK _ _ ?_;clear hK K))
def scI (t : Int) : Int:=if t = 0 ∨ t = 2 then 1 else 2
theorem ziE (t : Int) : AEq Tryz.prog 55 [i64 t] [] (i64 (scI t)) []:=by
 by_cases h : t = 0 ∨ t = 2
 ·rw [show scI t = 1 from if_pos h]
  rcases h with rfl|rfl
  ·refine zc Tryz.func55 rfl Tryz.ntmps55 (by simp) (fun hsc => ?_); simp only [Lf.enter, Nat.reduceAdd]; clear hsc
   have hU:=True.intro
   repeat' (first|(refine goR ?_)|(refine za (fun K hK=>?_))|((refine zb (fun hcd=>?_) (fun hcd=>?_))<;>(try simp only [hcP] at hcd)<;>(try exact cdT))|((refine ze [] (by rw [Tryz.results55,Lf.zt]) (zj ?_) ?_)<;>(try (first|exact zh|exact stT)))|(refine hK _ _ ?_;clear hK K))
  ·refine zc Tryz.func55 rfl Tryz.ntmps55 (by simp) (fun hsc => ?_); simp only [Lf.enter, Nat.reduceAdd]; clear hsc
   have hU:=True.intro
   repeat' (first|(refine goR ?_)|(refine za (fun K hK=>?_))|((refine zb (fun hcd=>?_) (fun hcd=>?_))<;>(try simp only [hcP] at hcd)<;>(try exact cdT))|((refine ze [] (by rw [Tryz.results55,Lf.zt]) (zj ?_) ?_)<;>(try (first|exact zh|exact stT)))|(refine hK _ _ ?_;clear hK K))
 ·rw [show scI t = 2 from if_neg h]
  have h0 : ¬ t = 0:=by omega
  have h2 : ¬ t = 2:=by omega
  refine zc Tryz.func55 rfl Tryz.ntmps55 (by simp) (fun hsc=>?_);simp only [Lf.enter,Nat.reduceAdd];clear hsc
  have hU:=True.intro
  repeat' (first|(refine goR ?_)|(refine za (fun K hK=>?_))|((refine zb (fun hcd=>?_) (fun hcd=>?_))<;>(try simp only [hcP] at hcd)<;>(try exact cdT))|((refine ze [] (by rw [Tryz.results55,Lf.zt]) (zj ?_) ?_)<;>(try (first|exact zh|exact stT)))|(refine hK _ _ ?_;clear hK K))
def vj (t s : Int) : Bool:=if zcJ t = 0 then decide (s = 0) else if zcJ t = 1 then !decide (s = 0) else true
theorem ziF (w t g s : Int) (r f : Bool) (b : List UInt8) : AEq Tryz.prog 52 [.ag [i64 w,i64 t,i64 g,i64 s,bl r,.sl f false (b.map zf)]] [] (bl (vj t s)) []:=by
 by_cases h0 : zcJ t = 0
 ·rw [show vj t s = decide (s = 0) from if_pos h0]
  refine zc Tryz.func52 rfl Tryz.ntmps52 (by simp) (fun hsc=>?_);simp only [Lf.enter,Nat.reduceAdd];clear hsc
  have hU:=@h0
  repeat' (first|(refine goR ?_)|(refine za (fun K hK=>?_))|((refine zb (fun hcd=>?_) (fun hcd=>?_))<;>(try simp only [hcP] at hcd)<;>(try exact cdT))|(refine zd (f:=93) rfl Tryz.call93 (h:=AEq.pure' agT (zuX _) (hq:=?_)))|((refine ze [] (by rw [Tryz.results52,Lf.zt]) (zj ?_) ?_)<;>(try (first|exact zh|exact stT)))|(refine hK _ _ ?_;clear hK K))
  all_goals exact zq (by first|rfl|(simp;done))
 ·by_cases h1 : zcJ t = 1
  ·rw [show vj t s = !decide (s = 0) from (if_neg h0).trans (if_pos h1)]
   refine zc Tryz.func52 rfl Tryz.ntmps52 (by simp) (fun hsc=>?_);simp only [Lf.enter,Nat.reduceAdd];clear hsc
   have hU:=@h1
   repeat' (first|(refine goR ?_)|(refine za (fun K hK=>?_))|((refine zb (fun hcd=>?_) (fun hcd=>?_))<;>(try simp only [hcP] at hcd)<;>(try exact cdT))|(refine zd (f:=93) rfl Tryz.call93 (h:=AEq.pure' agT (zuX _) (hq:=?_)))|((refine ze [] (by rw [Tryz.results52,Lf.zt]) (zj ?_) ?_)<;>(try (first|exact zh|exact stT)))|(refine hK _ _ ?_;clear hK K))
   all_goals exact zq (by first|rfl|(simp;done))
  ·rw [show vj t s = true from (if_neg h0).trans (if_neg h1)]
   refine zc Tryz.func52 rfl Tryz.ntmps52 (by simp) (fun hsc=>?_);simp only [Lf.enter,Nat.reduceAdd];clear hsc
   have hU:=True.intro
   repeat' (first|(refine goR ?_)|(refine za (fun K hK=>?_))|((refine zb (fun hcd=>?_) (fun hcd=>?_))<;>(try simp only [hcP] at hcd)<;>(try exact cdT))|(refine zd (f:=93) rfl Tryz.call93 (h:=AEq.pure' agT (zuX _) (hq:=?_)))|((refine ze [] (by rw [Tryz.results52,Lf.zt]) (zj ?_) ?_)<;>(try (first|exact zh|exact stT)))|(refine hK _ _ ?_;clear hK K))
def vL (t g : Int) (n : Nat) : Bool:=if t = 2 then decide (n = 5) else if t = 3 ∨ t = 8 then decide (n = 4) else if t = 6 then decide (n = 8) else if t = 7 then decide (8 ≤ n) else if t = 4 then (if zB 4 g 1 = true then decide (n = 0) else decide (n % 6 = 0)) else true
theorem zdr (g : Int) (n : Nat) : vL 4 g n = if zB 4 g 1 = true then decide (n = 0) else decide (n % 6 = 0):=rfl
theorem zr4 (w t g s : Int) (r f : Bool) (b : List UInt8) (hg0 : 0 ≤ g) (hg1 : g < 256) (hb : b.length ≤ 1000000000) : AEq Tryz.prog 54 [.ag [i64 w,i64 t,i64 g,i64 s,bl r,.sl f false (b.map zf)]] [] (bl (vL t g b.length)) []:=by
 by_cases h2 : t = 2
 ·subst h2
  rw [show vL 2 g b.length = decide (b.length = 5) from rfl]
  refine zc Tryz.func54 rfl Tryz.ntmps54 (by simp) (fun hsc=>?_);simp only [Lf.enter,Nat.reduceAdd];clear hsc
  have hU:=True.intro
  repeat' (first|(refine goR ?_)|(refine za (fun K hK=>?_))|((refine zb (fun hcd=>?_) (fun hcd=>?_))<;>(try simp only [hcP] at hcd)<;>(try exact cdT))|((refine ze [] (by rw [Tryz.results54,Lf.zt]) (zj ?_) ?_)<;>(try (first|exact zh|exact stT)))|(refine hK _ _ ?_;clear hK K))
  all_goals exact zq (by grind)
 by_cases h3 : t = 3
 ·subst h3
  rw [show vL 3 g b.length = decide (b.length = 4) from rfl]
  refine zc Tryz.func54 rfl Tryz.ntmps54 (by simp) (fun hsc=>?_);simp only [Lf.enter,Nat.reduceAdd];clear hsc
  have hU:=True.intro
  repeat' (first|(refine goR ?_)|(refine za (fun K hK=>?_))|((refine zb (fun hcd=>?_) (fun hcd=>?_))<;>(try simp only [hcP] at hcd)<;>(try exact cdT))|((refine ze [] (by rw [Tryz.results54,Lf.zt]) (zj ?_) ?_)<;>(try (first|exact zh|exact stT)))|(refine hK _ _ ?_;clear hK K))
  all_goals exact zq (by grind)
 by_cases h8 : t = 8
 ·subst h8
  rw [show vL 8 g b.length = decide (b.length = 4) from rfl]
  refine zc Tryz.func54 rfl Tryz.ntmps54 (by simp) (fun hsc=>?_);simp only [Lf.enter,Nat.reduceAdd];clear hsc
  have hU:=True.intro
  repeat' (first|(refine goR ?_)|(refine za (fun K hK=>?_))|((refine zb (fun hcd=>?_) (fun hcd=>?_))<;>(try simp only [hcP] at hcd)<;>(try exact cdT))|((refine ze [] (by rw [Tryz.results54,Lf.zt]) (zj ?_) ?_)<;>(try (first|exact zh|exact stT)))|(refine hK _ _ ?_;clear hK K))
  all_goals exact zq (by grind)
 by_cases h6 : t = 6
 ·subst h6
  rw [show vL 6 g b.length = decide (b.length = 8) from rfl]
  refine zc Tryz.func54 rfl Tryz.ntmps54 (by simp) (fun hsc=>?_);simp only [Lf.enter,Nat.reduceAdd];clear hsc
  have hU:=True.intro
  repeat' (first|(refine goR ?_)|(refine za (fun K hK=>?_))|((refine zb (fun hcd=>?_) (fun hcd=>?_))<;>(try simp only [hcP] at hcd)<;>(try exact cdT))|((refine ze [] (by rw [Tryz.results54,Lf.zt]) (zj ?_) ?_)<;>(try (first|exact zh|exact stT)))|(refine hK _ _ ?_;clear hK K))
  all_goals exact zq (by grind)
 by_cases h7 : t = 7
 ·subst h7
  rw [show vL 7 g b.length = decide (8 ≤ b.length) from rfl]
  refine zc Tryz.func54 rfl Tryz.ntmps54 (by simp) (fun hsc=>?_);simp only [Lf.enter,Nat.reduceAdd];clear hsc
  have hU:=True.intro
  repeat' (first|(refine goR ?_)|(refine za (fun K hK=>?_))|((refine zb (fun hcd=>?_) (fun hcd=>?_))<;>(try simp only [hcP] at hcd)<;>(try exact cdT))|((refine ze [] (by rw [Tryz.results54,Lf.zt]) (zj ?_) ?_)<;>(try (first|exact zh|exact stT)))|(refine hK _ _ ?_;clear hK K))
  all_goals exact zq (by grind)
 by_cases h4 : t = 4
 ·subst h4
  cases hH : zB 4 g 1 with
  | true=>
   rw [show vL 4 g b.length = decide (b.length = 0) from (zdr g _).trans (if_pos hH)]
   refine zc Tryz.func54 rfl Tryz.ntmps54 (by simp) (fun hsc=>?_);simp only [Lf.enter,Nat.reduceAdd];clear hsc
   have hU:=@hH
   repeat' (first|(refine goR ?_)|(refine za (fun K hK=>?_))|((refine zb (fun hcd=>?_) (fun hcd=>?_))<;>(try simp only [hcP] at hcd)<;>(try exact cdT))|(refine zd (f:=94) rfl Tryz.call94 (h:=AEq.pure' agT (zbc _ _ _ aoT aoT aoT) (hq:=?_)))|((refine ze [] (by rw [Tryz.results54,Lf.zt]) (zj ?_) ?_)<;>(try (first|exact zh|exact stT)))|(refine hK _ _ ?_;clear hK K))
   all_goals exact zq (by grind)
  | false=>
   rw [show vL 4 g b.length = decide (b.length % 6 = 0) from (zdr g _).trans (if_neg (by rw [hH];simp))]
   refine zc Tryz.func54 rfl Tryz.ntmps54 (by simp) (fun hsc=>?_);simp only [Lf.enter,Nat.reduceAdd];clear hsc
   have hU:=@hH
   repeat' (first|(refine goR ?_)|(refine za (fun K hK=>?_))|((refine zb (fun hcd=>?_) (fun hcd=>?_))<;>(try simp only [hcP] at hcd)<;>(try exact cdT))|(refine zd (f:=94) rfl Tryz.call94 (h:=AEq.pure' agT (zbc _ _ _ aoT aoT aoT) (hq:=?_)))|((refine ze [] (by rw [Tryz.results54,Lf.zt]) (zj ?_) ?_)<;>(try (first|exact zh|exact stT)))|(refine hK _ _ ?_;clear hK K))
   all_goals exact zq (by grind)
 rw [show vL t g b.length = true from by unfold vL;rw [if_neg h2,if_neg (by omega),if_neg h6,if_neg h7,if_neg h4]]
 refine zc Tryz.func54 rfl Tryz.ntmps54 (by simp) (fun hsc=>?_);simp only [Lf.enter,Nat.reduceAdd];clear hsc
 have hU:=True.intro
 repeat' (first|(refine goR ?_)|(refine za (fun K hK=>?_))|((refine zb (fun hcd=>?_) (fun hcd=>?_))<;>(try simp only [hcP] at hcd)<;>(try exact cdT))|((refine ze [] (by rw [Tryz.results54,Lf.zt]) (zj ?_) ?_)<;>(try (first|exact zh|exact stT)))|(refine hK _ _ ?_;clear hK K))
end Go.Proofs.YtdalcgfnlbofdaaGreatDoor
