import Derived.Test.YtdalcgfnlbofdaaGreatDoorTg
import Derived.Test.YtdalcgfnlbofdaaGreatDoorZ06
import Derived.Test.YtdalcgfnlbofdaaGreatDoorZ05
import Derived.Test.YtdalcgfnlbofdaaGreatDoorZ01
import Derived.Test.YtdalcgfnlbofdaaGreatDoorLc
set_option linter.unusedVariables false
set_option linter.unusedSimpArgs false
namespace Go.Proofs.YtdalcgfnlbofdaaGreatDoor
open Go Go.Lf Go.Proofs
attribute [local irreducible] Lf.rg Lf.ro Lf.PWp Lf.SOp Lf.ACall Lf.Scoped Lf.dg Lf.dw
set_option maxRecDepth 20000
set_option maxHeartbeats 4000000
theorem zbG (s : Bool) (l : List UInt8) : (slP s l).length ≤ 4 * l.length + 6:=by
 have h1 : (slB s l).length ≤ 4 * l.length:=by
  cases s
  ·show l.length ≤ _;omega
  ·exact zhM l
 have h2:=zN (slF s) 7 ((slB s l).length : Int)
 unfold slP
 rw [List.length_append];omega
def rpB (k i : Int) (nm : List UInt8) (ns : Bool) (vl : List UInt8) (vs : Bool) (sz : Int) : List UInt8:=
 zaf (frI k) (biI k) (i + sz) ++ (if txB k = true then (if i = 0 then slP ns nm else []) ++ slP vs vl else [])
theorem zrl (sz : Int) : rpB 5 0 [] false [] false sz = zaf 32 5 sz:=by
 have e : rpB 5 0 [] false [] false sz = zaf 32 5 (0 + sz) ++ []:=rfl
 rw [e,List.append_nil,Int.zero_add]
theorem zrm (i : Int) : rpB 1 i [] false [] false 0 = zaf 128 7 i:=by
 have e : rpB 1 i [] false [] false 0 = zaf 128 7 (i + 0) ++ []:=rfl
 rw [e,List.append_nil,Int.add_zero]
theorem zbH {k : Int} (nm : List UInt8) (ns : Bool) (vl : List UInt8) (vs : Bool) (h : txB k = true) : rpB k 0 nm ns vl vs 0 = zaf (frI k) (biI k) 0 ++ slP ns nm ++ slP vs vl:=by
 unfold rpB
 rw [if_pos h,if_pos rfl,List.append_assoc,Int.add_zero]
theorem zbI {k i : Int} (vl : List UInt8) (vs : Bool) (h : txB k = true) (hi : ¬ i = 0) : rpB k i [] false vl vs 0 = zaf (frI k) (biI k) i ++ slP vs vl:=by
 unfold rpB
 rw [if_pos h,if_neg hi,List.nil_append,Int.add_zero]
theorem ze8 : (128 : Int) % pwI 7 = 0:=by decide
theorem zhP : (64 : Int) % pwI 6 = 0:=by decide
theorem zlS : (0 : Int) % pwI 4 = 0:=by decide
theorem zhQ : (16 : Int) % pwI 4 = 0:=by decide
theorem zhR : (32 : Int) % pwI 5 = 0:=by decide
theorem zrn {k i : Int} {nm : List UInt8} {ns : Bool} {vl : List UInt8} {vs : Bool} {sz : Int} (h : RP k i nm ns vl vs sz) : rOk k i nm ns vl vs sz = true:=decide_eq_true h
theorem ze9 {k i : Int} {nm : List UInt8} {ns : Bool} {vl : List UInt8} {vs : Bool} {sz : Int} (h : RP k i nm ns vl vs sz) :
    (k = 5 ∧ i = 0 ∧ nm = [] ∧ ns = false ∧ vl = [] ∧ vs = false ∧ 0 ≤ sz ∧ sz ≤ 2147483647) ∨ (k = 1 ∧ sz = 0 ∧ nm = [] ∧ ns = false ∧ vl = [] ∧ vs = false ∧ 0 < i ∧ i ≤ 2147483647) ∨
    ((k = 2 ∨ k = 3 ∨ k = 4) ∧ sz = 0 ∧ i = 0) ∨ ((k = 2 ∨ k = 3 ∨ k = 4) ∧ sz = 0 ∧ nm = [] ∧ ns = false ∧ 0 < i ∧ i ≤ 2147483647):=by
  unfold RP at h
  obtain ⟨⟨h1,h2⟩,⟨h3,h4⟩,⟨h5,h6⟩,h7⟩:=h
  rcases h7 with ⟨a,b,⟨c,d⟩,e,f⟩|⟨a,b,c,⟨d,e⟩,f,g⟩|⟨a,b,c,d⟩
  · exact .inl ⟨a,b,c,d,e,f,h5,h6⟩
  · exact .inr (.inl ⟨a,b,d,e,f,g,c,h4⟩)
  · by_cases hi : i = 0
    · exact .inr (.inr (.inl ⟨by omega,c,hi⟩))
    · rcases d with d | ⟨d, e⟩
      · exact absurd d hi
      · exact .inr (.inr (.inr ⟨by omega,c,d,e,by omega,h4⟩))
theorem ktx : txB 1 = false ∧ txB 2 = true ∧ txB 3 = true ∧ txB 4 = true ∧ txB 5 = false:=by decide
theorem kf1 : frI 1 = 128:=by decide
theorem kf2 : frI 2 = 64:=by decide
theorem kf3 : frI 3 = 0:=by decide
theorem kf4 : frI 4 = 16:=by decide
theorem kf5 : frI 5 = 32:=by decide
theorem kb1 : biI 1 = 7:=by decide
theorem kb2 : biI 2 = 6:=by decide
theorem kb3 : biI 3 = 4:=by decide
theorem kb4 : biI 4 = 4:=by decide
theorem kb5 : biI 5 = 5:=by decide
attribute [local irreducible] zaf slP rOk rpB frI biI txB pwI
theorem zhS (k i : Int) (nm : List UInt8) (ns : Bool) (vl : List UInt8) (vs : Bool) (sz : Int) (hnl : nm.length ≤ 100000) (hvl : vl.length ≤ 100000) (h : RP k i nm ns vl vs sz) : AEq Tryz.prog 174 [.ag [i64 k,i64 i,.lit (.string ⟨nm.toArray⟩),bl ns,.lit (.string ⟨vl.toArray⟩),bl vs,i64 sz]] [] (.tu [.sl false false ((rpB k i nm ns vl vs sz).map zf),i64 0]) []:=by
 have hok:=zrn h
 have hz1 : (0 : Int) + sz = sz:=Int.zero_add sz
 have hz2 : i + 0 = i:=Int.add_zero i
 have h71:=ze8
 have h72:=zhP
 have h73:=zlS
 have h74:=zhQ
 have h75:=zhR
 have hln:=zbG ns nm
 have hlv:=zbG vs vl
 rcases ze9 h with ⟨rfl,rfl,rfl,rfl,rfl,rfl,h5,h6⟩|⟨rfl,rfl,rfl,rfl,rfl,rfl,h5,h6⟩|⟨hk,rfl,rfl⟩|⟨hk,rfl,rfl,rfl,h5,h6⟩
 ·have ht : txB 5 = false := ktx.2.2.2.2
  have hf1:=kf5
  have hf2:=kb5
  have hpl:=zN 32 5 sz
  rw [zrl]
  refine zc Tryz.func174 rfl Tryz.ntmps174 (by simp) (fun hsc=>?_);simp only [Lf.enter,Nat.reduceAdd];clear hsc
  have hU:=And.intro @hok (@ht)
  repeat' (first|(refine goR ?_)|(guard_target =~ PWp _ _ _ _ _ _ _;refine zn (id:=6) [0,1,2,3,4,5,6,7,8,9,10,11,12,13,14,15,16] [11] mixed (by kernel_rfl) (by kernel_rfl) ?_)|(refine za (fun K hK=>?_))|((refine zb (fun hcd=>?_) (fun hcd=>?_))<;>(try simp only [hcP] at hcd)<;>(try exact cdT))|(refine zd (f:=198) rfl Tryz.call198 (h:=AEq.pure' agT (j5 _) (hq:=?_)))|(refine zd (f:=196) rfl Tryz.call196 (h:=AEq.pure' agT (j6 _ _ _ _ _ _ _) (hq:=?_)))|((refine ze [] (by rw [Tryz.results174,Lf.yb]) (zu ?_ ?_) ?_)<;>(try (first|exact zh|exact stT)))|(guard_target =~ dw _ _ _ _ _ _ _ _ _ _;first|((first|guard_target =~ dw _ _ _ _ _ (2 :: _) _ _ _ _|guard_target =~ dw _ _ _ _ _ (7 :: _) _ _ _ _);(refine vK rfl rfl (h:=(fun τ=>zQ (h:=zL rfl (hK:=zi ⟨rfl,rfl⟩)))) (hk:=?_)))|(guard_target =~ dw _ _ _ _ _ (11 :: _) _ _ _ _;(refine zaq rfl rfl (h:=zQ (h:=zd (f:=197) rfl Tryz.call197 (h:=AEq.sub' [] (hc:=kW _ _ _ aoT aoT aoT aoT aoT aoT aoT) (hq:=zi ⟨rfl,rfl⟩)))) (hk:=?_))))|(refine hK _ _ ?_;clear hK K))
 ·have ht : txB 1 = false := ktx.1
  have hf1:=kf1
  have hf2:=kb1
  have hpl:=zN 128 7 i
  rw [zrm]
  refine zc Tryz.func174 rfl Tryz.ntmps174 (by simp) (fun hsc=>?_);simp only [Lf.enter,Nat.reduceAdd];clear hsc
  have hU:=And.intro @hok (@ht)
  repeat' (first|(refine goR ?_)|(guard_target =~ PWp _ _ _ _ _ _ _;refine zn (id:=6) [0,1,2,3,4,5,6,7,8,9,10,11,12,13,14,15,16] [11] mixed (by kernel_rfl) (by kernel_rfl) ?_)|(refine za (fun K hK=>?_))|((refine zb (fun hcd=>?_) (fun hcd=>?_))<;>(try simp only [hcP] at hcd)<;>(try exact cdT))|(refine zd (f:=198) rfl Tryz.call198 (h:=AEq.pure' agT (j5 _) (hq:=?_)))|(refine zd (f:=196) rfl Tryz.call196 (h:=AEq.pure' agT (j6 _ _ _ _ _ _ _) (hq:=?_)))|((refine ze [] (by rw [Tryz.results174,Lf.yb]) (zu ?_ ?_) ?_)<;>(try (first|exact zh|exact stT)))|(guard_target =~ dw _ _ _ _ _ _ _ _ _ _;first|((first|guard_target =~ dw _ _ _ _ _ (2 :: _) _ _ _ _|guard_target =~ dw _ _ _ _ _ (7 :: _) _ _ _ _);(refine vK rfl rfl (h:=(fun τ=>zQ (h:=zL rfl (hK:=zi ⟨rfl,rfl⟩)))) (hk:=?_)))|(guard_target =~ dw _ _ _ _ _ (11 :: _) _ _ _ _;(refine zaq rfl rfl (h:=zQ (h:=zd (f:=197) rfl Tryz.call197 (h:=AEq.sub' [] (hc:=kW _ _ _ aoT aoT aoT aoT aoT aoT aoT) (hq:=zi ⟨rfl,rfl⟩)))) (hk:=?_))))|(refine hK _ _ ?_;clear hK K))
 ·rcases hk with rfl | rfl | rfl
  ·have ht : txB 2 = true := ktx.2.1
   have hf1:=kf2
   have hf2:=kb2
   have hpl:=zN 64 6 0
   rw [zbH nm ns vl vs ht,List.map_append,List.map_append,hf1,hf2]
   refine zc Tryz.func174 rfl Tryz.ntmps174 (by simp) (fun hsc=>?_);simp only [Lf.enter,Nat.reduceAdd];clear hsc
   have hU:=And.intro @hok (@ht)
   repeat' (first|(refine goS ?_)|(guard_target =~ PWp _ _ _ _ _ _ _;refine zn (id:=6) [0,1,2,3,4,5,6,7,8,9,10,11,12,13,14,15,16] [11] mixed (by kernel_rfl) (by kernel_rfl) ?_)|(refine za (fun K hK=>?_))|((refine zb (fun hcd=>?_) (fun hcd=>?_))<;>(try simp only [hcP] at hcd)<;>(try exact cdT))|(refine zd (f:=199) rfl Tryz.call199 (h:=AEq.pure' agT (zpn _ _ aoT) (hq:=?_)))|(refine zd (f:=198) rfl Tryz.call198 (h:=AEq.pure' agT (j5 _) (hq:=?_)))|(refine zd (f:=196) rfl Tryz.call196 (h:=AEq.pure' agT (j6 _ _ _ _ _ _ _) (hq:=?_)))|((refine ze [] (by rw [Tryz.results174,Lf.yb]) (zu ?_ ?_) ?_)<;>(try (first|exact zh|exact stT)))|(guard_target =~ dw _ _ _ _ _ _ _ _ _ _;first|((first|guard_target =~ dw _ _ _ _ _ (2 :: _) _ _ _ _|guard_target =~ dw _ _ _ _ _ (7 :: _) _ _ _ _);(refine vK rfl rfl (h:=(fun τ=>zQ (h:=zL rfl (hK:=zi ⟨rfl,rfl⟩)))) (hk:=?_)))|(guard_target =~ dw _ _ _ _ _ (11 :: _) _ _ _ _;(refine zaq rfl rfl (h:=zQ (h:=zd (f:=197) rfl Tryz.call197 (h:=AEq.sub' [] (hc:=kW _ _ _ aoT aoT aoT aoT aoT aoT aoT) (hq:=zi ⟨rfl,rfl⟩)))) (hk:=?_))))|(refine hK _ _ ?_;clear hK K))
  ·have ht : txB 3 = true := ktx.2.2.1
   have hf1:=kf3
   have hf2:=kb3
   have hpl:=zN 0 4 0
   rw [zbH nm ns vl vs ht,List.map_append,List.map_append,hf1,hf2]
   refine zc Tryz.func174 rfl Tryz.ntmps174 (by simp) (fun hsc=>?_);simp only [Lf.enter,Nat.reduceAdd];clear hsc
   have hU:=And.intro @hok (@ht)
   repeat' (first|(refine goS ?_)|(guard_target =~ PWp _ _ _ _ _ _ _;refine zn (id:=6) [0,1,2,3,4,5,6,7,8,9,10,11,12,13,14,15,16] [11] mixed (by kernel_rfl) (by kernel_rfl) ?_)|(refine za (fun K hK=>?_))|((refine zb (fun hcd=>?_) (fun hcd=>?_))<;>(try simp only [hcP] at hcd)<;>(try exact cdT))|(refine zd (f:=199) rfl Tryz.call199 (h:=AEq.pure' agT (zpn _ _ aoT) (hq:=?_)))|(refine zd (f:=198) rfl Tryz.call198 (h:=AEq.pure' agT (j5 _) (hq:=?_)))|(refine zd (f:=196) rfl Tryz.call196 (h:=AEq.pure' agT (j6 _ _ _ _ _ _ _) (hq:=?_)))|((refine ze [] (by rw [Tryz.results174,Lf.yb]) (zu ?_ ?_) ?_)<;>(try (first|exact zh|exact stT)))|(guard_target =~ dw _ _ _ _ _ _ _ _ _ _;first|((first|guard_target =~ dw _ _ _ _ _ (2 :: _) _ _ _ _|guard_target =~ dw _ _ _ _ _ (7 :: _) _ _ _ _);(refine vK rfl rfl (h:=(fun τ=>zQ (h:=zL rfl (hK:=zi ⟨rfl,rfl⟩)))) (hk:=?_)))|(guard_target =~ dw _ _ _ _ _ (11 :: _) _ _ _ _;(refine zaq rfl rfl (h:=zQ (h:=zd (f:=197) rfl Tryz.call197 (h:=AEq.sub' [] (hc:=kW _ _ _ aoT aoT aoT aoT aoT aoT aoT) (hq:=zi ⟨rfl,rfl⟩)))) (hk:=?_))))|(refine hK _ _ ?_;clear hK K))
  ·have ht : txB 4 = true := ktx.2.2.2.1
   have hf1:=kf4
   have hf2:=kb4
   have hpl:=zN 16 4 0
   rw [zbH nm ns vl vs ht,List.map_append,List.map_append,hf1,hf2]
   refine zc Tryz.func174 rfl Tryz.ntmps174 (by simp) (fun hsc=>?_);simp only [Lf.enter,Nat.reduceAdd];clear hsc
   have hU:=And.intro @hok (@ht)
   repeat' (first|(refine goS ?_)|(guard_target =~ PWp _ _ _ _ _ _ _;refine zn (id:=6) [0,1,2,3,4,5,6,7,8,9,10,11,12,13,14,15,16] [11] mixed (by kernel_rfl) (by kernel_rfl) ?_)|(refine za (fun K hK=>?_))|((refine zb (fun hcd=>?_) (fun hcd=>?_))<;>(try simp only [hcP] at hcd)<;>(try exact cdT))|(refine zd (f:=199) rfl Tryz.call199 (h:=AEq.pure' agT (zpn _ _ aoT) (hq:=?_)))|(refine zd (f:=198) rfl Tryz.call198 (h:=AEq.pure' agT (j5 _) (hq:=?_)))|(refine zd (f:=196) rfl Tryz.call196 (h:=AEq.pure' agT (j6 _ _ _ _ _ _ _) (hq:=?_)))|((refine ze [] (by rw [Tryz.results174,Lf.yb]) (zu ?_ ?_) ?_)<;>(try (first|exact zh|exact stT)))|(guard_target =~ dw _ _ _ _ _ _ _ _ _ _;first|((first|guard_target =~ dw _ _ _ _ _ (2 :: _) _ _ _ _|guard_target =~ dw _ _ _ _ _ (7 :: _) _ _ _ _);(refine vK rfl rfl (h:=(fun τ=>zQ (h:=zL rfl (hK:=zi ⟨rfl,rfl⟩)))) (hk:=?_)))|(guard_target =~ dw _ _ _ _ _ (11 :: _) _ _ _ _;(refine zaq rfl rfl (h:=zQ (h:=zd (f:=197) rfl Tryz.call197 (h:=AEq.sub' [] (hc:=kW _ _ _ aoT aoT aoT aoT aoT aoT aoT) (hq:=zi ⟨rfl,rfl⟩)))) (hk:=?_))))|(refine hK _ _ ?_;clear hK K))
 ·rcases hk with rfl | rfl | rfl
  ·have ht : txB 2 = true := ktx.2.1
   have hf1:=kf2
   have hf2:=kb2
   have hpl:=zN 64 6 i
   rw [zbI vl vs ht (by omega),List.map_append,hf1,hf2]
   refine zc Tryz.func174 rfl Tryz.ntmps174 (by simp) (fun hsc=>?_);simp only [Lf.enter,Nat.reduceAdd];clear hsc
   have hU:=And.intro @hok (@ht)
   repeat' (first|(refine goS ?_)|(guard_target =~ PWp _ _ _ _ _ _ _;refine zn (id:=6) [0,1,2,3,4,5,6,7,8,9,10,11,12,13,14,15,16] [11] mixed (by kernel_rfl) (by kernel_rfl) ?_)|(refine za (fun K hK=>?_))|((refine zb (fun hcd=>?_) (fun hcd=>?_))<;>(try simp only [hcP] at hcd)<;>(try exact cdT))|(refine zd (f:=199) rfl Tryz.call199 (h:=AEq.pure' agT (zpn _ _ aoT) (hq:=?_)))|(refine zd (f:=198) rfl Tryz.call198 (h:=AEq.pure' agT (j5 _) (hq:=?_)))|(refine zd (f:=196) rfl Tryz.call196 (h:=AEq.pure' agT (j6 _ _ _ _ _ _ _) (hq:=?_)))|((refine ze [] (by rw [Tryz.results174,Lf.yb]) (zu ?_ ?_) ?_)<;>(try (first|exact zh|exact stT)))|(guard_target =~ dw _ _ _ _ _ _ _ _ _ _;first|((first|guard_target =~ dw _ _ _ _ _ (2 :: _) _ _ _ _|guard_target =~ dw _ _ _ _ _ (7 :: _) _ _ _ _);(refine vK rfl rfl (h:=(fun τ=>zQ (h:=zL rfl (hK:=zi ⟨rfl,rfl⟩)))) (hk:=?_)))|(guard_target =~ dw _ _ _ _ _ (11 :: _) _ _ _ _;(refine zaq rfl rfl (h:=zQ (h:=zd (f:=197) rfl Tryz.call197 (h:=AEq.sub' [] (hc:=kW _ _ _ aoT aoT aoT aoT aoT aoT aoT) (hq:=zi ⟨rfl,rfl⟩)))) (hk:=?_))))|(refine hK _ _ ?_;clear hK K))
  ·have ht : txB 3 = true := ktx.2.2.1
   have hf1:=kf3
   have hf2:=kb3
   have hpl:=zN 0 4 i
   rw [zbI vl vs ht (by omega),List.map_append,hf1,hf2]
   refine zc Tryz.func174 rfl Tryz.ntmps174 (by simp) (fun hsc=>?_);simp only [Lf.enter,Nat.reduceAdd];clear hsc
   have hU:=And.intro @hok (@ht)
   repeat' (first|(refine goS ?_)|(guard_target =~ PWp _ _ _ _ _ _ _;refine zn (id:=6) [0,1,2,3,4,5,6,7,8,9,10,11,12,13,14,15,16] [11] mixed (by kernel_rfl) (by kernel_rfl) ?_)|(refine za (fun K hK=>?_))|((refine zb (fun hcd=>?_) (fun hcd=>?_))<;>(try simp only [hcP] at hcd)<;>(try exact cdT))|(refine zd (f:=199) rfl Tryz.call199 (h:=AEq.pure' agT (zpn _ _ aoT) (hq:=?_)))|(refine zd (f:=198) rfl Tryz.call198 (h:=AEq.pure' agT (j5 _) (hq:=?_)))|(refine zd (f:=196) rfl Tryz.call196 (h:=AEq.pure' agT (j6 _ _ _ _ _ _ _) (hq:=?_)))|((refine ze [] (by rw [Tryz.results174,Lf.yb]) (zu ?_ ?_) ?_)<;>(try (first|exact zh|exact stT)))|(guard_target =~ dw _ _ _ _ _ _ _ _ _ _;first|((first|guard_target =~ dw _ _ _ _ _ (2 :: _) _ _ _ _|guard_target =~ dw _ _ _ _ _ (7 :: _) _ _ _ _);(refine vK rfl rfl (h:=(fun τ=>zQ (h:=zL rfl (hK:=zi ⟨rfl,rfl⟩)))) (hk:=?_)))|(guard_target =~ dw _ _ _ _ _ (11 :: _) _ _ _ _;(refine zaq rfl rfl (h:=zQ (h:=zd (f:=197) rfl Tryz.call197 (h:=AEq.sub' [] (hc:=kW _ _ _ aoT aoT aoT aoT aoT aoT aoT) (hq:=zi ⟨rfl,rfl⟩)))) (hk:=?_))))|(refine hK _ _ ?_;clear hK K))
  ·have ht : txB 4 = true := ktx.2.2.2.1
   have hf1:=kf4
   have hf2:=kb4
   have hpl:=zN 16 4 i
   rw [zbI vl vs ht (by omega),List.map_append,hf1,hf2]
   refine zc Tryz.func174 rfl Tryz.ntmps174 (by simp) (fun hsc=>?_);simp only [Lf.enter,Nat.reduceAdd];clear hsc
   have hU:=And.intro @hok (@ht)
   repeat' (first|(refine goS ?_)|(guard_target =~ PWp _ _ _ _ _ _ _;refine zn (id:=6) [0,1,2,3,4,5,6,7,8,9,10,11,12,13,14,15,16] [11] mixed (by kernel_rfl) (by kernel_rfl) ?_)|(refine za (fun K hK=>?_))|((refine zb (fun hcd=>?_) (fun hcd=>?_))<;>(try simp only [hcP] at hcd)<;>(try exact cdT))|(refine zd (f:=199) rfl Tryz.call199 (h:=AEq.pure' agT (zpn _ _ aoT) (hq:=?_)))|(refine zd (f:=198) rfl Tryz.call198 (h:=AEq.pure' agT (j5 _) (hq:=?_)))|(refine zd (f:=196) rfl Tryz.call196 (h:=AEq.pure' agT (j6 _ _ _ _ _ _ _) (hq:=?_)))|((refine ze [] (by rw [Tryz.results174,Lf.yb]) (zu ?_ ?_) ?_)<;>(try (first|exact zh|exact stT)))|(guard_target =~ dw _ _ _ _ _ _ _ _ _ _;first|((first|guard_target =~ dw _ _ _ _ _ (2 :: _) _ _ _ _|guard_target =~ dw _ _ _ _ _ (7 :: _) _ _ _ _);(refine vK rfl rfl (h:=(fun τ=>zQ (h:=zL rfl (hK:=zi ⟨rfl,rfl⟩)))) (hk:=?_)))|(guard_target =~ dw _ _ _ _ _ (11 :: _) _ _ _ _;(refine zaq rfl rfl (h:=zQ (h:=zd (f:=197) rfl Tryz.call197 (h:=AEq.sub' [] (hc:=kW _ _ _ aoT aoT aoT aoT aoT aoT aoT) (hq:=zi ⟨rfl,rfl⟩)))) (hk:=?_))))|(refine hK _ _ ?_;clear hK K))
theorem zfa (k i : Int) (nm : List UInt8) (ns : Bool) (vl : List UInt8) (vs : Bool) (sz : Int) (hnl : nm.length ≤ 100000) (hvl : vl.length ≤ 100000) (h : RP k i nm ns vl vs sz) : AEq Tryz.prog 137 [.ag [i64 k,i64 i,.lit (.string ⟨nm.toArray⟩),bl ns,.lit (.string ⟨vl.toArray⟩),bl vs,i64 sz]] [] (.sl false false ((rpB k i nm ns vl vs sz).map zf)) []:=by
 have hok:=zrn h
 have hz1 : (0 : Int) + sz = sz:=Int.zero_add sz
 have hz2 : i + 0 = i:=Int.add_zero i
 have h71:=ze8
 have h72:=zhP
 have h73:=zlS
 have h74:=zhQ
 have h75:=zhR
 have hln:=zbG ns nm
 have hlv:=zbG vs vl
 rcases ze9 h with ⟨rfl,rfl,rfl,rfl,rfl,rfl,h5,h6⟩|⟨rfl,rfl,rfl,rfl,rfl,rfl,h5,h6⟩|⟨hk,rfl,rfl⟩|⟨hk,rfl,rfl,rfl,h5,h6⟩
 ·have ht : txB 5 = false := ktx.2.2.2.2
  have hf1:=kf5
  have hf2:=kb5
  have hpl:=zN 32 5 sz
  rw [zrl]
  refine zc Tryz.func137 rfl Tryz.ntmps137 (by simp) (fun hsc=>?_);simp only [Lf.enter,Nat.reduceAdd];clear hsc
  have hU:=And.intro @hf1 ( And.intro @hf2 (@hz1))
  repeat' (first|(refine goR ?_)|(refine za (fun K hK=>?_))|((refine zb (fun hcd=>?_) (fun hcd=>?_))<;>(try simp only [hcP] at hcd)<;>(try exact cdT))|(refine zd (f:=162) rfl Tryz.call162 (h:=AEq.pure' agT (j4 _) (hq:=?_)))|(refine zd (f:=180) rfl Tryz.call180 (h:=AEq.sub' [] (hc:=yV _ _ _ aoT aoT aoT aoT aoT aoT aoT) (hq:=?_)))|((refine ze [] (by rw [Tryz.results137,Lf.zt]) (zj ?_) ?_)<;>(try (first|exact zh|exact stT)))|(refine hK _ _ ?_;clear hK K))
 ·have ht : txB 1 = false := ktx.1
  have hf1:=kf1
  have hf2:=kb1
  have hpl:=zN 128 7 i
  rw [zrm]
  refine zc Tryz.func137 rfl Tryz.ntmps137 (by simp) (fun hsc=>?_);simp only [Lf.enter,Nat.reduceAdd];clear hsc
  have hU:=And.intro @hf1 ( And.intro @hf2 (@hz2))
  repeat' (first|(refine goR ?_)|(refine za (fun K hK=>?_))|((refine zb (fun hcd=>?_) (fun hcd=>?_))<;>(try simp only [hcP] at hcd)<;>(try exact cdT))|(refine zd (f:=162) rfl Tryz.call162 (h:=AEq.pure' agT (j4 _) (hq:=?_)))|(refine zd (f:=180) rfl Tryz.call180 (h:=AEq.sub' [] (hc:=yV _ _ _ aoT aoT aoT aoT aoT aoT aoT) (hq:=?_)))|((refine ze [] (by rw [Tryz.results137,Lf.zt]) (zj ?_) ?_)<;>(try (first|exact zh|exact stT)))|(refine hK _ _ ?_;clear hK K))
 ·rcases hk with rfl | rfl | rfl
  ·have ht : txB 2 = true := ktx.2.1
   have hf1:=kf2
   have hf2:=kb2
   have hpl:=zN 64 6 0
   rw [zbH nm ns vl vs ht,List.map_append,List.map_append,hf1,hf2]
   refine zc Tryz.func137 rfl Tryz.ntmps137 (by simp) (fun hsc=>?_);simp only [Lf.enter,Nat.reduceAdd];clear hsc
   have hU:=And.intro @hf1 (@hf2)
   repeat' (first|(refine goS ?_)|(refine za (fun K hK=>?_))|((refine zb (fun hcd=>?_) (fun hcd=>?_))<;>(try simp only [hcP] at hcd)<;>(try exact cdT))|(refine zd (f:=181) rfl Tryz.call181 (h:=AEq.pure' agT (zf7 _ _ aoT) (hq:=?_)))|(refine zd (f:=162) rfl Tryz.call162 (h:=AEq.pure' agT (j4 _) (hq:=?_)))|(refine zd (f:=180) rfl Tryz.call180 (h:=AEq.sub' [] (hc:=yV _ _ _ aoT aoT aoT aoT aoT aoT aoT) (hq:=?_)))|((refine ze [] (by rw [Tryz.results137,Lf.zt]) (zj ?_) ?_)<;>(try (first|exact zh|exact stT)))|(refine hK _ _ ?_;clear hK K))
  ·have ht : txB 3 = true := ktx.2.2.1
   have hf1:=kf3
   have hf2:=kb3
   have hpl:=zN 0 4 0
   rw [zbH nm ns vl vs ht,List.map_append,List.map_append,hf1,hf2]
   refine zc Tryz.func137 rfl Tryz.ntmps137 (by simp) (fun hsc=>?_);simp only [Lf.enter,Nat.reduceAdd];clear hsc
   have hU:=And.intro @hf1 (@hf2)
   repeat' (first|(refine goS ?_)|(refine za (fun K hK=>?_))|((refine zb (fun hcd=>?_) (fun hcd=>?_))<;>(try simp only [hcP] at hcd)<;>(try exact cdT))|(refine zd (f:=181) rfl Tryz.call181 (h:=AEq.pure' agT (zf7 _ _ aoT) (hq:=?_)))|(refine zd (f:=162) rfl Tryz.call162 (h:=AEq.pure' agT (j4 _) (hq:=?_)))|(refine zd (f:=180) rfl Tryz.call180 (h:=AEq.sub' [] (hc:=yV _ _ _ aoT aoT aoT aoT aoT aoT aoT) (hq:=?_)))|((refine ze [] (by rw [Tryz.results137,Lf.zt]) (zj ?_) ?_)<;>(try (first|exact zh|exact stT)))|(refine hK _ _ ?_;clear hK K))
  ·have ht : txB 4 = true := ktx.2.2.2.1
   have hf1:=kf4
   have hf2:=kb4
   have hpl:=zN 16 4 0
   rw [zbH nm ns vl vs ht,List.map_append,List.map_append,hf1,hf2]
   refine zc Tryz.func137 rfl Tryz.ntmps137 (by simp) (fun hsc=>?_);simp only [Lf.enter,Nat.reduceAdd];clear hsc
   have hU:=And.intro @hf1 (@hf2)
   repeat' (first|(refine goS ?_)|(refine za (fun K hK=>?_))|((refine zb (fun hcd=>?_) (fun hcd=>?_))<;>(try simp only [hcP] at hcd)<;>(try exact cdT))|(refine zd (f:=181) rfl Tryz.call181 (h:=AEq.pure' agT (zf7 _ _ aoT) (hq:=?_)))|(refine zd (f:=162) rfl Tryz.call162 (h:=AEq.pure' agT (j4 _) (hq:=?_)))|(refine zd (f:=180) rfl Tryz.call180 (h:=AEq.sub' [] (hc:=yV _ _ _ aoT aoT aoT aoT aoT aoT aoT) (hq:=?_)))|((refine ze [] (by rw [Tryz.results137,Lf.zt]) (zj ?_) ?_)<;>(try (first|exact zh|exact stT)))|(refine hK _ _ ?_;clear hK K))
 ·rcases hk with rfl | rfl | rfl
  ·have ht : txB 2 = true := ktx.2.1
   have hf1:=kf2
   have hf2:=kb2
   have hpl:=zN 64 6 i
   rw [zbI vl vs ht (by omega),List.map_append,hf1,hf2]
   refine zc Tryz.func137 rfl Tryz.ntmps137 (by simp) (fun hsc=>?_);simp only [Lf.enter,Nat.reduceAdd];clear hsc
   have hU:=And.intro @hf1 ( And.intro @hf2 (@hz2))
   repeat' (first|(refine goS ?_)|(refine za (fun K hK=>?_))|((refine zb (fun hcd=>?_) (fun hcd=>?_))<;>(try simp only [hcP] at hcd)<;>(try exact cdT))|(refine zd (f:=181) rfl Tryz.call181 (h:=AEq.pure' agT (zf7 _ _ aoT) (hq:=?_)))|(refine zd (f:=162) rfl Tryz.call162 (h:=AEq.pure' agT (j4 _) (hq:=?_)))|(refine zd (f:=180) rfl Tryz.call180 (h:=AEq.sub' [] (hc:=yV _ _ _ aoT aoT aoT aoT aoT aoT aoT) (hq:=?_)))|((refine ze [] (by rw [Tryz.results137,Lf.zt]) (zj ?_) ?_)<;>(try (first|exact zh|exact stT)))|(refine hK _ _ ?_;clear hK K))
  ·have ht : txB 3 = true := ktx.2.2.1
   have hf1:=kf3
   have hf2:=kb3
   have hpl:=zN 0 4 i
   rw [zbI vl vs ht (by omega),List.map_append,hf1,hf2]
   refine zc Tryz.func137 rfl Tryz.ntmps137 (by simp) (fun hsc=>?_);simp only [Lf.enter,Nat.reduceAdd];clear hsc
   have hU:=And.intro @hf1 ( And.intro @hf2 (@hz2))
   repeat' (first|(refine goS ?_)|(refine za (fun K hK=>?_))|((refine zb (fun hcd=>?_) (fun hcd=>?_))<;>(try simp only [hcP] at hcd)<;>(try exact cdT))|(refine zd (f:=181) rfl Tryz.call181 (h:=AEq.pure' agT (zf7 _ _ aoT) (hq:=?_)))|(refine zd (f:=162) rfl Tryz.call162 (h:=AEq.pure' agT (j4 _) (hq:=?_)))|(refine zd (f:=180) rfl Tryz.call180 (h:=AEq.sub' [] (hc:=yV _ _ _ aoT aoT aoT aoT aoT aoT aoT) (hq:=?_)))|((refine ze [] (by rw [Tryz.results137,Lf.zt]) (zj ?_) ?_)<;>(try (first|exact zh|exact stT)))|(refine hK _ _ ?_;clear hK K))
  ·have ht : txB 4 = true := ktx.2.2.2.1
   have hf1:=kf4
   have hf2:=kb4
   have hpl:=zN 16 4 i
   rw [zbI vl vs ht (by omega),List.map_append,hf1,hf2]
   refine zc Tryz.func137 rfl Tryz.ntmps137 (by simp) (fun hsc=>?_);simp only [Lf.enter,Nat.reduceAdd];clear hsc
   have hU:=And.intro @hf1 ( And.intro @hf2 (@hz2))
   repeat' (first|(refine goS ?_)|(refine za (fun K hK=>?_))|((refine zb (fun hcd=>?_) (fun hcd=>?_))<;>(try simp only [hcP] at hcd)<;>(try exact cdT))|(refine zd (f:=181) rfl Tryz.call181 (h:=AEq.pure' agT (zf7 _ _ aoT) (hq:=?_)))|(refine zd (f:=162) rfl Tryz.call162 (h:=AEq.pure' agT (j4 _) (hq:=?_)))|(refine zd (f:=180) rfl Tryz.call180 (h:=AEq.sub' [] (hc:=yV _ _ _ aoT aoT aoT aoT aoT aoT aoT) (hq:=?_)))|((refine ze [] (by rw [Tryz.results137,Lf.zt]) (zj ?_) ?_)<;>(try (first|exact zh|exact stT)))|(refine hK _ _ ?_;clear hK K))
end Go.Proofs.YtdalcgfnlbofdaaGreatDoor
