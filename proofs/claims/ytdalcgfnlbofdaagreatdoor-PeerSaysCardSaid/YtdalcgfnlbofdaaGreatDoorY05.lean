import Derived.Test.YtdalcgfnlbofdaaGreatDoorY03
import Derived.Test.YtdalcgfnlbofdaaGreatDoorY04
import Derived.Test.YtdalcgfnlbofdaaGreatDoorY01
import Derived.Test.YtdalcgfnlbofdaaGreatDoorPc
set_option linter.unusedVariables false
set_option linter.unusedSimpArgs false
namespace Go.Proofs.YtdalcgfnlbofdaaGreatDoor
open Go Go.Lf Go.Proofs
attribute [local irreducible] Lf.rg Lf.ro Lf.PWp Lf.SOp Lf.ACall Lf.Scoped Lf.dg Lf.dw
set_option maxRecDepth 20000
set_option maxHeartbeats 4000000
/-! the greater of two by zd5 -/
def slB (s : Bool) (l : List UInt8) : List UInt8:=if s then vv (zak l) else l
def slF (s : Bool) : Int:=if s then 128 else 0
def slP (s : Bool) (l : List UInt8) : List UInt8:=zav (slF s) 7 ((slB s l).length : Int) ++ slB s l
theorem ztz (l : List UInt8) : slP false l = zav 0 7 (l.length : Int) ++ l:=rfl
theorem ztA (l : List UInt8) : slP true l = zav 128 7 ((vv (zak l)).length : Int) ++ vv (zak l):=rfl
theorem zlh (l : List UInt8) : (vv (zak l)).length ≤ 4 * l.length:=by
 have h1:=zcj l
 rw [zcf];omega
theorem yK (f b n : Int) : 1 ≤ (zav f b n).length ∧ (zav f b n).length ≤ 6:=by
 unfold zav
 split
 ·rw [vt];omega
 ·have := ze3 4 (n - (pwI b - 1))
  rw [List.length_append,vt];omega
theorem zzk : (0 : Int) % pwI 7 = 0:=by decide
theorem zqy : (128 : Int) % pwI 7 = 0:=by decide
def hiB (b : List UInt8) : Bool := match b[0]? with
 | some x=>decide (¬ (x.toNat : Int) < 128)
 | none=>false
def zoJ (b : List UInt8) (k n : Nat) : List UInt8:=(b.drop k).take n
def slG (b : List UInt8) (most : Int) : List UInt8 × Bool × Int × Int:=
 if (pgG b 7).2.2 ≠ 0 then ([],false,0,(pgG b 7).2.2)
 else if max most 0 < (pgG b 7).1 then ([],false,0,9)
 else if (b.length : Int) - (pgG b 7).2.1 < (pgG b 7).1 then ([],false,0,3)
 else if hiB b = false then (zoJ b (pgG b 7).2.1.toNat (pgG b 7).1.toNat,false,(pgG b 7).2.1 + (pgG b 7).1,0)
 else if (huM (zcc (zoJ b (pgG b 7).2.1.toNat (pgG b 7).1.toNat)) 0 0 []).2 ≠ 0 then ([],false,0,(huM (zcc (zoJ b (pgG b 7).2.1.toNat (pgG b 7).1.toNat)) 0 0 []).2)
 else ((huM (zcc (zoJ b (pgG b 7).2.1.toNat (pgG b 7).1.toNat)) 0 0 []).1,true,(pgG b 7).2.1 + (pgG b 7).1,0)
attribute [local irreducible] pwI zav pgF pgG huM zcc vv zak
theorem zoK (l : List UInt8) (s : Bool) (hl : l.length ≤ 100000) : AEq Tryz.prog 199 [.lit (.string ⟨l.toArray⟩),bl s] [] (.sl false false ((slP s l).map zf)) []:=by
 have h70:=zzk
 have h71:=zqy
 have hel:=zlh l
 cases s with
 | false=>
  have hpl:=yK 0 7 (l.length : Int)
  rw [ztz,List.map_append]
  refine zc Tryz.func199 rfl Tryz.ntmps199 (by simp) (fun hsc=>?_);simp only [Lf.enter,Nat.reduceAdd];clear hsc
  have hU:=True.intro
  repeat' (first|(guard_target =~ PWp _ _ _ _ _ _ _;first|(refine za (fun K hK=>?_))|(refine zn ?_)|(refine zJ ?_)|(refine zE ?_)|((refine zb (fun hcd=>?_) (fun hcd=>?_))<;>(try simp only [hcP] at hcd)<;>(try exact cdT)))|(guard_target =~ rg _ _ _ _ _ _ _;first|(guard_target =~ rg _ _ _ [] _ _ _;first|(refine zS ?_))|(refine ks rfl (h:=?_))|(refine zaJ rfl (hy:=rfl) (h:=?_))|(refine vV rfl (h:=?_))|(refine ka rfl ?_))|(guard_target =~ SOp _ _ _ _ _ _;first|(guard_target =~ SOp _ _ ⟨_,.call ⟨.value (.func 197),_,_⟩,_,_,_,none⟩ _ _ _;first|(refine zd (f:=197) rfl Tryz.call197 (h:=AEq.sub' [] (hc:=kY _ _ _ aoT aoT aoT aoT aoT aoT aoT) (hq:=?_))))|(guard_target =~ SOp _ _ ⟨_,.call ⟨.builtin .append,_,_⟩,_,_,_,none⟩ _ _ _;first|(refine zo rfl (he:=by first|exact eo3|exact eo4|exact eo5|exact eo9|exact jz|exact jA|fail) (hK:=?_)))|(guard_target =~ SOp _ _ ⟨_,.convert _ _ _,_,_,_,none⟩ _ _ _;first|(refine zg9 rfl (by first|(simp (disch:=omega) only [go_sem,seval,↓reduceIte,hU];done)|rfl) sT (by first|(simp (disch:=omega) only [go_sem,seval,↓reduceIte,hU];done)|rfl) sT (by (try simp only [List.length_map,List.length_append,List.length_cons,List.length_nil,List.length_replicate,List.length_take,List.length_drop,List.length_set]);omega) ?_)))|(guard_target =~ (_ ∨ _) ∧ _;first|((refine zh [] (by rw [Tryz.results199,Lf.zy]) (zj ?_) ?_)<;>(try (first|exact zi|exact stq (by with_reducible rfl)|exact stq (by rfl)|exact stq (by simp (disch:=omega) only [go_sem,seval,↓reduceIte,hU])))))|(refine hK _ _ ?_;clear hK K))
 | true=>
  have hpl:=yK 128 7 ((vv (zak l)).length : Int)
  rw [ztA,List.map_append]
  refine zc Tryz.func199 rfl Tryz.ntmps199 (by simp) (fun hsc=>?_);simp only [Lf.enter,Nat.reduceAdd];clear hsc
  have hU:=True.intro
  repeat' (first|(guard_target =~ PWp _ _ _ _ _ _ _;first|(refine za (fun K hK=>?_))|(refine zn ?_)|(refine zJ ?_)|((refine zb (fun hcd=>?_) (fun hcd=>?_))<;>(try simp only [hcP] at hcd)<;>(try exact cdT)))|(guard_target =~ rg _ _ _ _ _ _ _;first|(guard_target =~ rg _ _ _ [] _ _ _;first|(refine zS ?_))|(refine ks rfl (h:=?_))|(refine zaJ rfl (hy:=rfl) (h:=?_))|(refine vV rfl (h:=?_))|(refine ka rfl ?_))|(guard_target =~ SOp _ _ _ _ _ _;first|(guard_target =~ SOp _ _ ⟨_,.call ⟨.value (.func 197),_,_⟩,_,_,_,none⟩ _ _ _;first|(refine zd (f:=197) rfl Tryz.call197 (h:=AEq.sub' [] (hc:=kY _ _ _ aoT aoT aoT aoT aoT aoT aoT) (hq:=?_))))|(guard_target =~ SOp _ _ ⟨_,.call ⟨.builtin .append,_,_⟩,_,_,_,none⟩ _ _ _;first|(refine zo rfl (he:=by first|exact eo3|exact eo4|exact eo5|exact eo9|exact jz|exact jA|fail) (hK:=?_)))|(guard_target =~ SOp _ _ ⟨_,.call ⟨.value (.func 222),_,_⟩,_,_,_,none⟩ _ _ _;first|(refine zd (f:=222) rfl Tryz.call222 (h:=AEq.pure' agT (zmP _ _ _ aoT) (hq:=?_))))|(guard_target =~ SOp _ _ ⟨_,.convert _ _ _,_,_,_,none⟩ _ _ _;first|(refine zg9 rfl (by first|(simp (disch:=omega) only [go_sem,seval,↓reduceIte,hU];done)|rfl) sT (by first|(simp (disch:=omega) only [go_sem,seval,↓reduceIte,hU];done)|rfl) sT (by (try simp only [List.length_map,List.length_append,List.length_cons,List.length_nil,List.length_replicate,List.length_take,List.length_drop,List.length_set]);omega) ?_)))|(guard_target =~ (_ ∨ _) ∧ _;first|((refine zh [] (by rw [Tryz.results199,Lf.zy]) (zj ?_) ?_)<;>(try (first|exact zi|exact stq (by with_reducible rfl)|exact stq (by rfl)|exact stq (by simp (disch:=omega) only [go_sem,seval,↓reduceIte,hU])))))|(refine hK _ _ ?_;clear hK K))
attribute [local irreducible] slG zoJ
end Go.Proofs.YtdalcgfnlbofdaaGreatDoor
namespace Go.Proofs.YtdalcgfnlbofdaaGreatDoor
open Go Go.Lf Go.Proofs
attribute [local irreducible] Lf.rg Lf.ro Lf.PWp Lf.SOp Lf.ACall Lf.Scoped Lf.dg Lf.dw
set_option maxRecDepth 20000
set_option maxHeartbeats 4000000
attribute [local irreducible] pwI zav pgG huM zcc vv zak slG zoJ
end Go.Proofs.YtdalcgfnlbofdaaGreatDoor
namespace Go.Proofs.YtdalcgfnlbofdaaGreatDoor
open Go Go.Lf Go.Proofs
attribute [local irreducible] Lf.rg Lf.ro Lf.PWp Lf.SOp Lf.ACall Lf.Scoped Lf.dg Lf.dw
set_option maxRecDepth 20000
set_option maxHeartbeats 4000000
theorem ze7 (s : Bool) (l : List UInt8) : (slP s l).length ≤ 4 * l.length + 6:=by
 have h1 : (slB s l).length ≤ 4 * l.length:=by
  cases s
  ·show l.length ≤ _;omega
  ·exact zlh l
 have h2:=yK (slF s) 7 ((slB s l).length : Int)
 unfold slP
 rw [List.length_append];omega
def rpB (k i : Int) (nm : List UInt8) (ns : Bool) (vl : List UInt8) (vs : Bool) (sz : Int) : List UInt8:=
 zav (frI k) (biI k) (i + sz) ++ (if txB k = true then (if i = 0 then slP ns nm else []) ++ slP vs vl else [])
theorem ztB (sz : Int) : rpB 5 0 [] false [] false sz = zav 32 5 sz:=by
 have e : rpB 5 0 [] false [] false sz = zav 32 5 (0 + sz) ++ []:=rfl
 rw [e,List.append_nil,Int.zero_add]
theorem ztC (i : Int) : rpB 1 i [] false [] false 0 = zav 128 7 i:=by
 have e : rpB 1 i [] false [] false 0 = zav 128 7 (i + 0) ++ []:=rfl
 rw [e,List.append_nil,Int.add_zero]
theorem zhu {k : Int} (nm : List UInt8) (ns : Bool) (vl : List UInt8) (vs : Bool) (h : txB k = true) : rpB k 0 nm ns vl vs 0 = zav (frI k) (biI k) 0 ++ slP ns nm ++ slP vs vl:=by
 unfold rpB
 rw [if_pos h,if_pos rfl,List.append_assoc,Int.add_zero]
theorem zhv {k i : Int} (vl : List UInt8) (vs : Bool) (h : txB k = true) (hi : ¬ i = 0) : rpB k i [] false vl vs 0 = zav (frI k) (biI k) i ++ slP vs vl:=by
 unfold rpB
 rw [if_pos h,if_neg hi,List.nil_append,Int.add_zero]
theorem zj4 : (128 : Int) % pwI 7 = 0:=by decide
theorem zmW : (64 : Int) % pwI 6 = 0:=by decide
theorem zqz : (0 : Int) % pwI 4 = 0:=by decide
theorem zmX : (16 : Int) % pwI 4 = 0:=by decide
theorem zmY : (32 : Int) % pwI 5 = 0:=by decide
theorem ztD {k i : Int} {nm : List UInt8} {ns : Bool} {vl : List UInt8} {vs : Bool} {sz : Int} (h : RP k i nm ns vl vs sz) : rOk k i nm ns vl vs sz = true:=decide_eq_true h
theorem zj5 {k i : Int} {nm : List UInt8} {ns : Bool} {vl : List UInt8} {vs : Bool} {sz : Int} (h : RP k i nm ns vl vs sz) :
    (k = 5 ∧ i = 0 ∧ nm = [] ∧ ns = false ∧ vl = [] ∧ vs = false ∧ 0 ≤ sz ∧ sz ≤ 2147483647) ∨ (k = 1 ∧ sz = 0 ∧ nm = [] ∧ ns = false ∧ vl = [] ∧ vs = false ∧ 0 < i ∧ i ≤ 2147483647) ∨
    ((k = 2 ∨ k = 3 ∨ k = 4) ∧ sz = 0 ∧ i = 0) ∨ ((k = 2 ∨ k = 3 ∨ k = 4) ∧ sz = 0 ∧ nm = [] ∧ ns = false ∧ 0 < i ∧ i ≤ 2147483647):=by
  unfold RP at h
  obtain ⟨⟨h1,h2⟩,⟨h3,h4⟩,⟨h5,h6⟩,h7⟩:=h
  rcases h7 with ⟨a,b,⟨c,d⟩,e,f⟩|⟨a,b,c,⟨d,e⟩,f,g⟩|⟨a,b,c,d⟩
  · exact .inl ⟨a,b,c,d,e,f,h5,h6⟩
  · exact .inr (.inl ⟨a,b,d,e,f,g,c,h4⟩)
  · by_cases hi : i = 0
    · exact .inr (.inr (.inl ⟨by omega,c,hi⟩))
    · rcases d with d | ⟨d, e⟩
      · exact absurd d hi
      · exact .inr (.inr (.inr ⟨by omega,c,d,e,by omega,h4⟩))
theorem ktx : txB 1 = false ∧ txB 2 = true ∧ txB 3 = true ∧ txB 4 = true ∧ txB 5 = false:=by decide
theorem kf1 : frI 1 = 128:=by decide
theorem kf2 : frI 2 = 64:=by decide
theorem kf3 : frI 3 = 0:=by decide
theorem kf4 : frI 4 = 16:=by decide
theorem kf5 : frI 5 = 32:=by decide
theorem kb1 : biI 1 = 7:=by decide
theorem kb2 : biI 2 = 6:=by decide
theorem kb3 : biI 3 = 4:=by decide
theorem kb4 : biI 4 = 4:=by decide
theorem kb5 : biI 5 = 5:=by decide
attribute [local irreducible] zav slP rOk rpB frI biI txB pwI
theorem zhw (k i : Int) (nm : List UInt8) (ns : Bool) (vl : List UInt8) (vs : Bool) (sz : Int) (hnl : nm.length ≤ 100000) (hvl : vl.length ≤ 100000) (h : RP k i nm ns vl vs sz) : AEq Tryz.prog 174 [.ag [i64 k,i64 i,.lit (.string ⟨nm.toArray⟩),bl ns,.lit (.string ⟨vl.toArray⟩),bl vs,i64 sz]] [] (.tu [.sl false false ((rpB k i nm ns vl vs sz).map zf),i64 0]) []:=by
 have hok:=ztD h
 have hz1 : (0 : Int) + sz = sz:=Int.zero_add sz
 have hz2 : i + 0 = i:=Int.add_zero i
 have h71:=zj4
 have h72:=zmW
 have h73:=zqz
 have h74:=zmX
 have h75:=zmY
 have hln:=ze7 ns nm
 have hlv:=ze7 vs vl
 rcases zj5 h with ⟨rfl,rfl,rfl,rfl,rfl,rfl,h5,h6⟩|⟨rfl,rfl,rfl,rfl,rfl,rfl,h5,h6⟩|⟨hk,rfl,rfl⟩|⟨hk,rfl,rfl,rfl,h5,h6⟩
 ·have ht : txB 5 = false := ktx.2.2.2.2
  have hf1:=kf5
  have hf2:=kb5
  have hpl:=yK 32 5 sz
  rw [ztB]
  refine zc Tryz.func174 rfl Tryz.ntmps174 (by simp) (fun hsc=>?_);simp only [Lf.enter,Nat.reduceAdd];clear hsc
  have hU:=And.intro @hok (@ht)
  repeat' (first|(guard_target =~ PWp _ _ _ _ _ _ _;first|(refine zp (id:=6) [0,1,2,3,4,5,6,7,8,9,10,11,12,13,14,15,16] [11] mixed (by kernel_rfl) (by kernel_rfl) ?_)|(refine za (fun K hK=>?_))|(refine zn ?_)|(refine zJ ?_)|(refine zE ?_)|((refine zb (fun hcd=>?_) (fun hcd=>?_))<;>(try simp only [hcP] at hcd)<;>(try exact cdT)))|(guard_target =~ rg _ _ _ _ _ _ _;first|(guard_target =~ rg _ _ _ (⟨_,.call ⟨.value (.func 198),_,_⟩,_,_,_,some _⟩ :: _) _ _ _;first|(refine zl rfl (h:=?_))|(refine zr rfl (h:=?_)))|(guard_target =~ rg _ _ _ (⟨_,.load _ _,_,_,_,some _⟩ :: _) _ _ _;first|(refine zl rfl (h:=?_))|(refine zr rfl (h:=?_)))|(guard_target =~ rg _ _ _ (⟨_,.unOp _ _ _,_,_,_,some _⟩ :: _) _ _ _;first|(refine zl rfl (h:=?_))|(refine zr rfl (h:=?_)))|(guard_target =~ rg _ _ _ (⟨_,.fieldAddr _ _ _,_,_,_,some _⟩ :: _) _ _ _;first|(refine zl rfl (h:=?_))|(refine zr rfl (h:=?_)))|(guard_target =~ rg _ _ _ [] _ _ _;first|(refine zS ?_))|(refine ks rfl (h:=?_))|(refine vV rfl (h:=?_))|(refine ka rfl ?_))|(guard_target =~ SOp _ _ _ _ _ _;first|(guard_target =~ SOp _ _ ⟨_,.call ⟨.value (.func 198),_,_⟩,_,_,_,some _⟩ _ _ _;first|(refine zd (f:=198) rfl Tryz.call198 (h:=AEq.pure' agT (zac _) (hq:=?_))))|(guard_target =~ SOp _ _ ⟨_,.box _ _,_,_,_,none⟩ _ _ _;first|(refine y7 rfl (hK:=?_)))|(guard_target =~ SOp _ _ ⟨_,.call ⟨.value (.func 196),_,_⟩,_,_,_,none⟩ _ _ _;first|(refine zd (f:=196) rfl Tryz.call196 (h:=AEq.pure' agT (zad _ _ _ _ _ _ _) (hq:=?_)))))|(guard_target =~ dw _ _ _ _ _ _ _ _ _ _;first|((first|guard_target =~ dw _ _ _ _ _ (0 :: _) _ _ _ _|guard_target =~ dw _ _ _ _ _ (3 :: _) _ _ _ _|guard_target =~ dw _ _ _ _ _ (5 :: _) _ _ _ _|guard_target =~ dw _ _ _ _ _ (8 :: _) _ _ _ _);first|(refine z9 rfl rfl (h:=(fun τ=>zR rfl (h:=ze ⟨rfl,rfl⟩))) (hk:=?_))|(refine vX rfl rfl (h:=zR rfl (h:=ze ⟨rfl,rfl⟩)) (hk:=?_)))|((first|guard_target =~ dw _ _ _ _ _ (1 :: _) _ _ _ _|guard_target =~ dw _ _ _ _ _ (4 :: _) _ _ _ _|guard_target =~ dw _ _ _ _ _ (6 :: _) _ _ _ _|guard_target =~ dw _ _ _ _ _ (9 :: _) _ _ _ _);first|(refine z9 rfl rfl (h:=(fun τ=>zR rfl (h:=ze ⟨rfl,rfl⟩))) (hk:=?_))|(refine vX rfl rfl (h:=zR rfl (h:=ze ⟨rfl,rfl⟩)) (hk:=?_)))|((first|guard_target =~ dw _ _ _ _ _ (2 :: _) _ _ _ _|guard_target =~ dw _ _ _ _ _ (7 :: _) _ _ _ _);first|(refine z9 rfl rfl (h:=(fun τ=>yj (h:=zP rfl (hK:=ze ⟨rfl,rfl⟩)))) (hk:=?_)))|((first|guard_target =~ dw _ _ _ _ _ (10 :: _) _ _ _ _|guard_target =~ dw _ _ _ _ _ (12 :: _) _ _ _ _);first|(refine z9 rfl rfl (h:=(fun τ=>zR rfl (h:=ze ⟨rfl,rfl⟩))) (hk:=?_))|(refine vX rfl rfl (h:=zR rfl (h:=ze ⟨rfl,rfl⟩)) (hk:=?_)))|(guard_target =~ dw _ _ _ _ _ (11 :: _) _ _ _ _;first|(refine zaV rfl rfl (h:=yj (h:=zd (f:=197) rfl Tryz.call197 (h:=AEq.sub' [] (hc:=kY _ _ _ aoT aoT aoT aoT aoT aoT aoT) (hq:=ze ⟨rfl,rfl⟩)))) (hk:=?_)))|((first|guard_target =~ dw _ _ _ _ _ (13 :: _) _ _ _ _|guard_target =~ dw _ _ _ _ _ (14 :: _) _ _ _ _);first|(refine z9 rfl rfl (h:=(fun τ=>zgj rfl (h:=ze ⟨rfl,rfl⟩))) (hk:=?_)))|((first|guard_target =~ dw _ _ _ _ _ (15 :: _) _ _ _ _|guard_target =~ dw _ _ _ _ _ (16 :: _) _ _ _ _);first|(refine z9 rfl rfl (h:=(fun τ=>zdz rfl (h:=ze ⟨rfl,rfl⟩))) (hk:=?_)))|(guard_target =~ dw _ _ _ _ _ [] _ _ _ _;first|(refine vo ?_)))|(guard_target =~ (_ ∨ _) ∧ _;first|((refine zh [] (by rw [Tryz.results174,Lf.yE]) (zA ?_ ?_) ?_)<;>(try (first|exact zi|exact stq (by with_reducible rfl)|exact stq (by rfl)|exact stq (by simp (disch:=omega) only [go_sem,seval,↓reduceIte,hU])))))|(refine hK _ _ ?_;clear hK K))
 ·have ht : txB 1 = false := ktx.1
  have hf1:=kf1
  have hf2:=kb1
  have hpl:=yK 128 7 i
  rw [ztC]
  refine zc Tryz.func174 rfl Tryz.ntmps174 (by simp) (fun hsc=>?_);simp only [Lf.enter,Nat.reduceAdd];clear hsc
  have hU:=And.intro @hok (@ht)
  repeat' (first|(guard_target =~ PWp _ _ _ _ _ _ _;first|(refine zp (id:=6) [0,1,2,3,4,5,6,7,8,9,10,11,12,13,14,15,16] [11] mixed (by kernel_rfl) (by kernel_rfl) ?_)|(refine za (fun K hK=>?_))|(refine zn ?_)|(refine zJ ?_)|(refine zE ?_)|((refine zb (fun hcd=>?_) (fun hcd=>?_))<;>(try simp only [hcP] at hcd)<;>(try exact cdT)))|(guard_target =~ rg _ _ _ _ _ _ _;first|(guard_target =~ rg _ _ _ (⟨_,.call ⟨.value (.func 198),_,_⟩,_,_,_,some _⟩ :: _) _ _ _;first|(refine zl rfl (h:=?_))|(refine zr rfl (h:=?_)))|(guard_target =~ rg _ _ _ (⟨_,.load _ _,_,_,_,some _⟩ :: _) _ _ _;first|(refine zl rfl (h:=?_))|(refine zr rfl (h:=?_)))|(guard_target =~ rg _ _ _ (⟨_,.unOp _ _ _,_,_,_,some _⟩ :: _) _ _ _;first|(refine zl rfl (h:=?_))|(refine zr rfl (h:=?_)))|(guard_target =~ rg _ _ _ (⟨_,.fieldAddr _ _ _,_,_,_,some _⟩ :: _) _ _ _;first|(refine zl rfl (h:=?_))|(refine zr rfl (h:=?_)))|(guard_target =~ rg _ _ _ [] _ _ _;first|(refine zS ?_))|(refine ks rfl (h:=?_))|(refine vV rfl (h:=?_))|(refine ka rfl ?_))|(guard_target =~ SOp _ _ _ _ _ _;first|(guard_target =~ SOp _ _ ⟨_,.call ⟨.value (.func 198),_,_⟩,_,_,_,some _⟩ _ _ _;first|(refine zd (f:=198) rfl Tryz.call198 (h:=AEq.pure' agT (zac _) (hq:=?_))))|(guard_target =~ SOp _ _ ⟨_,.box _ _,_,_,_,none⟩ _ _ _;first|(refine y7 rfl (hK:=?_)))|(guard_target =~ SOp _ _ ⟨_,.call ⟨.value (.func 196),_,_⟩,_,_,_,none⟩ _ _ _;first|(refine zd (f:=196) rfl Tryz.call196 (h:=AEq.pure' agT (zad _ _ _ _ _ _ _) (hq:=?_)))))|(guard_target =~ dw _ _ _ _ _ _ _ _ _ _;first|((first|guard_target =~ dw _ _ _ _ _ (0 :: _) _ _ _ _|guard_target =~ dw _ _ _ _ _ (3 :: _) _ _ _ _|guard_target =~ dw _ _ _ _ _ (5 :: _) _ _ _ _|guard_target =~ dw _ _ _ _ _ (8 :: _) _ _ _ _);first|(refine z9 rfl rfl (h:=(fun τ=>zR rfl (h:=ze ⟨rfl,rfl⟩))) (hk:=?_))|(refine vX rfl rfl (h:=zR rfl (h:=ze ⟨rfl,rfl⟩)) (hk:=?_)))|((first|guard_target =~ dw _ _ _ _ _ (1 :: _) _ _ _ _|guard_target =~ dw _ _ _ _ _ (4 :: _) _ _ _ _|guard_target =~ dw _ _ _ _ _ (6 :: _) _ _ _ _|guard_target =~ dw _ _ _ _ _ (9 :: _) _ _ _ _);first|(refine z9 rfl rfl (h:=(fun τ=>zR rfl (h:=ze ⟨rfl,rfl⟩))) (hk:=?_))|(refine vX rfl rfl (h:=zR rfl (h:=ze ⟨rfl,rfl⟩)) (hk:=?_)))|((first|guard_target =~ dw _ _ _ _ _ (2 :: _) _ _ _ _|guard_target =~ dw _ _ _ _ _ (7 :: _) _ _ _ _);first|(refine z9 rfl rfl (h:=(fun τ=>yj (h:=zP rfl (hK:=ze ⟨rfl,rfl⟩)))) (hk:=?_)))|((first|guard_target =~ dw _ _ _ _ _ (10 :: _) _ _ _ _|guard_target =~ dw _ _ _ _ _ (12 :: _) _ _ _ _);first|(refine z9 rfl rfl (h:=(fun τ=>zR rfl (h:=ze ⟨rfl,rfl⟩))) (hk:=?_))|(refine vX rfl rfl (h:=zR rfl (h:=ze ⟨rfl,rfl⟩)) (hk:=?_)))|(guard_target =~ dw _ _ _ _ _ (11 :: _) _ _ _ _;first|(refine zaV rfl rfl (h:=yj (h:=zd (f:=197) rfl Tryz.call197 (h:=AEq.sub' [] (hc:=kY _ _ _ aoT aoT aoT aoT aoT aoT aoT) (hq:=ze ⟨rfl,rfl⟩)))) (hk:=?_)))|((first|guard_target =~ dw _ _ _ _ _ (13 :: _) _ _ _ _|guard_target =~ dw _ _ _ _ _ (14 :: _) _ _ _ _);first|(refine z9 rfl rfl (h:=(fun τ=>zgj rfl (h:=ze ⟨rfl,rfl⟩))) (hk:=?_)))|((first|guard_target =~ dw _ _ _ _ _ (15 :: _) _ _ _ _|guard_target =~ dw _ _ _ _ _ (16 :: _) _ _ _ _);first|(refine z9 rfl rfl (h:=(fun τ=>zdz rfl (h:=ze ⟨rfl,rfl⟩))) (hk:=?_)))|(guard_target =~ dw _ _ _ _ _ [] _ _ _ _;first|(refine vo ?_)))|(guard_target =~ (_ ∨ _) ∧ _;first|((refine zh [] (by rw [Tryz.results174,Lf.yE]) (zA ?_ ?_) ?_)<;>(try (first|exact zi|exact stq (by with_reducible rfl)|exact stq (by rfl)|exact stq (by simp (disch:=omega) only [go_sem,seval,↓reduceIte,hU])))))|(refine hK _ _ ?_;clear hK K))
 ·rcases hk with rfl | rfl | rfl
  ·have ht : txB 2 = true := ktx.2.1
   have hf1:=kf2
   have hf2:=kb2
   have hpl:=yK 64 6 0
   rw [zhu nm ns vl vs ht,List.map_append,List.map_append,hf1,hf2]
   refine zc Tryz.func174 rfl Tryz.ntmps174 (by simp) (fun hsc=>?_);simp only [Lf.enter,Nat.reduceAdd];clear hsc
   have hU:=And.intro @hok (@ht)
   repeat' (first|(guard_target =~ PWp _ _ _ _ _ _ _;first|(refine zp (id:=6) [0,1,2,3,4,5,6,7,8,9,10,11,12,13,14,15,16] [11] mixed (by kernel_rfl) (by kernel_rfl) ?_)|(refine za (fun K hK=>?_))|(refine zn ?_)|(refine zJ ?_)|(refine zE ?_)|((refine zb (fun hcd=>?_) (fun hcd=>?_))<;>(try simp only [hcP] at hcd)<;>(try exact cdT)))|(guard_target =~ rg _ _ _ _ _ _ _;first|(guard_target =~ rg _ _ _ (⟨_,.call ⟨.value (.func 198),_,_⟩,_,_,_,some _⟩ :: _) _ _ _;first|(refine zl rfl (h:=?_))|(refine zr rfl (h:=?_)))|(guard_target =~ rg _ _ _ (⟨_,.load _ _,_,_,_,some _⟩ :: _) _ _ _;first|(refine zl rfl (h:=?_))|(refine zr rfl (h:=?_)))|(guard_target =~ rg _ _ _ (⟨_,.unOp _ _ _,_,_,_,some _⟩ :: _) _ _ _;first|(refine zl rfl (h:=?_))|(refine zr rfl (h:=?_)))|(guard_target =~ rg _ _ _ (⟨_,.fieldAddr _ _ _,_,_,_,some _⟩ :: _) _ _ _;first|(refine zl rfl (h:=?_))|(refine zr rfl (h:=?_)))|(guard_target =~ rg _ _ _ [] _ _ _;first|(refine zS ?_))|(refine ks rfl (h:=?_))|(refine vV rfl (h:=?_))|(refine ka rfl ?_))|(guard_target =~ SOp _ _ _ _ _ _;first|(guard_target =~ SOp _ _ ⟨_,.call ⟨.builtin .append,_,_⟩,_,_,_,none⟩ _ _ _;first|(refine zo rfl (he:=by first|exact eo3|exact eo4|exact eo5|exact eo9|exact jz|exact jA|exact zca|exact zcb|exact zfQ|exact zfR|fail) (hK:=?_)))|(guard_target =~ SOp _ _ ⟨_,.call ⟨.value (.func 199),_,_⟩,_,_,_,none⟩ _ _ _;first|(refine zd (f:=199) rfl Tryz.call199 (h:=AEq.pure' agT (zoK _ _ aoT) (hq:=?_))))|(guard_target =~ SOp _ _ ⟨_,.call ⟨.value (.func 198),_,_⟩,_,_,_,some _⟩ _ _ _;first|(refine zd (f:=198) rfl Tryz.call198 (h:=AEq.pure' agT (zac _) (hq:=?_))))|(guard_target =~ SOp _ _ ⟨_,.box _ _,_,_,_,none⟩ _ _ _;first|(refine y7 rfl (hK:=?_)))|(guard_target =~ SOp _ _ ⟨_,.call ⟨.value (.func 196),_,_⟩,_,_,_,none⟩ _ _ _;first|(refine zd (f:=196) rfl Tryz.call196 (h:=AEq.pure' agT (zad _ _ _ _ _ _ _) (hq:=?_)))))|(guard_target =~ dw _ _ _ _ _ _ _ _ _ _;first|((first|guard_target =~ dw _ _ _ _ _ (0 :: _) _ _ _ _|guard_target =~ dw _ _ _ _ _ (3 :: _) _ _ _ _|guard_target =~ dw _ _ _ _ _ (5 :: _) _ _ _ _|guard_target =~ dw _ _ _ _ _ (8 :: _) _ _ _ _);first|(refine z9 rfl rfl (h:=(fun τ=>zR rfl (h:=ze ⟨rfl,rfl⟩))) (hk:=?_))|(refine vX rfl rfl (h:=zR rfl (h:=ze ⟨rfl,rfl⟩)) (hk:=?_)))|((first|guard_target =~ dw _ _ _ _ _ (1 :: _) _ _ _ _|guard_target =~ dw _ _ _ _ _ (4 :: _) _ _ _ _|guard_target =~ dw _ _ _ _ _ (6 :: _) _ _ _ _|guard_target =~ dw _ _ _ _ _ (9 :: _) _ _ _ _);first|(refine z9 rfl rfl (h:=(fun τ=>zR rfl (h:=ze ⟨rfl,rfl⟩))) (hk:=?_))|(refine vX rfl rfl (h:=zR rfl (h:=ze ⟨rfl,rfl⟩)) (hk:=?_)))|((first|guard_target =~ dw _ _ _ _ _ (2 :: _) _ _ _ _|guard_target =~ dw _ _ _ _ _ (7 :: _) _ _ _ _);first|(refine z9 rfl rfl (h:=(fun τ=>yj (h:=zP rfl (hK:=ze ⟨rfl,rfl⟩)))) (hk:=?_)))|((first|guard_target =~ dw _ _ _ _ _ (10 :: _) _ _ _ _|guard_target =~ dw _ _ _ _ _ (12 :: _) _ _ _ _);first|(refine z9 rfl rfl (h:=(fun τ=>zR rfl (h:=ze ⟨rfl,rfl⟩))) (hk:=?_))|(refine vX rfl rfl (h:=zR rfl (h:=ze ⟨rfl,rfl⟩)) (hk:=?_)))|(guard_target =~ dw _ _ _ _ _ (11 :: _) _ _ _ _;first|(refine zaV rfl rfl (h:=yj (h:=zd (f:=197) rfl Tryz.call197 (h:=AEq.sub' [] (hc:=kY _ _ _ aoT aoT aoT aoT aoT aoT aoT) (hq:=ze ⟨rfl,rfl⟩)))) (hk:=?_)))|((first|guard_target =~ dw _ _ _ _ _ (13 :: _) _ _ _ _|guard_target =~ dw _ _ _ _ _ (14 :: _) _ _ _ _);first|(refine z9 rfl rfl (h:=(fun τ=>zgj rfl (h:=ze ⟨rfl,rfl⟩))) (hk:=?_)))|((first|guard_target =~ dw _ _ _ _ _ (15 :: _) _ _ _ _|guard_target =~ dw _ _ _ _ _ (16 :: _) _ _ _ _);first|(refine z9 rfl rfl (h:=(fun τ=>zdz rfl (h:=ze ⟨rfl,rfl⟩))) (hk:=?_)))|(guard_target =~ dw _ _ _ _ _ [] _ _ _ _;first|(refine vo ?_)))|(guard_target =~ (_ ∨ _) ∧ _;first|((refine zh [] (by rw [Tryz.results174,Lf.yE]) (zA ?_ ?_) ?_)<;>(try (first|exact zi|exact stq (by with_reducible rfl)|exact stq (by rfl)|exact stq (by simp (disch:=omega) only [go_sem,seval,↓reduceIte,hU])))))|(refine hK _ _ ?_;clear hK K))
  ·have ht : txB 3 = true := ktx.2.2.1
   have hf1:=kf3
   have hf2:=kb3
   have hpl:=yK 0 4 0
   rw [zhu nm ns vl vs ht,List.map_append,List.map_append,hf1,hf2]
   refine zc Tryz.func174 rfl Tryz.ntmps174 (by simp) (fun hsc=>?_);simp only [Lf.enter,Nat.reduceAdd];clear hsc
   have hU:=And.intro @hok (@ht)
   repeat' (first|(guard_target =~ PWp _ _ _ _ _ _ _;first|(refine zp (id:=6) [0,1,2,3,4,5,6,7,8,9,10,11,12,13,14,15,16] [11] mixed (by kernel_rfl) (by kernel_rfl) ?_)|(refine za (fun K hK=>?_))|(refine zn ?_)|(refine zJ ?_)|(refine zE ?_)|((refine zb (fun hcd=>?_) (fun hcd=>?_))<;>(try simp only [hcP] at hcd)<;>(try exact cdT)))|(guard_target =~ rg _ _ _ _ _ _ _;first|(guard_target =~ rg _ _ _ (⟨_,.call ⟨.value (.func 198),_,_⟩,_,_,_,some _⟩ :: _) _ _ _;first|(refine zl rfl (h:=?_))|(refine zr rfl (h:=?_)))|(guard_target =~ rg _ _ _ (⟨_,.load _ _,_,_,_,some _⟩ :: _) _ _ _;first|(refine zl rfl (h:=?_))|(refine zr rfl (h:=?_)))|(guard_target =~ rg _ _ _ (⟨_,.unOp _ _ _,_,_,_,some _⟩ :: _) _ _ _;first|(refine zl rfl (h:=?_))|(refine zr rfl (h:=?_)))|(guard_target =~ rg _ _ _ (⟨_,.fieldAddr _ _ _,_,_,_,some _⟩ :: _) _ _ _;first|(refine zl rfl (h:=?_))|(refine zr rfl (h:=?_)))|(guard_target =~ rg _ _ _ [] _ _ _;first|(refine zS ?_))|(refine ks rfl (h:=?_))|(refine vV rfl (h:=?_))|(refine ka rfl ?_))|(guard_target =~ SOp _ _ _ _ _ _;first|(guard_target =~ SOp _ _ ⟨_,.call ⟨.builtin .append,_,_⟩,_,_,_,none⟩ _ _ _;first|(refine zo rfl (he:=by first|exact eo3|exact eo4|exact eo5|exact eo9|exact jz|exact jA|exact zca|exact zcb|exact zfQ|exact zfR|fail) (hK:=?_)))|(guard_target =~ SOp _ _ ⟨_,.call ⟨.value (.func 199),_,_⟩,_,_,_,none⟩ _ _ _;first|(refine zd (f:=199) rfl Tryz.call199 (h:=AEq.pure' agT (zoK _ _ aoT) (hq:=?_))))|(guard_target =~ SOp _ _ ⟨_,.call ⟨.value (.func 198),_,_⟩,_,_,_,some _⟩ _ _ _;first|(refine zd (f:=198) rfl Tryz.call198 (h:=AEq.pure' agT (zac _) (hq:=?_))))|(guard_target =~ SOp _ _ ⟨_,.box _ _,_,_,_,none⟩ _ _ _;first|(refine y7 rfl (hK:=?_)))|(guard_target =~ SOp _ _ ⟨_,.call ⟨.value (.func 196),_,_⟩,_,_,_,none⟩ _ _ _;first|(refine zd (f:=196) rfl Tryz.call196 (h:=AEq.pure' agT (zad _ _ _ _ _ _ _) (hq:=?_)))))|(guard_target =~ dw _ _ _ _ _ _ _ _ _ _;first|((first|guard_target =~ dw _ _ _ _ _ (0 :: _) _ _ _ _|guard_target =~ dw _ _ _ _ _ (3 :: _) _ _ _ _|guard_target =~ dw _ _ _ _ _ (5 :: _) _ _ _ _|guard_target =~ dw _ _ _ _ _ (8 :: _) _ _ _ _);first|(refine z9 rfl rfl (h:=(fun τ=>zR rfl (h:=ze ⟨rfl,rfl⟩))) (hk:=?_))|(refine vX rfl rfl (h:=zR rfl (h:=ze ⟨rfl,rfl⟩)) (hk:=?_)))|((first|guard_target =~ dw _ _ _ _ _ (1 :: _) _ _ _ _|guard_target =~ dw _ _ _ _ _ (4 :: _) _ _ _ _|guard_target =~ dw _ _ _ _ _ (6 :: _) _ _ _ _|guard_target =~ dw _ _ _ _ _ (9 :: _) _ _ _ _);first|(refine z9 rfl rfl (h:=(fun τ=>zR rfl (h:=ze ⟨rfl,rfl⟩))) (hk:=?_))|(refine vX rfl rfl (h:=zR rfl (h:=ze ⟨rfl,rfl⟩)) (hk:=?_)))|((first|guard_target =~ dw _ _ _ _ _ (2 :: _) _ _ _ _|guard_target =~ dw _ _ _ _ _ (7 :: _) _ _ _ _);first|(refine z9 rfl rfl (h:=(fun τ=>yj (h:=zP rfl (hK:=ze ⟨rfl,rfl⟩)))) (hk:=?_)))|((first|guard_target =~ dw _ _ _ _ _ (10 :: _) _ _ _ _|guard_target =~ dw _ _ _ _ _ (12 :: _) _ _ _ _);first|(refine z9 rfl rfl (h:=(fun τ=>zR rfl (h:=ze ⟨rfl,rfl⟩))) (hk:=?_))|(refine vX rfl rfl (h:=zR rfl (h:=ze ⟨rfl,rfl⟩)) (hk:=?_)))|(guard_target =~ dw _ _ _ _ _ (11 :: _) _ _ _ _;first|(refine zaV rfl rfl (h:=yj (h:=zd (f:=197) rfl Tryz.call197 (h:=AEq.sub' [] (hc:=kY _ _ _ aoT aoT aoT aoT aoT aoT aoT) (hq:=ze ⟨rfl,rfl⟩)))) (hk:=?_)))|((first|guard_target =~ dw _ _ _ _ _ (13 :: _) _ _ _ _|guard_target =~ dw _ _ _ _ _ (14 :: _) _ _ _ _);first|(refine z9 rfl rfl (h:=(fun τ=>zgj rfl (h:=ze ⟨rfl,rfl⟩))) (hk:=?_)))|((first|guard_target =~ dw _ _ _ _ _ (15 :: _) _ _ _ _|guard_target =~ dw _ _ _ _ _ (16 :: _) _ _ _ _);first|(refine z9 rfl rfl (h:=(fun τ=>zdz rfl (h:=ze ⟨rfl,rfl⟩))) (hk:=?_)))|(guard_target =~ dw _ _ _ _ _ [] _ _ _ _;first|(refine vo ?_)))|(guard_target =~ (_ ∨ _) ∧ _;first|((refine zh [] (by rw [Tryz.results174,Lf.yE]) (zA ?_ ?_) ?_)<;>(try (first|exact zi|exact stq (by with_reducible rfl)|exact stq (by rfl)|exact stq (by simp (disch:=omega) only [go_sem,seval,↓reduceIte,hU])))))|(refine hK _ _ ?_;clear hK K))
  ·have ht : txB 4 = true := ktx.2.2.2.1
   have hf1:=kf4
   have hf2:=kb4
   have hpl:=yK 16 4 0
   rw [zhu nm ns vl vs ht,List.map_append,List.map_append,hf1,hf2]
   refine zc Tryz.func174 rfl Tryz.ntmps174 (by simp) (fun hsc=>?_);simp only [Lf.enter,Nat.reduceAdd];clear hsc
   have hU:=And.intro @hok (@ht)
   repeat' (first|(guard_target =~ PWp _ _ _ _ _ _ _;first|(refine zp (id:=6) [0,1,2,3,4,5,6,7,8,9,10,11,12,13,14,15,16] [11] mixed (by kernel_rfl) (by kernel_rfl) ?_)|(refine za (fun K hK=>?_))|(refine zn ?_)|(refine zJ ?_)|(refine zE ?_)|((refine zb (fun hcd=>?_) (fun hcd=>?_))<;>(try simp only [hcP] at hcd)<;>(try exact cdT)))|(guard_target =~ rg _ _ _ _ _ _ _;first|(guard_target =~ rg _ _ _ (⟨_,.call ⟨.value (.func 198),_,_⟩,_,_,_,some _⟩ :: _) _ _ _;first|(refine zl rfl (h:=?_))|(refine zr rfl (h:=?_)))|(guard_target =~ rg _ _ _ (⟨_,.load _ _,_,_,_,some _⟩ :: _) _ _ _;first|(refine zl rfl (h:=?_))|(refine zr rfl (h:=?_)))|(guard_target =~ rg _ _ _ (⟨_,.unOp _ _ _,_,_,_,some _⟩ :: _) _ _ _;first|(refine zl rfl (h:=?_))|(refine zr rfl (h:=?_)))|(guard_target =~ rg _ _ _ (⟨_,.fieldAddr _ _ _,_,_,_,some _⟩ :: _) _ _ _;first|(refine zl rfl (h:=?_))|(refine zr rfl (h:=?_)))|(guard_target =~ rg _ _ _ [] _ _ _;first|(refine zS ?_))|(refine ks rfl (h:=?_))|(refine vV rfl (h:=?_))|(refine ka rfl ?_))|(guard_target =~ SOp _ _ _ _ _ _;first|(guard_target =~ SOp _ _ ⟨_,.call ⟨.builtin .append,_,_⟩,_,_,_,none⟩ _ _ _;first|(refine zo rfl (he:=by first|exact eo3|exact eo4|exact eo5|exact eo9|exact jz|exact jA|exact zca|exact zcb|exact zfQ|exact zfR|fail) (hK:=?_)))|(guard_target =~ SOp _ _ ⟨_,.call ⟨.value (.func 199),_,_⟩,_,_,_,none⟩ _ _ _;first|(refine zd (f:=199) rfl Tryz.call199 (h:=AEq.pure' agT (zoK _ _ aoT) (hq:=?_))))|(guard_target =~ SOp _ _ ⟨_,.call ⟨.value (.func 198),_,_⟩,_,_,_,some _⟩ _ _ _;first|(refine zd (f:=198) rfl Tryz.call198 (h:=AEq.pure' agT (zac _) (hq:=?_))))|(guard_target =~ SOp _ _ ⟨_,.box _ _,_,_,_,none⟩ _ _ _;first|(refine y7 rfl (hK:=?_)))|(guard_target =~ SOp _ _ ⟨_,.call ⟨.value (.func 196),_,_⟩,_,_,_,none⟩ _ _ _;first|(refine zd (f:=196) rfl Tryz.call196 (h:=AEq.pure' agT (zad _ _ _ _ _ _ _) (hq:=?_)))))|(guard_target =~ dw _ _ _ _ _ _ _ _ _ _;first|((first|guard_target =~ dw _ _ _ _ _ (0 :: _) _ _ _ _|guard_target =~ dw _ _ _ _ _ (3 :: _) _ _ _ _|guard_target =~ dw _ _ _ _ _ (5 :: _) _ _ _ _|guard_target =~ dw _ _ _ _ _ (8 :: _) _ _ _ _);first|(refine z9 rfl rfl (h:=(fun τ=>zR rfl (h:=ze ⟨rfl,rfl⟩))) (hk:=?_))|(refine vX rfl rfl (h:=zR rfl (h:=ze ⟨rfl,rfl⟩)) (hk:=?_)))|((first|guard_target =~ dw _ _ _ _ _ (1 :: _) _ _ _ _|guard_target =~ dw _ _ _ _ _ (4 :: _) _ _ _ _|guard_target =~ dw _ _ _ _ _ (6 :: _) _ _ _ _|guard_target =~ dw _ _ _ _ _ (9 :: _) _ _ _ _);first|(refine z9 rfl rfl (h:=(fun τ=>zR rfl (h:=ze ⟨rfl,rfl⟩))) (hk:=?_))|(refine vX rfl rfl (h:=zR rfl (h:=ze ⟨rfl,rfl⟩)) (hk:=?_)))|((first|guard_target =~ dw _ _ _ _ _ (2 :: _) _ _ _ _|guard_target =~ dw _ _ _ _ _ (7 :: _) _ _ _ _);first|(refine z9 rfl rfl (h:=(fun τ=>yj (h:=zP rfl (hK:=ze ⟨rfl,rfl⟩)))) (hk:=?_)))|((first|guard_target =~ dw _ _ _ _ _ (10 :: _) _ _ _ _|guard_target =~ dw _ _ _ _ _ (12 :: _) _ _ _ _);first|(refine z9 rfl rfl (h:=(fun τ=>zR rfl (h:=ze ⟨rfl,rfl⟩))) (hk:=?_))|(refine vX rfl rfl (h:=zR rfl (h:=ze ⟨rfl,rfl⟩)) (hk:=?_)))|(guard_target =~ dw _ _ _ _ _ (11 :: _) _ _ _ _;first|(refine zaV rfl rfl (h:=yj (h:=zd (f:=197) rfl Tryz.call197 (h:=AEq.sub' [] (hc:=kY _ _ _ aoT aoT aoT aoT aoT aoT aoT) (hq:=ze ⟨rfl,rfl⟩)))) (hk:=?_)))|((first|guard_target =~ dw _ _ _ _ _ (13 :: _) _ _ _ _|guard_target =~ dw _ _ _ _ _ (14 :: _) _ _ _ _);first|(refine z9 rfl rfl (h:=(fun τ=>zgj rfl (h:=ze ⟨rfl,rfl⟩))) (hk:=?_)))|((first|guard_target =~ dw _ _ _ _ _ (15 :: _) _ _ _ _|guard_target =~ dw _ _ _ _ _ (16 :: _) _ _ _ _);first|(refine z9 rfl rfl (h:=(fun τ=>zdz rfl (h:=ze ⟨rfl,rfl⟩))) (hk:=?_)))|(guard_target =~ dw _ _ _ _ _ [] _ _ _ _;first|(refine vo ?_)))|(guard_target =~ (_ ∨ _) ∧ _;first|((refine zh [] (by rw [Tryz.results174,Lf.yE]) (zA ?_ ?_) ?_)<;>(try (first|exact zi|exact stq (by with_reducible rfl)|exact stq (by rfl)|exact stq (by simp (disch:=omega) only [go_sem,seval,↓reduceIte,hU])))))|(refine hK _ _ ?_;clear hK K))
 ·rcases hk with rfl | rfl | rfl
  ·have ht : txB 2 = true := ktx.2.1
   have hf1:=kf2
   have hf2:=kb2
   have hpl:=yK 64 6 i
   rw [zhv vl vs ht (by omega),List.map_append,hf1,hf2]
   refine zc Tryz.func174 rfl Tryz.ntmps174 (by simp) (fun hsc=>?_);simp only [Lf.enter,Nat.reduceAdd];clear hsc
   have hU:=And.intro @hok (@ht)
   repeat' (first|(guard_target =~ PWp _ _ _ _ _ _ _;first|(refine zp (id:=6) [0,1,2,3,4,5,6,7,8,9,10,11,12,13,14,15,16] [11] mixed (by kernel_rfl) (by kernel_rfl) ?_)|(refine za (fun K hK=>?_))|(refine zn ?_)|(refine zJ ?_)|(refine zE ?_)|((refine zb (fun hcd=>?_) (fun hcd=>?_))<;>(try simp only [hcP] at hcd)<;>(try exact cdT)))|(guard_target =~ rg _ _ _ _ _ _ _;first|(guard_target =~ rg _ _ _ (⟨_,.call ⟨.value (.func 198),_,_⟩,_,_,_,some _⟩ :: _) _ _ _;first|(refine zl rfl (h:=?_))|(refine zr rfl (h:=?_)))|(guard_target =~ rg _ _ _ (⟨_,.load _ _,_,_,_,some _⟩ :: _) _ _ _;first|(refine zl rfl (h:=?_))|(refine zr rfl (h:=?_)))|(guard_target =~ rg _ _ _ (⟨_,.unOp _ _ _,_,_,_,some _⟩ :: _) _ _ _;first|(refine zl rfl (h:=?_))|(refine zr rfl (h:=?_)))|(guard_target =~ rg _ _ _ (⟨_,.fieldAddr _ _ _,_,_,_,some _⟩ :: _) _ _ _;first|(refine zl rfl (h:=?_))|(refine zr rfl (h:=?_)))|(guard_target =~ rg _ _ _ [] _ _ _;first|(refine zS ?_))|(refine ks rfl (h:=?_))|(refine vV rfl (h:=?_))|(refine ka rfl ?_))|(guard_target =~ SOp _ _ _ _ _ _;first|(guard_target =~ SOp _ _ ⟨_,.call ⟨.builtin .append,_,_⟩,_,_,_,none⟩ _ _ _;first|(refine zo rfl (he:=by first|exact eo3|exact eo4|exact eo5|exact eo9|exact jz|exact jA|exact zca|exact zcb|exact zfQ|exact zfR|fail) (hK:=?_)))|(guard_target =~ SOp _ _ ⟨_,.call ⟨.value (.func 199),_,_⟩,_,_,_,none⟩ _ _ _;first|(refine zd (f:=199) rfl Tryz.call199 (h:=AEq.pure' agT (zoK _ _ aoT) (hq:=?_))))|(guard_target =~ SOp _ _ ⟨_,.call ⟨.value (.func 198),_,_⟩,_,_,_,some _⟩ _ _ _;first|(refine zd (f:=198) rfl Tryz.call198 (h:=AEq.pure' agT (zac _) (hq:=?_))))|(guard_target =~ SOp _ _ ⟨_,.box _ _,_,_,_,none⟩ _ _ _;first|(refine y7 rfl (hK:=?_)))|(guard_target =~ SOp _ _ ⟨_,.call ⟨.value (.func 196),_,_⟩,_,_,_,none⟩ _ _ _;first|(refine zd (f:=196) rfl Tryz.call196 (h:=AEq.pure' agT (zad _ _ _ _ _ _ _) (hq:=?_)))))|(guard_target =~ dw _ _ _ _ _ _ _ _ _ _;first|((first|guard_target =~ dw _ _ _ _ _ (0 :: _) _ _ _ _|guard_target =~ dw _ _ _ _ _ (3 :: _) _ _ _ _|guard_target =~ dw _ _ _ _ _ (5 :: _) _ _ _ _|guard_target =~ dw _ _ _ _ _ (8 :: _) _ _ _ _);first|(refine z9 rfl rfl (h:=(fun τ=>zR rfl (h:=ze ⟨rfl,rfl⟩))) (hk:=?_))|(refine vX rfl rfl (h:=zR rfl (h:=ze ⟨rfl,rfl⟩)) (hk:=?_)))|((first|guard_target =~ dw _ _ _ _ _ (1 :: _) _ _ _ _|guard_target =~ dw _ _ _ _ _ (4 :: _) _ _ _ _|guard_target =~ dw _ _ _ _ _ (6 :: _) _ _ _ _|guard_target =~ dw _ _ _ _ _ (9 :: _) _ _ _ _);first|(refine z9 rfl rfl (h:=(fun τ=>zR rfl (h:=ze ⟨rfl,rfl⟩))) (hk:=?_))|(refine vX rfl rfl (h:=zR rfl (h:=ze ⟨rfl,rfl⟩)) (hk:=?_)))|((first|guard_target =~ dw _ _ _ _ _ (2 :: _) _ _ _ _|guard_target =~ dw _ _ _ _ _ (7 :: _) _ _ _ _);first|(refine z9 rfl rfl (h:=(fun τ=>yj (h:=zP rfl (hK:=ze ⟨rfl,rfl⟩)))) (hk:=?_)))|((first|guard_target =~ dw _ _ _ _ _ (10 :: _) _ _ _ _|guard_target =~ dw _ _ _ _ _ (12 :: _) _ _ _ _);first|(refine z9 rfl rfl (h:=(fun τ=>zR rfl (h:=ze ⟨rfl,rfl⟩))) (hk:=?_))|(refine vX rfl rfl (h:=zR rfl (h:=ze ⟨rfl,rfl⟩)) (hk:=?_)))|(guard_target =~ dw _ _ _ _ _ (11 :: _) _ _ _ _;first|(refine zaV rfl rfl (h:=yj (h:=zd (f:=197) rfl Tryz.call197 (h:=AEq.sub' [] (hc:=kY _ _ _ aoT aoT aoT aoT aoT aoT aoT) (hq:=ze ⟨rfl,rfl⟩)))) (hk:=?_)))|((first|guard_target =~ dw _ _ _ _ _ (13 :: _) _ _ _ _|guard_target =~ dw _ _ _ _ _ (14 :: _) _ _ _ _);first|(refine z9 rfl rfl (h:=(fun τ=>zgj rfl (h:=ze ⟨rfl,rfl⟩))) (hk:=?_)))|((first|guard_target =~ dw _ _ _ _ _ (15 :: _) _ _ _ _|guard_target =~ dw _ _ _ _ _ (16 :: _) _ _ _ _);first|(refine z9 rfl rfl (h:=(fun τ=>zdz rfl (h:=ze ⟨rfl,rfl⟩))) (hk:=?_)))|(guard_target =~ dw _ _ _ _ _ [] _ _ _ _;first|(refine vo ?_)))|(guard_target =~ (_ ∨ _) ∧ _;first|((refine zh [] (by rw [Tryz.results174,Lf.yE]) (zA ?_ ?_) ?_)<;>(try (first|exact zi|exact stq (by with_reducible rfl)|exact stq (by rfl)|exact stq (by simp (disch:=omega) only [go_sem,seval,↓reduceIte,hU])))))|(refine hK _ _ ?_;clear hK K))
  ·have ht : txB 3 = true := ktx.2.2.1
   have hf1:=kf3
   have hf2:=kb3
   have hpl:=yK 0 4 i
   rw [zhv vl vs ht (by omega),List.map_append,hf1,hf2]
   refine zc Tryz.func174 rfl Tryz.ntmps174 (by simp) (fun hsc=>?_);simp only [Lf.enter,Nat.reduceAdd];clear hsc
   have hU:=And.intro @hok (@ht)
   repeat' (first|(guard_target =~ PWp _ _ _ _ _ _ _;first|(refine zp (id:=6) [0,1,2,3,4,5,6,7,8,9,10,11,12,13,14,15,16] [11] mixed (by kernel_rfl) (by kernel_rfl) ?_)|(refine za (fun K hK=>?_))|(refine zn ?_)|(refine zJ ?_)|(refine zE ?_)|((refine zb (fun hcd=>?_) (fun hcd=>?_))<;>(try simp only [hcP] at hcd)<;>(try exact cdT)))|(guard_target =~ rg _ _ _ _ _ _ _;first|(guard_target =~ rg _ _ _ (⟨_,.call ⟨.value (.func 198),_,_⟩,_,_,_,some _⟩ :: _) _ _ _;first|(refine zl rfl (h:=?_))|(refine zr rfl (h:=?_)))|(guard_target =~ rg _ _ _ (⟨_,.load _ _,_,_,_,some _⟩ :: _) _ _ _;first|(refine zl rfl (h:=?_))|(refine zr rfl (h:=?_)))|(guard_target =~ rg _ _ _ (⟨_,.unOp _ _ _,_,_,_,some _⟩ :: _) _ _ _;first|(refine zl rfl (h:=?_))|(refine zr rfl (h:=?_)))|(guard_target =~ rg _ _ _ (⟨_,.fieldAddr _ _ _,_,_,_,some _⟩ :: _) _ _ _;first|(refine zl rfl (h:=?_))|(refine zr rfl (h:=?_)))|(guard_target =~ rg _ _ _ [] _ _ _;first|(refine zS ?_))|(refine ks rfl (h:=?_))|(refine vV rfl (h:=?_))|(refine ka rfl ?_))|(guard_target =~ SOp _ _ _ _ _ _;first|(guard_target =~ SOp _ _ ⟨_,.call ⟨.builtin .append,_,_⟩,_,_,_,none⟩ _ _ _;first|(refine zo rfl (he:=by first|exact eo3|exact eo4|exact eo5|exact eo9|exact jz|exact jA|exact zca|exact zcb|exact zfQ|exact zfR|fail) (hK:=?_)))|(guard_target =~ SOp _ _ ⟨_,.call ⟨.value (.func 199),_,_⟩,_,_,_,none⟩ _ _ _;first|(refine zd (f:=199) rfl Tryz.call199 (h:=AEq.pure' agT (zoK _ _ aoT) (hq:=?_))))|(guard_target =~ SOp _ _ ⟨_,.call ⟨.value (.func 198),_,_⟩,_,_,_,some _⟩ _ _ _;first|(refine zd (f:=198) rfl Tryz.call198 (h:=AEq.pure' agT (zac _) (hq:=?_))))|(guard_target =~ SOp _ _ ⟨_,.box _ _,_,_,_,none⟩ _ _ _;first|(refine y7 rfl (hK:=?_)))|(guard_target =~ SOp _ _ ⟨_,.call ⟨.value (.func 196),_,_⟩,_,_,_,none⟩ _ _ _;first|(refine zd (f:=196) rfl Tryz.call196 (h:=AEq.pure' agT (zad _ _ _ _ _ _ _) (hq:=?_)))))|(guard_target =~ dw _ _ _ _ _ _ _ _ _ _;first|((first|guard_target =~ dw _ _ _ _ _ (0 :: _) _ _ _ _|guard_target =~ dw _ _ _ _ _ (3 :: _) _ _ _ _|guard_target =~ dw _ _ _ _ _ (5 :: _) _ _ _ _|guard_target =~ dw _ _ _ _ _ (8 :: _) _ _ _ _);first|(refine z9 rfl rfl (h:=(fun τ=>zR rfl (h:=ze ⟨rfl,rfl⟩))) (hk:=?_))|(refine vX rfl rfl (h:=zR rfl (h:=ze ⟨rfl,rfl⟩)) (hk:=?_)))|((first|guard_target =~ dw _ _ _ _ _ (1 :: _) _ _ _ _|guard_target =~ dw _ _ _ _ _ (4 :: _) _ _ _ _|guard_target =~ dw _ _ _ _ _ (6 :: _) _ _ _ _|guard_target =~ dw _ _ _ _ _ (9 :: _) _ _ _ _);first|(refine z9 rfl rfl (h:=(fun τ=>zR rfl (h:=ze ⟨rfl,rfl⟩))) (hk:=?_))|(refine vX rfl rfl (h:=zR rfl (h:=ze ⟨rfl,rfl⟩)) (hk:=?_)))|((first|guard_target =~ dw _ _ _ _ _ (2 :: _) _ _ _ _|guard_target =~ dw _ _ _ _ _ (7 :: _) _ _ _ _);first|(refine z9 rfl rfl (h:=(fun τ=>yj (h:=zP rfl (hK:=ze ⟨rfl,rfl⟩)))) (hk:=?_)))|((first|guard_target =~ dw _ _ _ _ _ (10 :: _) _ _ _ _|guard_target =~ dw _ _ _ _ _ (12 :: _) _ _ _ _);first|(refine z9 rfl rfl (h:=(fun τ=>zR rfl (h:=ze ⟨rfl,rfl⟩))) (hk:=?_))|(refine vX rfl rfl (h:=zR rfl (h:=ze ⟨rfl,rfl⟩)) (hk:=?_)))|(guard_target =~ dw _ _ _ _ _ (11 :: _) _ _ _ _;first|(refine zaV rfl rfl (h:=yj (h:=zd (f:=197) rfl Tryz.call197 (h:=AEq.sub' [] (hc:=kY _ _ _ aoT aoT aoT aoT aoT aoT aoT) (hq:=ze ⟨rfl,rfl⟩)))) (hk:=?_)))|((first|guard_target =~ dw _ _ _ _ _ (13 :: _) _ _ _ _|guard_target =~ dw _ _ _ _ _ (14 :: _) _ _ _ _);first|(refine z9 rfl rfl (h:=(fun τ=>zgj rfl (h:=ze ⟨rfl,rfl⟩))) (hk:=?_)))|((first|guard_target =~ dw _ _ _ _ _ (15 :: _) _ _ _ _|guard_target =~ dw _ _ _ _ _ (16 :: _) _ _ _ _);first|(refine z9 rfl rfl (h:=(fun τ=>zdz rfl (h:=ze ⟨rfl,rfl⟩))) (hk:=?_)))|(guard_target =~ dw _ _ _ _ _ [] _ _ _ _;first|(refine vo ?_)))|(guard_target =~ (_ ∨ _) ∧ _;first|((refine zh [] (by rw [Tryz.results174,Lf.yE]) (zA ?_ ?_) ?_)<;>(try (first|exact zi|exact stq (by with_reducible rfl)|exact stq (by rfl)|exact stq (by simp (disch:=omega) only [go_sem,seval,↓reduceIte,hU])))))|(refine hK _ _ ?_;clear hK K))
  ·have ht : txB 4 = true := ktx.2.2.2.1
   have hf1:=kf4
   have hf2:=kb4
   have hpl:=yK 16 4 i
   rw [zhv vl vs ht (by omega),List.map_append,hf1,hf2]
   refine zc Tryz.func174 rfl Tryz.ntmps174 (by simp) (fun hsc=>?_);simp only [Lf.enter,Nat.reduceAdd];clear hsc
   have hU:=And.intro @hok (@ht)
   repeat' (first|(guard_target =~ PWp _ _ _ _ _ _ _;first|(refine zp (id:=6) [0,1,2,3,4,5,6,7,8,9,10,11,12,13,14,15,16] [11] mixed (by kernel_rfl) (by kernel_rfl) ?_)|(refine za (fun K hK=>?_))|(refine zn ?_)|(refine zJ ?_)|(refine zE ?_)|((refine zb (fun hcd=>?_) (fun hcd=>?_))<;>(try simp only [hcP] at hcd)<;>(try exact cdT)))|(guard_target =~ rg _ _ _ _ _ _ _;first|(guard_target =~ rg _ _ _ (⟨_,.call ⟨.value (.func 198),_,_⟩,_,_,_,some _⟩ :: _) _ _ _;first|(refine zl rfl (h:=?_))|(refine zr rfl (h:=?_)))|(guard_target =~ rg _ _ _ (⟨_,.load _ _,_,_,_,some _⟩ :: _) _ _ _;first|(refine zl rfl (h:=?_))|(refine zr rfl (h:=?_)))|(guard_target =~ rg _ _ _ (⟨_,.unOp _ _ _,_,_,_,some _⟩ :: _) _ _ _;first|(refine zl rfl (h:=?_))|(refine zr rfl (h:=?_)))|(guard_target =~ rg _ _ _ (⟨_,.fieldAddr _ _ _,_,_,_,some _⟩ :: _) _ _ _;first|(refine zl rfl (h:=?_))|(refine zr rfl (h:=?_)))|(guard_target =~ rg _ _ _ [] _ _ _;first|(refine zS ?_))|(refine ks rfl (h:=?_))|(refine vV rfl (h:=?_))|(refine ka rfl ?_))|(guard_target =~ SOp _ _ _ _ _ _;first|(guard_target =~ SOp _ _ ⟨_,.call ⟨.builtin .append,_,_⟩,_,_,_,none⟩ _ _ _;first|(refine zo rfl (he:=by first|exact eo3|exact eo4|exact eo5|exact eo9|exact jz|exact jA|exact zca|exact zcb|exact zfQ|exact zfR|fail) (hK:=?_)))|(guard_target =~ SOp _ _ ⟨_,.call ⟨.value (.func 199),_,_⟩,_,_,_,none⟩ _ _ _;first|(refine zd (f:=199) rfl Tryz.call199 (h:=AEq.pure' agT (zoK _ _ aoT) (hq:=?_))))|(guard_target =~ SOp _ _ ⟨_,.call ⟨.value (.func 198),_,_⟩,_,_,_,some _⟩ _ _ _;first|(refine zd (f:=198) rfl Tryz.call198 (h:=AEq.pure' agT (zac _) (hq:=?_))))|(guard_target =~ SOp _ _ ⟨_,.box _ _,_,_,_,none⟩ _ _ _;first|(refine y7 rfl (hK:=?_)))|(guard_target =~ SOp _ _ ⟨_,.call ⟨.value (.func 196),_,_⟩,_,_,_,none⟩ _ _ _;first|(refine zd (f:=196) rfl Tryz.call196 (h:=AEq.pure' agT (zad _ _ _ _ _ _ _) (hq:=?_)))))|(guard_target =~ dw _ _ _ _ _ _ _ _ _ _;first|((first|guard_target =~ dw _ _ _ _ _ (0 :: _) _ _ _ _|guard_target =~ dw _ _ _ _ _ (3 :: _) _ _ _ _|guard_target =~ dw _ _ _ _ _ (5 :: _) _ _ _ _|guard_target =~ dw _ _ _ _ _ (8 :: _) _ _ _ _);first|(refine z9 rfl rfl (h:=(fun τ=>zR rfl (h:=ze ⟨rfl,rfl⟩))) (hk:=?_))|(refine vX rfl rfl (h:=zR rfl (h:=ze ⟨rfl,rfl⟩)) (hk:=?_)))|((first|guard_target =~ dw _ _ _ _ _ (1 :: _) _ _ _ _|guard_target =~ dw _ _ _ _ _ (4 :: _) _ _ _ _|guard_target =~ dw _ _ _ _ _ (6 :: _) _ _ _ _|guard_target =~ dw _ _ _ _ _ (9 :: _) _ _ _ _);first|(refine z9 rfl rfl (h:=(fun τ=>zR rfl (h:=ze ⟨rfl,rfl⟩))) (hk:=?_))|(refine vX rfl rfl (h:=zR rfl (h:=ze ⟨rfl,rfl⟩)) (hk:=?_)))|((first|guard_target =~ dw _ _ _ _ _ (2 :: _) _ _ _ _|guard_target =~ dw _ _ _ _ _ (7 :: _) _ _ _ _);first|(refine z9 rfl rfl (h:=(fun τ=>yj (h:=zP rfl (hK:=ze ⟨rfl,rfl⟩)))) (hk:=?_)))|((first|guard_target =~ dw _ _ _ _ _ (10 :: _) _ _ _ _|guard_target =~ dw _ _ _ _ _ (12 :: _) _ _ _ _);first|(refine z9 rfl rfl (h:=(fun τ=>zR rfl (h:=ze ⟨rfl,rfl⟩))) (hk:=?_))|(refine vX rfl rfl (h:=zR rfl (h:=ze ⟨rfl,rfl⟩)) (hk:=?_)))|(guard_target =~ dw _ _ _ _ _ (11 :: _) _ _ _ _;first|(refine zaV rfl rfl (h:=yj (h:=zd (f:=197) rfl Tryz.call197 (h:=AEq.sub' [] (hc:=kY _ _ _ aoT aoT aoT aoT aoT aoT aoT) (hq:=ze ⟨rfl,rfl⟩)))) (hk:=?_)))|((first|guard_target =~ dw _ _ _ _ _ (13 :: _) _ _ _ _|guard_target =~ dw _ _ _ _ _ (14 :: _) _ _ _ _);first|(refine z9 rfl rfl (h:=(fun τ=>zgj rfl (h:=ze ⟨rfl,rfl⟩))) (hk:=?_)))|((first|guard_target =~ dw _ _ _ _ _ (15 :: _) _ _ _ _|guard_target =~ dw _ _ _ _ _ (16 :: _) _ _ _ _);first|(refine z9 rfl rfl (h:=(fun τ=>zdz rfl (h:=ze ⟨rfl,rfl⟩))) (hk:=?_)))|(guard_target =~ dw _ _ _ _ _ [] _ _ _ _;first|(refine vo ?_)))|(guard_target =~ (_ ∨ _) ∧ _;first|((refine zh [] (by rw [Tryz.results174,Lf.yE]) (zA ?_ ?_) ?_)<;>(try (first|exact zi|exact stq (by with_reducible rfl)|exact stq (by rfl)|exact stq (by simp (disch:=omega) only [go_sem,seval,↓reduceIte,hU])))))|(refine hK _ _ ?_;clear hK K))
end Go.Proofs.YtdalcgfnlbofdaaGreatDoor
namespace Go.Proofs.YtdalcgfnlbofdaaGreatDoor
open Go Go.Lf Go.Proofs
attribute [local irreducible] Lf.rg Lf.ro Lf.PWp Lf.SOp Lf.ACall Lf.Scoped Lf.dg Lf.dw
set_option maxRecDepth 20000
set_option maxHeartbeats 4000000
structure Rp where
 (k i : Int) (nm : List UInt8) (ns : Bool) (vl : List UInt8) (vs : Bool) (sz n e : Int)
def zqA (e : Int) : Rp:=⟨0,0,[],false,[],false,0,0,e⟩
def rgV (b : List UInt8) (k i : Int) (nm : List UInt8) (ns : Bool) (a : Nat) : Rp:=
 if (slG (b.drop a) (b.length : Int)).2.2.2 ≠ 0 then zqA (slG (b.drop a) (b.length : Int)).2.2.2
 else ⟨k,i,nm,ns,(slG (b.drop a) (b.length : Int)).1,(slG (b.drop a) (b.length : Int)).2.1,0,(a : Int) + (slG (b.drop a) (b.length : Int)).2.2.1,0⟩
def rgN (b : List UInt8) (k : Int) (a : Nat) : Rp:=
 if (slG (b.drop a) (b.length : Int)).2.2.2 ≠ 0 then zqA (slG (b.drop a) (b.length : Int)).2.2.2
 else rgV b k 0 (slG (b.drop a) (b.length : Int)).1 (slG (b.drop a) (b.length : Int)).2.1 (a + (slG (b.drop a) (b.length : Int)).2.2.1.toNat)
def rgK (b : List UInt8) (k : Int) (p : Int × Int × Int) : Rp:=
 if p.2.2 ≠ 0 then zqA p.2.2
 else if k = 5 then ⟨5,0,[],false,[],false,p.1,p.2.1,0⟩
 else if k = 1 then (if p.1 = 0 then zqA 12 else ⟨1,p.1,[],false,[],false,0,p.2.1,0⟩)
 else if p.1 = 0 then rgN b k p.2.1.toNat
 else rgV b k p.1 [] false p.2.1.toNat
def rgM (b : List UInt8) : Rp := match b[0]? with
 | none=>zqA 3
 | some x=>rgK b (zha x.toNat) (pgG b (biI (zha x.toNat)))
attribute [local irreducible] pgG slG zha frI biI txB
end Go.Proofs.YtdalcgfnlbofdaaGreatDoor
namespace Go.Proofs.YtdalcgfnlbofdaaGreatDoor
open Go Go.Lf Go.Proofs
attribute [local irreducible] Lf.rg Lf.ro Lf.PWp Lf.SOp Lf.ACall Lf.Scoped Lf.dg Lf.dw
set_option maxRecDepth 20000
set_option maxHeartbeats 4000000
attribute [local irreducible] pgG slG zha frI biI txB
end Go.Proofs.YtdalcgfnlbofdaaGreatDoor
namespace Go.Proofs.YtdalcgfnlbofdaaGreatDoor
open Go Go.Lf Go.Proofs
attribute [local irreducible] Lf.rg Lf.ro Lf.PWp Lf.SOp Lf.ACall Lf.Scoped Lf.dg
set_option maxRecDepth 20000
set_option maxHeartbeats 4000000
end Go.Proofs.YtdalcgfnlbofdaaGreatDoor
