import Derived.Test.YtdalcgfnlbofdaaGreatDoorPg
import Derived.Test.YtdalcgfnlbofdaaGreatDoorY26
import Derived.Test.YtdalcgfnlbofdaaGreatDoorY15
import Derived.Test.YtdalcgfnlbofdaaGreatDoorY01
import Derived.Test.YtdalcgfnlbofdaaGreatDoorPc
set_option linter.unusedVariables false
set_option linter.unusedSimpArgs false
namespace Go.Proofs.YtdalcgfnlbofdaaGreatDoor
open Go Go.Lf Go.Proofs
attribute [local irreducible] Lf.rg Lf.ro Lf.PWp Lf.SOp Lf.ACall Lf.Scoped Lf.dg Lf.dw
set_option maxRecDepth 20000
set_option maxHeartbeats 4000000
theorem zrG {l : List (List UInt8)} {i : Nat} {d : List UInt8} (h : l[i]? = some d) : (l.map bsA)[i]? = some [.sl false false (d.map zf)]:=by rw [List.getElem?_map,h];rfl
theorem zn5 {l : List (List UInt8)} {i : Nat} {d : List UInt8} (h : l[i]? = some d) : l.drop i = d :: l.drop (i + 1):=by
 obtain ⟨hi,h⟩:=List.getElem?_eq_some_iff.1 h
 rw [← h,List.drop_eq_getElem_cons hi]
theorem zuJ (f : Bool) (b d : List UInt8) (g st : Int) : AEq Tryz.prog 126 [.sl f false (b.map zf),.ptr 0 0] [.box [i64 6,i64 g,i64 st,i64 (-1),.sl false false (d.map zf),.sl true false [],i64 0,i64 0,bl false,i64 0,i64 0,i64 0,i64 0]] (bl (decide (b = d))) [.box [i64 6,i64 g,i64 st,i64 (-1),.sl false false (d.map zf),.sl true false [],i64 0,i64 0,bl false,i64 0,i64 0,i64 0,i64 0]]:=by
 refine zc Tryz.func126 rfl Tryz.ntmps126 (by simp) (fun hsc=>?_);simp only [Lf.enter,Nat.reduceAdd];clear hsc
 have hU:=True.intro
 repeat' (first|(refine goR ?_)|(refine za (fun K hK=>?_))|(refine zd (f:=122) rfl Tryz.call122 (h:=AEq.pure' agT (zfm _ _ _ _ _ _) (hq:=?_)))|((refine zh [0] (by rw [Tryz.results126,Lf.zy]) (zj ?_) ?_)<;>(try (first|exact zi|exact stT)))|(refine hK _ _ ?_;clear hK K))
 all_goals first|exact zt rfl|trace_state
theorem zuK (s : Nat) (l : List (List UInt8)) (d : List UInt8) (g st : Int) (h : l.length ≤ 1000000) : AEq Tryz.prog 125 [.row 0 s,.fn 126 [.ptr 1 0]] [.row s 43 1 (l.map bsA),.box [i64 6,i64 g,i64 st,i64 (-1),.sl false false (d.map zf),.sl true false [],i64 0,i64 0,bl false,i64 0,i64 0,i64 0,i64 0]] (i64 (zd6 d l 0)) [.row s 43 1 (l.map bsA),.box [i64 6,i64 g,i64 st,i64 (-1),.sl false false (d.map zf),.sl true false [],i64 0,i64 0,bl false,i64 0,i64 0,i64 0,i64 0]]:=by
 refine zc Tryz.func125 rfl Tryz.ntmps125 (by simp) (fun hsc=>?_);simp only [Lf.enter,Nat.reduceAdd];clear hsc
 have hU:=True.intro
 repeat' (first|(refine goR ?_)|(refine za (fun K hK=>?_))|(refine hK _ _ ?_;clear hK K))
 refine zU [4,5,8,9,10,11,12,13,14,15,16,17,18] [0,1] (fun i : Nat=>[(8,i64 i)]) (fun _=>[.row s 43 1 (l.map bsA),.box [i64 6,i64 g,i64 st,i64 (-1),.sl false false (d.map zf),.sl true false [],i64 0,i64 0,bl false,i64 0,i64 0,i64 0,i64 0]]) (fun i=>i ≤ l.length ∧ zd6 d l 0 = zd6 d (l.drop i) i) (fun i=>l.length - i) 0 (fun _=>rfl) rfl rfl ⟨Nat.zero_le _,rfl⟩ ?_ rfl (by intro s i x h;simp only [List.mem_cons,Prod.mk.injEq,List.not_mem_nil,or_false] at h;obtain ⟨rfl,_⟩:=h;decide) ?_
 ·(refine ⟨⟨_,sT,?_⟩,trivial⟩<;>(try (first|exact zi)))
 ·rintro i ⟨hi, hk⟩
  simp only [vf,List.map_cons,List.map_nil,List.cons_append,List.nil_append]
  by_cases hlt : i < l.length
  ·obtain ⟨x, hd⟩ := vS hlt
   have hm:=zrG hd
   rw [zn5 hd,zd6] at hk
   by_cases h1 : x = d
   ·rw [if_pos h1] at hk
    have h2 : decide (x = d) = true:=decide_eq_true h1
    have hU:=And.intro @hm (@h2)
    repeat' (first|(refine goR ?_)|(refine za (fun K hK=>?_))|((refine zb (fun hcd=>?_) (fun hcd=>?_))<;>(try simp only [hcP] at hcd)<;>(try exact cdT))|(refine zch (f:=126) rfl sT Tryz.call126 sT (AEq.sub' [_] (by first|((repeat' (first|exact trivial|(first|exact z0|exact zB id id|exact yy|exact zB (by simp) id|exact zB (by simp) (fun _=>rfl)|exact zT (by rfl) (by rfl) (fun _=>rfl)|exact yi (by rfl) (by rfl) (fun _=>rfl)|exact yT (by rfl) (by rfl)|exact yh|exact vu (by rfl) (by rfl) (fun _=>rfl))|refine ⟨?_,?_⟩));done)|fail) (by first|(refine SubOk.mk' ?_ (by first|((repeat' (first|exact trivial|refine ⟨by rfl,by first|rfl|exact yd (fun _=>rfl) _,?_⟩));done)|fail);rfl)|fail) (zuJ _ _ _ _ _) bT (by first|rfl|(simp (disch:=omega) only [List.all_cons,List.all_nil,okP,Bool.and_self,go_sem,seval];done)) sT sT ?_))|((refine zh [0,1] (by rw [Tryz.results125,Lf.zy]) (zj ?_) ?_)<;>(try (first|exact zi|exact stT)))|(refine hK _ _ ?_;clear hK K))
    all_goals first|exact yG hk.symm|trace_state
   ·rw [if_neg h1] at hk
    have h2 : decide (x = d) = false:=decide_eq_false h1
    have hU:=And.intro @hm (@h2)
    repeat' (first|(refine goR ?_)|(refine za (fun K hK=>?_))|((refine zb (fun hcd=>?_) (fun hcd=>?_))<;>(try simp only [hcP] at hcd)<;>(try exact cdT))|(refine zch (f:=126) rfl sT Tryz.call126 sT (AEq.sub' [_] (by first|((repeat' (first|exact trivial|(first|exact z0|exact zB id id|exact yy|exact zB (by simp) id|exact zB (by simp) (fun _=>rfl)|exact zT (by rfl) (by rfl) (fun _=>rfl)|exact yi (by rfl) (by rfl) (fun _=>rfl)|exact yT (by rfl) (by rfl)|exact yh|exact vu (by rfl) (by rfl) (fun _=>rfl))|refine ⟨?_,?_⟩));done)|fail) (by first|(refine SubOk.mk' ?_ (by first|((repeat' (first|exact trivial|refine ⟨by rfl,by first|rfl|exact yd (fun _=>rfl) _,?_⟩));done)|fail);rfl)|fail) (zuJ _ _ _ _ _) bT (by first|rfl|(simp (disch:=omega) only [List.all_cons,List.all_nil,okP,Bool.and_self,go_sem,seval];done)) sT sT ?_))|(refine hK _ _ ?_;clear hK K))
    refine ⟨i + 1,⟨by omega,hk⟩,by omega,?_,arT,srT⟩
    (refine ⟨⟨_,sT,?_⟩,trivial⟩<;>(try (first|exact zi)))
  ·have he : zd6 d l 0 = -1 := by rw [hk, List.drop_eq_nil_of_le (by omega)]; rfl
   repeat' (first|(refine goR ?_)|(refine za (fun K hK=>?_))|((refine zb (fun hcd=>?_) (fun hcd=>?_))<;>(try simp only [hcP] at hcd)<;>(try exact cdT))|((refine zh [0,1] (by rw [Tryz.results125,Lf.zy]) (zj ?_) ?_)<;>(try (first|exact zi|exact stT)))|(refine hK _ _ ?_;clear hK K)|(apply_assumption (exfalso:=false) (symm:=false)))
   all_goals first|exact yG he.symm|trace_state
theorem zkT {p : Prop} [Decidable p] (h : ¬ p) : decide p = false:=decide_eq_false h
theorem zn6 (sd n : Int) (s : Nat) (l : List (List UInt8)) (w t g st : Int) (r f : Bool) (b : List UInt8) (hl : l.length ≤ 1000) (hb : b.length ≤ 100000) (hn : -1000 ≤ n ∧ n ≤ 1000) (hs : sd = 0 ∨ sd = 1) (ho : ¬ km ⟨b.length,t,g,st,r⟩) : AEq Tryz.prog 74 [.ptr 0 0,.ag [i64 w,i64 t,i64 g,i64 st,bl r,.sl f false (b.map zf)]] [.box [i64 sd,i64 n,.row 1 s],.row s 43 1 (l.map bsA)] (.tu []) [.box [i64 sd,i64 n,.row 1 s],.row s 43 1 (l.map bsA)]:=by
 refine zc Tryz.func74 rfl Tryz.ntmps74 (by simp) (fun hsc=>?_);simp only [Lf.enter,Nat.reduceAdd];clear hsc
 have hU:=True.intro
 repeat' (first|(refine goR ?_)|(refine za (fun K hK=>?_))|((refine zb (fun hcd=>?_) (fun hcd=>?_))<;>(try simp only [hcP] at hcd)<;>(try exact cdT))|(refine zd (f:=18) rfl Tryz.call18 (h:=AEq.pure' agT (zbK _ _ _ _ _ _ _ aoT aoT) (hq:=?_)))|((refine zh [0,1] (by rw [Tryz.results74,Lf.vW]) yk ?_)<;>(try (first|exact zi|exact stT)))|(refine hK _ _ ?_;clear hK K))
theorem zkU (sd n : Int) (s : Nat) (l : List (List UInt8)) (w t g st : Int) (r f : Bool) (b : List UInt8) (hl : l.length ≤ 1000) (hb : b.length ≤ 100000) (hn : -1000 ≤ n ∧ n ≤ 1000) (hs : sd = 0 ∨ sd = 1) (ho : km ⟨b.length,t,g,st,r⟩) (F : Fm) (w1 w2 : Int) (hP : ym t g st b = (F,w1,w2)) (hw : ¬ (w1 = 0 ∧ w2 = 0)) : AEq Tryz.prog 74 [.ptr 0 0,.ag [i64 w,i64 t,i64 g,i64 st,bl r,.sl f false (b.map zf)]] [.box [i64 sd,i64 n,.row 1 s],.row s 43 1 (l.map bsA)] (.tu []) [.box [i64 sd,i64 n,.row 1 s],.row s 43 1 (l.map bsA)]:=by
 refine zc Tryz.func74 rfl Tryz.ntmps74 (by simp) (fun hsc=>?_);simp only [Lf.enter,Nat.reduceAdd];clear hsc
 have hU:=@hP
 repeat' (first|(refine goR ?_)|(refine za (fun K hK=>?_))|((refine zb (fun hcd=>?_) (fun hcd=>?_))<;>(try simp only [hcP] at hcd)<;>(try exact cdT))|(guard_target =~ SOp _ _ ⟨_,.binOp _ _ _ _ _,_,_,_,none⟩ _ _ _;refine zV (ne:=true) rfl (by first|exact jQ|exact jn|exact jR|exact kR|exact vY|fail) (hc:=rfl) (hK:=?_))|(guard_target =~ SOp _ _ ⟨_,.binOp _ _ _ _ _,_,_,_,some _⟩ _ _ _;refine zV (ne:=true) rfl (by first|exact jQ|exact jn|exact jR|exact kR|exact vY|fail) (hc:=rfl) (hK:=?_))|(refine zd (f:=18) rfl Tryz.call18 (h:=AEq.pure' agT (zW _ _ _ _ _ _ _ aoT aoT) (hq:=?_)))|((refine zh [0,1] (by rw [Tryz.results74,Lf.vW]) yk ?_)<;>(try (first|exact zi|exact stT)))|(refine hK _ _ ?_;clear hK K))
theorem zn7 (sd n : Int) (s : Nat) (l : List (List UInt8)) (g st : Int) (r f : Bool) (b : List UInt8) (hl : l.length ≤ 1000) (hb : b.length ≤ 100000) (hn : -1000 ≤ n ∧ n ≤ 1000) (hs : sd = 0 ∨ sd = 1) (ho : km ⟨b.length,4,g,st,r⟩) (F : Fm) (hP : ym 4 g st b = (F,0,0)) (hB : zF 4 g 1 = false) : AEq Tryz.prog 74 [.ptr 0 0,.ag [i64 (1 - sd),i64 4,i64 g,i64 st,bl r,.sl f false (b.map zf)]] [.box [i64 sd,i64 n,.row 1 s],.row s 43 1 (l.map bsA)] (.tu []) [.box [i64 sd,i64 (n + 1),.row 1 s],.row s 43 1 (l.map bsA)]:=by
 have hg : 0 ≤ g ∧ g < 256:=by unfold km at ho;dsimp only at ho;omega
 have hg0:=hg.1
 have hg1:=hg.2
 refine zc Tryz.func74 rfl Tryz.ntmps74 (by simp) (fun hsc=>?_);simp only [Lf.enter,Nat.reduceAdd];clear hsc
 have hU:=And.intro @hP (@hB)
 repeat' (first|(refine goR ?_)|(refine za (fun K hK=>?_))|(guard_target =~ PWp _ _ _ _ _ _ _;refine zQ mixed (by kernel_rfl) ?_)|((refine zb (fun hcd=>?_) (fun hcd=>?_))<;>(try simp only [hcP] at hcd)<;>(try exact cdT))|(guard_target =~ SOp _ _ ⟨_,.binOp _ _ _ _ _,_,_,_,none⟩ _ _ _;refine zV (ne:=true) rfl (by first|exact jQ|exact jn|exact jR|exact kR|exact vY|fail) (hc:=rfl) (hK:=?_))|(guard_target =~ SOp _ _ ⟨_,.binOp _ _ _ _ _,_,_,_,some _⟩ _ _ _;refine zV (ne:=true) rfl (by first|exact jQ|exact jn|exact jR|exact kR|exact vY|fail) (hc:=rfl) (hK:=?_))|(refine zd (f:=18) rfl Tryz.call18 (h:=AEq.pure' agT (zW _ _ _ _ _ _ _ aoT aoT) (hq:=?_)))|(refine zd (f:=94) rfl Tryz.call94 (h:=AEq.pure' agT (zba _ _ _ aoT aoT aoT) (hq:=?_)))|((refine zh [0,1] (by rw [Tryz.results74,Lf.vW]) yk ?_)<;>(try (first|exact zi|exact stT)))|(refine hK _ _ ?_;clear hK K))
theorem zn8 (sd n : Int) (s : Nat) (l : List (List UInt8)) (g st : Int) (r f : Bool) (b : List UInt8) (hl : l.length ≤ 1000) (hb : b.length ≤ 100000) (hn : -1000 ≤ n ∧ n ≤ 1000) (hs : sd = 0 ∨ sd = 1) (ho : km ⟨b.length,4,g,st,r⟩) (F : Fm) (hP : ym 4 g st b = (F,0,0)) (hB : zF 4 g 1 = true) : AEq Tryz.prog 74 [.ptr 0 0,.ag [i64 sd,i64 4,i64 g,i64 st,bl r,.sl f false (b.map zf)]] [.box [i64 sd,i64 n,.row 1 s],.row s 43 1 (l.map bsA)] (.tu []) [.box [i64 sd,i64 (n - 1),.row 1 s],.row s 43 1 (l.map bsA)]:=by
 have hg : 0 ≤ g ∧ g < 256:=by unfold km at ho;dsimp only at ho;omega
 have hg0:=hg.1
 have hg1:=hg.2
 refine zc Tryz.func74 rfl Tryz.ntmps74 (by simp) (fun hsc=>?_);simp only [Lf.enter,Nat.reduceAdd];clear hsc
 have hU:=And.intro @hP (@hB)
 repeat' (first|(refine goR ?_)|(refine za (fun K hK=>?_))|(guard_target =~ PWp _ _ _ _ _ _ _;refine zQ mixed (by kernel_rfl) ?_)|((refine zb (fun hcd=>?_) (fun hcd=>?_))<;>(try simp only [hcP] at hcd)<;>(try exact cdT))|(guard_target =~ SOp _ _ ⟨_,.binOp _ _ _ _ _,_,_,_,none⟩ _ _ _;refine zV (ne:=true) rfl (by first|exact jQ|exact jn|exact jR|exact kR|exact vY|fail) (hc:=rfl) (hK:=?_))|(guard_target =~ SOp _ _ ⟨_,.binOp _ _ _ _ _,_,_,_,some _⟩ _ _ _;refine zV (ne:=true) rfl (by first|exact jQ|exact jn|exact jR|exact kR|exact vY|fail) (hc:=rfl) (hK:=?_))|(refine zd (f:=18) rfl Tryz.call18 (h:=AEq.pure' agT (zW _ _ _ _ _ _ _ aoT aoT) (hq:=?_)))|(refine zd (f:=94) rfl Tryz.call94 (h:=AEq.pure' agT (zba _ _ _ aoT aoT aoT) (hq:=?_)))|((refine zh [0,1] (by rw [Tryz.results74,Lf.vW]) yk ?_)<;>(try (first|exact zi|exact stT)))|(refine hK _ _ ?_;clear hK K))
theorem zn9 (sd n : Int) (s : Nat) (l : List (List UInt8)) (g st : Int) (r f : Bool) (b : List UInt8) (hl : l.length ≤ 1000) (hb : b.length ≤ 100000) (hn : -1000 ≤ n ∧ n ≤ 1000) (hs : sd = 0 ∨ sd = 1) (ho : km ⟨b.length,6,g,st,r⟩) (hP : ym 6 g st b = (⟨6,g,st,-1,false,b,true,[],0,0,false,0,0,0,0⟩,0,0)) (hB : zF 6 g 1 = false) : AEq Tryz.prog 74 [.ptr 0 0,.ag [i64 (1 - sd),i64 6,i64 g,i64 st,bl r,.sl f false (b.map zf)]] [.box [i64 sd,i64 n,.row 1 s],.row s 43 1 (l.map bsA)] (.tu []) [.box [i64 sd,i64 n,.row 1 (s + 1)],.row (s + 1) 43 1 ((l ++ [b]).map bsA)]:=by
 have hg : 0 ≤ g ∧ g < 256:=by unfold km at ho;dsimp only at ho;omega
 have hg0:=hg.1
 have hg1:=hg.2
 refine zc Tryz.func74 rfl Tryz.ntmps74 (by simp) (fun hsc=>?_);simp only [Lf.enter,Nat.reduceAdd];clear hsc
 have hU:=And.intro @hP (@hB)
 repeat' (first|(refine goR ?_)|(guard_target =~ PWp _ _ _ _ _ _ _;refine yp (id:=10) [1,2,3,4,5,6,7,8,0,9,10,11] [8,11] mixed (by kernel_rfl) (by kernel_rfl) ?_)|(refine za (fun K hK=>?_))|(guard_target =~ PWp _ _ _ _ _ _ _;refine zQ mixed (by kernel_rfl) ?_)|((refine zb (fun hcd=>?_) (fun hcd=>?_))<;>(try simp only [hcP] at hcd)<;>(try exact cdT))|(guard_target =~ SOp _ _ ⟨_,.binOp _ _ _ _ _,_,_,_,none⟩ _ _ _;refine zV (ne:=true) rfl (by first|exact jQ|exact jn|exact jR|exact kR|exact vY|fail) (hc:=rfl) (hK:=?_))|(guard_target =~ SOp _ _ ⟨_,.binOp _ _ _ _ _,_,_,_,some _⟩ _ _ _;refine zV (ne:=true) rfl (by first|exact jQ|exact jn|exact jR|exact kR|exact vY|fail) (hc:=rfl) (hK:=?_))|(refine zd (f:=18) rfl Tryz.call18 (h:=AEq.pure' agT (zW _ _ _ _ _ _ _ aoT aoT) (hq:=?_)))|(refine zd (f:=94) rfl Tryz.call94 (h:=AEq.pure' agT (zba _ _ _ aoT aoT aoT) (hq:=?_)))|((refine zh [0,1] (by rw [Tryz.results74,Lf.vW]) yk ?_)<;>(try (first|exact zi|exact stT)))|(guard_target =~ dw _ _ _ _ _ _ _ _ _ _;first|(guard_target =~ dw _ _ _ _ _ (7 :: _) _ _ _ _;(refine z9 rfl rfl (h:=(fun τ=>yj (h:=yF rfl (he:=eoT) (hK:=ze ⟨rfl,rfl⟩)))) (hk:=?_)))|(guard_target =~ dw _ _ _ _ _ (8 :: _) _ _ _ _;(refine zaV rfl rfl (h:=yj (h:=zo rfl (he:=eoT) (hK:=ze ⟨rfl,rfl⟩))) (hk:=?_)))|(guard_target =~ dw _ _ _ _ _ (11 :: _) _ _ _ _;(refine zbn rfl rfl (h:=ziN (h:=z6 rfl (hK:=ze ⟨rfl,rfl⟩))) (hk:=?_))))|(refine hK _ _ ?_;clear hK K))
 all_goals exact stq (by rw [show (List.map bsA l ++ [[AV.sl false false (List.map zf b)]]) = List.map bsA (l ++ [b]) from by rw [List.map_append];rfl,zjQ])
theorem zoa (sd n : Int) (s : Nat) (l : List (List UInt8)) (g st : Int) (r f : Bool) (b : List UInt8) (hl : l.length ≤ 1000) (hb : b.length ≤ 100000) (hn : -1000 ≤ n ∧ n ≤ 1000) (hs : sd = 0 ∨ sd = 1) (ho : km ⟨b.length,6,g,st,r⟩) (hP : ym 6 g st b = (⟨6,g,st,-1,false,b,true,[],0,0,false,0,0,0,0⟩,0,0)) (hB : zF 6 g 1 = true) (hi : zd6 b l 0 = -1) : AEq Tryz.prog 74 [.ptr 0 0,.ag [i64 sd,i64 6,i64 g,i64 st,bl r,.sl f false (b.map zf)]] [.box [i64 sd,i64 n,.row 1 s],.row s 43 1 (l.map bsA)] (.tu []) [.box [i64 sd,i64 n,.row 1 s],.row s 43 1 (l.map bsA)]:=by
 have hg : 0 ≤ g ∧ g < 256:=by unfold km at ho;dsimp only at ho;omega
 have hg0:=hg.1
 have hg1:=hg.2
 refine zc Tryz.func74 rfl Tryz.ntmps74 (by simp) (fun hsc=>?_);simp only [Lf.enter,Nat.reduceAdd];clear hsc
 have hU:=And.intro @hP ( And.intro @hB (@hi))
 repeat' (first|(refine goR ?_)|(refine za (fun K hK=>?_))|(guard_target =~ PWp _ _ _ _ _ _ _;refine zQ mixed (by kernel_rfl) ?_)|((refine zb (fun hcd=>?_) (fun hcd=>?_))<;>(try simp only [hcP] at hcd)<;>(try exact cdT))|(guard_target =~ SOp _ _ ⟨_,.binOp _ _ _ _ _,_,_,_,none⟩ _ _ _;refine zV (ne:=true) rfl (by first|exact jQ|exact jn|exact jR|exact kR|exact vY|fail) (hc:=rfl) (hK:=?_))|(guard_target =~ SOp _ _ ⟨_,.binOp _ _ _ _ _,_,_,_,some _⟩ _ _ _;refine zV (ne:=true) rfl (by first|exact jQ|exact jn|exact jR|exact kR|exact vY|fail) (hc:=rfl) (hK:=?_))|(guard_target =~ SOp _ _ ⟨_,.makeFunc _ _ _,_,_,_,none⟩ _ _ _;refine jB rfl sT ?_)|(refine zd (f:=18) rfl Tryz.call18 (h:=AEq.pure' agT (zW _ _ _ _ _ _ _ aoT aoT) (hq:=?_)))|(refine zd (f:=94) rfl Tryz.call94 (h:=AEq.pure' agT (zba _ _ _ aoT aoT aoT) (hq:=?_)))|(refine zd (f:=125) rfl Tryz.call125 (h:=AEq.sub' [_,_] (hc:=zuK _ _ _ _ _ aoT) (hq:=?_)))|((refine zh [0,1] (by rw [Tryz.results74,Lf.vW]) yk ?_)<;>(try (first|exact zi|exact stT)))|(refine hK _ _ ?_;clear hK K))
theorem zob (sd n : Int) (s : Nat) (l : List (List UInt8)) (g st : Int) (r f : Bool) (b : List UInt8) (hl : l.length ≤ 1000) (hb : b.length ≤ 100000) (hn : -1000 ≤ n ∧ n ≤ 1000) (hs : sd = 0 ∨ sd = 1) (ho : km ⟨b.length,6,g,st,r⟩) (hP : ym 6 g st b = (⟨6,g,st,-1,false,b,true,[],0,0,false,0,0,0,0⟩,0,0)) (hB : zF 6 g 1 = true) (k : Nat) (hk : k < l.length) (hi : zd6 b l 0 = k) : AEq Tryz.prog 74 [.ptr 0 0,.ag [i64 sd,i64 6,i64 g,i64 st,bl r,.sl f false (b.map zf)]] [.box [i64 sd,i64 n,.row 1 s],.row s 43 1 (l.map bsA)] (.tu []) [.box [i64 sd,i64 n,.row 1 (s + 1)],.row (s + 1) 43 1 ((l.eraseIdx k).map bsA)]:=by
 have hg : 0 ≤ g ∧ g < 256:=by unfold km at ho;dsimp only at ho;omega
 have hg0:=hg.1
 have hg1:=hg.2
 refine zc Tryz.func74 rfl Tryz.ntmps74 (by simp) (fun hsc=>?_);simp only [Lf.enter,Nat.reduceAdd];clear hsc
 have hU:=And.intro @hP ( And.intro @hB (@hi))
 repeat' (first|(refine goR ?_)|(refine za (fun K hK=>?_))|(guard_target =~ PWp _ _ _ _ _ _ _;refine zQ mixed (by kernel_rfl) ?_)|((refine zb (fun hcd=>?_) (fun hcd=>?_))<;>(try simp only [hcP] at hcd)<;>(try exact cdT))|(guard_target =~ SOp _ _ ⟨_,.binOp _ _ _ _ _,_,_,_,none⟩ _ _ _;refine zV (ne:=true) rfl (by first|exact jQ|exact jn|exact jR|exact kR|exact vY|fail) (hc:=rfl) (hK:=?_))|(guard_target =~ SOp _ _ ⟨_,.binOp _ _ _ _ _,_,_,_,some _⟩ _ _ _;refine zV (ne:=true) rfl (by first|exact jQ|exact jn|exact jR|exact kR|exact vY|fail) (hc:=rfl) (hK:=?_))|(guard_target =~ SOp _ _ ⟨_,.makeFunc _ _ _,_,_,_,none⟩ _ _ _;refine jB rfl sT ?_)|(refine zd (f:=127) rfl Tryz.call127 (h:=AEq.sub' [_] (hc:=zrF _ _ _ aoT) (hq:=?_)))|(refine zd (f:=18) rfl Tryz.call18 (h:=AEq.pure' agT (zW _ _ _ _ _ _ _ aoT aoT) (hq:=?_)))|(refine zd (f:=94) rfl Tryz.call94 (h:=AEq.pure' agT (zba _ _ _ aoT aoT aoT) (hq:=?_)))|(refine zd (f:=125) rfl Tryz.call125 (h:=AEq.sub' [_,_] (hc:=zuK _ _ _ _ _ aoT) (hq:=?_)))|((refine zh [0,1] (by rw [Tryz.results74,Lf.vW]) yk ?_)<;>(try (first|exact zi|exact stT)))|(refine hK _ _ ?_;clear hK K))
end Go.Proofs.YtdalcgfnlbofdaaGreatDoor
