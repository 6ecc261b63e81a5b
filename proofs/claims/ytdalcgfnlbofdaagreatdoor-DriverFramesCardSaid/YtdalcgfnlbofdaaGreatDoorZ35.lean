import Derived.Test.YtdalcgfnlbofdaaGreatDoorTg
import Derived.Test.YtdalcgfnlbofdaaGreatDoorZ34
import Derived.Test.YtdalcgfnlbofdaaGreatDoorZ32
import Derived.Test.YtdalcgfnlbofdaaGreatDoorLc
import Derived.Test.YtdalcgfnlbofdaaGreatDoorLb
import Derived.Test.YtdalcgfnlbofdaaGreatDoorTy
import Derived.Test.YtdalcgfnlbofdaaGreatDoorRows
import Derived.ProofKit
import Derived.LaidMore
import Derived.OpenShut
import Derived.Stop.Joined
set_option linter.unusedVariables false
set_option linter.unusedSimpArgs false
namespace Go.Proofs.YtdalcgfnlbofdaaGreatDoor
open Go Go.Lf Go.Proofs
attribute [local irreducible] Lf.rg Lf.ro Lf.PWp Lf.SOp Lf.ACall Lf.Scoped Lf.dg Lf.dw
set_option maxRecDepth 20000
set_option maxHeartbeats 4000000
theorem zA0 : AEq Tryz.prog 34 [] [] (.sl false false (preB.map zf)) []:=by
 refine zc Tryz.func34 rfl Tryz.ntmps34 (by simp) (fun hsc=>?_);simp only [Lf.enter,Nat.reduceAdd];clear hsc
 have hU:=True.intro
 repeat' (first|(refine goR ?_)|(refine za (fun K hK=>?_))|(guard_target =~ SOp _ _ ⟨_,.buildSlice _ _ _,_,_,_,none⟩ _ _ _;refine zF (xs:=List.map (zf) (preB)) rfl (he:=eoT) (hc:=hcT) (hK:=?_))|((refine ze [] (by rw [Tryz.results34,Lf.zt]) (zj ?_) ?_)<;>(try (first|exact zh|exact stT)))|(refine hK _ _ ?_;clear hK K))
theorem zsY (sd : Int) : AEq Tryz.prog 11 [i64 sd] [] (.sl false false ((opF sd).map frA)) []:=by
 by_cases h0 : sd = 0
 ·subst h0
  rw [zsr]
  refine zc Tryz.func11 rfl Tryz.ntmps11 (by simp) (fun hsc=>?_);simp only [Lf.enter,Nat.reduceAdd];clear hsc
  have hU:=True.intro
  repeat' (first|(refine goR ?_)|(refine za (fun K hK=>?_))|((refine zb (fun hcd=>?_) (fun hcd=>?_))<;>(try simp only [hcP] at hcd)<;>(try exact cdT))|(guard_target =~ SOp _ _ ⟨_,.buildSlice _ _ _,_,_,_,none⟩ _ _ _;refine zF (xs:=List.map (frA) (zvl)) rfl (he:=eoT) (hc:=hcT) (hK:=?_))|(refine zd (f:=34) rfl Tryz.call34 (h:=AEq.pure' agT zA0 (hq:=?_)))|((refine ze [] (by rw [Tryz.results11,Lf.zt]) (zj ?_) ?_)<;>(try (first|exact zh|exact stT)))|(refine hK _ _ ?_;clear hK K))
 ·by_cases h1 : sd = 1
  ·subst h1
   rw [zss]
   refine zc Tryz.func11 rfl Tryz.ntmps11 (by simp) (fun hsc=>?_);simp only [Lf.enter,Nat.reduceAdd];clear hsc
   have hU:=True.intro
   repeat' (first|(refine goR ?_)|(refine za (fun K hK=>?_))|((refine zb (fun hcd=>?_) (fun hcd=>?_))<;>(try simp only [hcP] at hcd)<;>(try exact cdT))|(guard_target =~ SOp _ _ ⟨_,.buildSlice _ _ _,_,_,_,none⟩ _ _ _;refine zF (xs:=List.map (frA) (zvm)) rfl (he:=eoT) (hc:=hcT) (hK:=?_))|((refine ze [] (by rw [Tryz.results11,Lf.zt]) (zj ?_) ?_)<;>(try (first|exact zh|exact stT)))|(refine hK _ _ ?_;clear hK K))
  ·have h2 : opF sd = [] := by unfold opF; rw [if_neg h0, if_neg h1]
   rw [h2]
   refine zc Tryz.func11 rfl Tryz.ntmps11 (by simp) (fun hsc=>?_);simp only [Lf.enter,Nat.reduceAdd];clear hsc
   have hU:=True.intro
   repeat' (first|(refine goR ?_)|(refine za (fun K hK=>?_))|((refine zb (fun hcd=>?_) (fun hcd=>?_))<;>(try simp only [hcP] at hcd)<;>(try exact cdT))|((refine ze [] (by rw [Tryz.results11,Lf.zt]) (zj ?_) ?_)<;>(try (first|exact zh|exact stT)))|(refine hK _ _ ?_;clear hK K))
def zeD (x : StL) : List StL:=[x]
theorem zlt {x : StL} (h1 : x.fl.length ≤ 9223372036854775807) (h2 : x.ss.length ≤ 9223372036854775807) : inS (zeD x):=by
 intro s hs
 obtain rfl:=List.mem_singleton.1 hs
 exact ⟨h1,h2⟩
theorem zvo {sd k t n : Int} {e : Bool} {fl : List Fl} {ss : List (Int × Int)} (hs : sd = 0 ∨ sd = 1) (h : rsB ⟨k,t,n,e,fl,ss⟩ = true) (h8 : ¬ k = 8) : (frF sd k t n e fl ss).length = 1 ∧ ∀ x ∈ frF sd k t n e fl ss,x.b.length ≤ 1000000000:=by
 refine ⟨rfl,fun x hx=>?_⟩
 obtain rfl:=List.mem_singleton.1 hx
 obtain ⟨_,_,hok,_,_⟩:=zeA (w:=sd) h h8 hs
 obtain ⟨_,h2,_⟩:=hok
 dsimp only at h2 ⊢
 omega
attribute [local irreducible] rsB frF opF zbg
theorem zeE (sd k t n : Int) (e : Bool) (fl : List Fl) (ss : List (Int × Int)) (hfl : fl.length ≤ 9223372036854775807) (hss : ss.length ≤ 9223372036854775807) : AEq Tryz.prog 3 [i64 sd,.ag [i64 k,i64 t,i64 n,bl e,.sl false false (fl.map flA),.sl false false (ss.map zV)]] [] (bl true) []:=by
 have hol : (zeD ⟨k,t,n,e,fl,ss⟩).length ≤ 9223372036854775807:=by show 1 ≤ _;decide
 have hoi:=zlt (x:=⟨k,t,n,e,fl,ss⟩) hfl hss
 have hlit : [[i64 k,i64 t,i64 n,bl e,AV.sl false false (List.map flA fl),AV.sl false false (List.map zV ss)]] = List.map stA (zeD ⟨k,t,n,e,fl,ss⟩):=rfl
 cases hLg : zbg (zeD ⟨k,t,n,e,fl,ss⟩) with
 | true=>
  refine zc Tryz.func3 rfl Tryz.ntmps3 (by simp) (fun hsc=>?_);simp only [Lf.enter,Nat.reduceAdd];clear hsc
  have hU:=@hLg
  repeat' (first|(refine goR ?_)|(refine za (fun K hK=>?_))|((refine zb (fun hcd=>?_) (fun hcd=>?_))<;>(try simp only [hcP] at hcd)<;>(try exact cdT))|(refine zd (f:=8) rfl Tryz.call8 (h:=AEq.pure' agT zjb (hq:=?_)))|(refine zd (f:=7) rfl Tryz.call7 (h:=AEq.pure' agT (zeC _ _ _ _ _ (by assumption) (by assumption)) (hq:=?_)))|(guard_target =~ SOp _ _ ⟨_,.buildSlice _ _ _,_,_,_,none⟩ _ _ _;refine zF (xs:=List.map (stA) (zeD ⟨k,t,n,e,fl,ss⟩)) rfl (he:=eoT) (hc:=hcT) (hK:=?_))|((refine ze [] (by rw [Tryz.results3,Lf.zt]) (zj ?_) ?_)<;>(try (first|exact zh|exact stT)))|(refine hK _ _ ?_;clear hK K))
 | false=>
  obtain ⟨_,hsm⟩:=zjc hLg
  obtain ⟨hx1,hx2⟩:=hsm ⟨k,t,n,e,fl,ss⟩ List.mem_cons_self
  dsimp only at hx1 hx2
  have hs6 : ss.length ≤ 1000000:=by omega
  have ho1 : (opF sd).length ≤ 1000000000:=by
   unfold opF
   split
   ·decide
   ·split<;>decide
  have ho2 : ∀ x ∈ opF sd,x.b.length ≤ 1000000000:=by
   unfold opF
   split
   ·decide
   ·split
    ·decide
    ·intro x hx;simp at hx
  have ho3 : (opF sd).map rqF = (opF sd).map rqF:=rfl
  by_cases hY : (sd = 0 ∨ sd = 1) ∧ rsB ⟨k,t,n,e,fl,ss⟩ = true ∧ ¬ k = 8
  ·obtain ⟨hs, hR, h8⟩ := hY
   obtain ⟨hf1,hf2⟩:=zvo hs hR h8
   have hf1 : (frF sd k t n e fl ss).length ≤ 1000000000:=by rw [hf1];decide
   have hf3 : (frF sd k t n e fl ss).map rqF = (frF sd k t n e fl ss).map rqF:=rfl
   refine zc Tryz.func3 rfl Tryz.ntmps3 (by simp) (fun hsc=>?_);simp only [Lf.enter,Nat.reduceAdd];clear hsc
   have hU:=@hLg
   repeat' (first|(refine goR ?_)|(refine za (fun K hK=>?_))|(guard_target =~ PWp _ _ _ _ _ _ _;refine zG mixed (by kernel_rfl) ?_)|((refine zb (fun hcd=>?_) (fun hcd=>?_))<;>(try simp only [hcP] at hcd)<;>(try exact cdT))|(refine zd (f:=7) rfl Tryz.call7 (h:=AEq.pure' agT (zeC _ _ _ _ _ (by assumption) (by assumption)) (hq:=?_)))|(guard_target =~ SOp _ _ ⟨_,.buildSlice _ _ _,_,_,_,none⟩ _ _ _;refine zF (xs:=List.map (stA) (zeD ⟨k,t,n,e,fl,ss⟩)) rfl (he:=eoT) (hc:=hcT) (hK:=?_))|((refine ze [] (by rw [Tryz.results3,Lf.zt]) (zj ?_) ?_)<;>(try (first|exact zh|exact stT)))|(guard_target =~ dg _ _ _ _ _ _ _;first|(guard_target =~ dg _ _ _ (⟨_,.call ⟨.value (.func 11),_,_⟩,_,_,_,none⟩ :: _) _ _ _;(refine yY (x:=_) (h:=zQ (h:=zd (f:=11) rfl Tryz.call11 (h:=AEq.pure' agT (zsY _) (hq:=zi ⟨rfl,rfl⟩)))) (hk:=?_)))|(guard_target =~ dg _ _ _ (⟨_,.call ⟨.value (.func 10),_,_⟩,_,_,_,none⟩ :: _) _ _ _;(refine yY (x:=_) (h:=zQ (h:=zd (f:=10) rfl Tryz.call10 (h:=AEq.pure' agT (zpc _) (hq:=zi ⟨rfl,rfl⟩)))) (hk:=?_)))|(guard_target =~ dg _ _ _ (⟨_,.call ⟨.value (.func 9),_,_⟩,_,_,_,some _⟩ :: _) _ _ _;(refine yY (x:=_) (h:=zb2 (h:=zd (f:=9) rfl Tryz.call9 (h:=AEq.pure' agT (zja _ _ _ _ _ _ (by assumption) (by assumption) (by assumption)) (hq:=zi ⟨rfl,rfl⟩)))) (hk:=?_)))|(guard_target =~ dg _ _ _ (⟨_,.call ⟨.value (.func 9),_,_⟩,_,_,_,none⟩ :: _) _ _ _;(refine yY (x:=_) (h:=zQ (h:=zd (f:=9) rfl Tryz.call9 (h:=AEq.pure' agT (zja _ _ _ _ _ _ (by assumption) (by assumption) (by assumption)) (hq:=zi ⟨rfl,rfl⟩)))) (hk:=?_)))|(guard_target =~ dg _ _ _ (⟨_,.call ⟨.value (.func 8),_,_⟩,_,_,_,some _⟩ :: _) _ _ _;(refine yY (x:=_) (h:=zb2 (h:=zd (f:=8) rfl Tryz.call8 (h:=AEq.pure' agT zjb (hq:=zi ⟨rfl,rfl⟩)))) (hk:=?_)))|(guard_target =~ dg _ _ _ (⟨_,.call ⟨.value (.func 13),_,_⟩,_,_,_,some _⟩ :: _) _ _ _;(refine yY (x:=_) (h:=zb2 (h:=zd (f:=13) rfl Tryz.call13 (h:=AEq.pure' agT (zjk _ _ _ _ _ _ _ (by assumption) (by assumption) (by assumption) (by assumption) (by assumption)) (hq:=zi ⟨rfl,rfl⟩)))) (hk:=?_)))|(guard_target =~ dg _ _ _ (⟨_,.call ⟨.value (.func 12),_,_⟩,_,_,_,some _⟩ :: _) _ _ _;(refine yY (x:=_) (h:=zb2 (h:=zd (f:=12) rfl Tryz.call12 (h:=AEq.pure' agT (zji _ _ _ _ _ _ _ (by assumption) (by assumption) (by assumption) (by assumption) (by assumption)) (hq:=zi ⟨rfl,rfl⟩)))) (hk:=?_))))|(refine hK _ _ ?_;clear hK K))
  ·have h0 : ([] : List Fr).length ≤ 1000000000 := by decide
   have h1 : ∀ x ∈ ([] : List Fr),x.b.length ≤ 1000000000:=by simp
   have h2 : ([] : List Fr).map rqF = ([] : List Fr).map rqF:=rfl
   refine zc Tryz.func3 rfl Tryz.ntmps3 (by simp) (fun hsc=>?_);simp only [Lf.enter,Nat.reduceAdd];clear hsc
   have hU:=@hLg
   repeat' (first|(refine goR ?_)|(refine za (fun K hK=>?_))|(guard_target =~ PWp _ _ _ _ _ _ _;refine zG mixed (by kernel_rfl) ?_)|((refine zb (fun hcd=>?_) (fun hcd=>?_))<;>(try simp only [hcP] at hcd)<;>(try exact cdT))|(refine zd (f:=7) rfl Tryz.call7 (h:=AEq.pure' agT (zeC _ _ _ _ _ (by assumption) (by assumption)) (hq:=?_)))|(guard_target =~ SOp _ _ ⟨_,.buildSlice _ _ _,_,_,_,none⟩ _ _ _;refine zF (xs:=List.map (stA) (zeD ⟨k,t,n,e,fl,ss⟩)) rfl (he:=eoT) (hc:=hcT) (hK:=?_))|((refine ze [] (by rw [Tryz.results3,Lf.zt]) (zj ?_) ?_)<;>(try (first|exact zh|exact stT)))|(guard_target =~ dg _ _ _ _ _ _ _;first|(guard_target =~ dg _ _ _ (⟨_,.call ⟨.value (.func 11),_,_⟩,_,_,_,none⟩ :: _) _ _ _;(refine yY (x:=_) (h:=zQ (h:=zd (f:=11) rfl Tryz.call11 (h:=AEq.pure' agT (zsY _) (hq:=zi ⟨rfl,rfl⟩)))) (hk:=?_)))|(guard_target =~ dg _ _ _ (⟨_,.call ⟨.value (.func 10),_,_⟩,_,_,_,none⟩ :: _) _ _ _;(refine yY (x:=_) (h:=zQ (h:=zd (f:=10) rfl Tryz.call10 (h:=AEq.pure' agT (zpc _) (hq:=zi ⟨rfl,rfl⟩)))) (hk:=?_)))|(guard_target =~ dg _ _ _ (⟨_,.call ⟨.value (.func 9),_,_⟩,_,_,_,some _⟩ :: _) _ _ _;(refine yY (x:=_) (h:=zb2 (h:=zd (f:=9) rfl Tryz.call9 (h:=AEq.pure' agT (zja _ _ _ _ _ _ (by assumption) (by assumption) (by assumption)) (hq:=zi ⟨rfl,rfl⟩)))) (hk:=?_)))|(guard_target =~ dg _ _ _ (⟨_,.call ⟨.value (.func 9),_,_⟩,_,_,_,none⟩ :: _) _ _ _;(refine yY (x:=_) (h:=zQ (h:=zd (f:=9) rfl Tryz.call9 (h:=AEq.pure' agT (zja _ _ _ _ _ _ (by assumption) (by assumption) (by assumption)) (hq:=zi ⟨rfl,rfl⟩)))) (hk:=?_)))|(guard_target =~ dg _ _ _ (⟨_,.call ⟨.value (.func 8),_,_⟩,_,_,_,some _⟩ :: _) _ _ _;(refine yY (x:=_) (h:=zb2 (h:=zd (f:=8) rfl Tryz.call8 (h:=AEq.pure' agT zjb (hq:=zi ⟨rfl,rfl⟩)))) (hk:=?_)))|(guard_target =~ dg _ _ _ (⟨_,.call ⟨.value (.func 13),_,_⟩,_,_,_,some _⟩ :: _) _ _ _;(refine yY (x:=_) (h:=zb2 (h:=zd (f:=13) rfl Tryz.call13 (h:=AEq.pure' agT (zsO _ _ _ _ _ _ _ (by assumption) (by assumption) (by assumption)) (hq:=zi ⟨rfl,rfl⟩)))) (hk:=?_)))|(guard_target =~ dg _ _ _ (⟨_,.call ⟨.value (.func 12),_,_⟩,_,_,_,some _⟩ :: _) _ _ _;(refine yY (x:=_) (h:=zb2 (h:=zd (f:=12) rfl Tryz.call12 (h:=AEq.pure' agT (zsu _ _ _ _ _ _ _ (by assumption) (by assumption) (by assumption)) (hq:=zi ⟨rfl,rfl⟩)))) (hk:=?_))))|(refine hK _ _ ?_;clear hK K))
end Go.Proofs.YtdalcgfnlbofdaaGreatDoor
namespace Go.Proofs.YtdalcgfnlbofdaaGreatDoor
open Go Go.Lf Go.Proofs
attribute [local irreducible] Lf.rg Lf.ro Lf.PWp Lf.SOp Lf.ACall Lf.Scoped Lf.dg
set_option maxRecDepth 20000
set_option maxHeartbeats 4000000
theorem zjl {k : Nat} {y : List AV} (h : Sh Tryz.prog (k + 2) 103 y) : ∃ f : Fl,y = flA f:=by
 simp only [Sh,Tryz.underlying103,Tryz.underlying9,Tryz.underlying4] at h
 obtain ⟨h1,h2⟩:=h
 have a:=h2 _ (List.mem_cons_self)
 have b:=h2 _ (List.mem_cons_of_mem _ (List.mem_cons_self))
 have c:=h2 _ (List.mem_cons_of_mem _ (List.mem_cons_of_mem _ (List.mem_cons_self)))
 simp only [ce9,ce4,Tryz.underlying9,Tryz.underlying4] at a b c h1
 obtain ⟨n,_,ha⟩:=a
 obtain ⟨v,_,hb⟩:=b
 obtain ⟨q,hc⟩:=c
 refine ⟨⟨n,v,q⟩,?_⟩
 rw [ztW] at h1
 match y,h1 with
 | [p1,p2,p3],_=>
  simp at ha hb hc
  simp [flA,ha,hb,hc]
theorem zcR {α : Type} {g : α → List AV} : ∀ (ys : List (List AV)), (∀ y ∈ ys, ∃ a, y = g a) → ∃ l : List α, ys = l.map g
 | [],_=>⟨[],rfl⟩
 | y :: ys,h=>by
  obtain ⟨a,rfl⟩:=h y List.mem_cons_self
  obtain ⟨l,rfl⟩:=zcR ys (fun y hy=>h y (List.mem_cons_of_mem _ hy))
  exact ⟨a :: l,rfl⟩
theorem zpi {k : Nat} {y : List AV} (h : Sh Tryz.prog (k + 2) 92 y) : ∃ s : Int × Int,y = zV s:=by
 simp only [Sh,Tryz.underlying92,Tryz.underlying3] at h
 obtain ⟨h1,h2⟩:=h
 have a:=h2 _ (List.mem_cons_self)
 have b:=h2 _ (List.mem_cons_of_mem _ (List.mem_cons_self))
 simp only [ce3,Tryz.underlying3] at a b h1
 obtain ⟨n,_,ha⟩:=a
 obtain ⟨m,_,hb⟩:=b
 refine ⟨(n,m),?_⟩
 rw [zwJ] at h1
 match y,h1 with
 | [p,q],_=>
  simp at ha hb
  simp [zV,ha,hb]
theorem zlu {k : Nat} {y : List AV} (h : Sh Tryz.prog (k + 4) 25 y) : ∃ s : StL,(s.fl.length ≤ 9223372036854775807 ∧ s.ss.length ≤ 9223372036854775807) ∧ y = stA s:=by
 unfold Sh at h
 simp only [Tryz.underlying25] at h
 obtain ⟨h1,h2⟩:=h
 have a1:=h2 _ (List.mem_cons_self)
 have a2:=h2 _ (List.mem_cons_of_mem _ (List.mem_cons_self))
 have a3:=h2 _ (List.mem_cons_of_mem _ (List.mem_cons_of_mem _ (List.mem_cons_self)))
 have a4:=h2 _ (List.mem_cons_of_mem _ (List.mem_cons_of_mem _ (List.mem_cons_of_mem _ (List.mem_cons_self))))
 have a5:=h2 _ (List.mem_cons_of_mem _ (List.mem_cons_of_mem _ (List.mem_cons_of_mem _ (List.mem_cons_of_mem _ (List.mem_cons_self)))))
 have a6:=h2 _ (List.mem_cons_of_mem _ (List.mem_cons_of_mem _ (List.mem_cons_of_mem _ (List.mem_cons_of_mem _ (List.mem_cons_of_mem _ (List.mem_cons_self))))))
 simp only [Sh,Tryz.underlying3,ce3] at a1 a2 a3
 simp only [Sh,Tryz.underlying4,ce4] at a4
 unfold Sh at a5 a6
 simp only [Tryz.underlying22,zwt] at a5
 simp only [Tryz.underlying23,zwv] at a6
 obtain ⟨n1,_,e1⟩:=a1
 obtain ⟨n2,_,e2⟩:=a2
 obtain ⟨n3,_,e3⟩:=a3
 obtain ⟨b,e4⟩:=a4
 obtain ⟨ys,hl,hy,e5⟩:=a5
 obtain ⟨zs,hl2,hz,e6⟩:=a6
 obtain ⟨fl,rfl⟩:=zcR (g:=flA) ys (fun y h=>zjl (k:=k) (hy y h))
 obtain ⟨ss,rfl⟩:=zcR (g:=zV) zs (fun y h=>zpi (k:=k) (hz y h))
 refine ⟨⟨n1,n2,n3,b,fl,ss⟩,⟨by simpa [maxLen] using hl,by simpa [maxLen] using hl2⟩,?_⟩
 rw [zwx] at h1
 match y,h1 with
 | [p1,p2,p3,p4,p5,p6],_=>
  simp at e1 e2 e3 e4 e5 e6
  simp [stA,e1,e2,e3,e4,e5,e6]
theorem zlv {w : World} {v : Value} {k : Nat} (h : ∃ xs, Sh Tryz.prog (k + 4) 25 xs ∧ ((∃ x, xs = [x] ∧ VR [] rz0 w x v) ∨ VR [] rz0 w (.ag xs) v)) :
    ∃ s : StL,(s.fl.length ≤ 9223372036854775807 ∧ s.ss.length ≤ 9223372036854775807) ∧ VR [] rz0 w (.ag (stA s)) v:=by
  obtain ⟨xs,h1,h2⟩:=h
  obtain ⟨s,hb,rfl⟩:=zlu h1
  rcases h2 with ⟨x,hx,_⟩|h2
  · simp [stA] at hx
  · exact ⟨s,hb,h2⟩
end Go.Proofs.YtdalcgfnlbofdaaGreatDoor
namespace Go.Proofs.YtdalcgfnlbofdaaGreatDoor
open Go Go.Lf Go.Proofs Go.ChangeShapes Go.WideShapes Go.ChangeAt Go.RowKit
attribute [local irreducible] Lf.rg Lf.ro Lf.PWp Lf.SOp Lf.ACall Lf.Scoped Lf.dg
set_option maxRecDepth 20000
set_option maxHeartbeats 4000000
abbrev zjm : List (String × DataW Unit) := [("stickler/repr.forms", Rows.laid_stickler_repr_forms)]
theorem gForms : Tryz.prog.globalNamed "stickler/repr.forms" = some 0 := by kernel_rfl
theorem tForms : (Tryz.prog.globals[0]?).map (·.type) = some 288:=by kernel_rfl
theorem vV {W : World} {base : Nat} {spare : Nat → Bool} {held : Bool} {n : Nat} {cs : List Value} {a b : Int} {x : DataW Unit × List MemPlace} {enc : TypeId × Value → Unit}
    (h : DataW.trod enc Tryz.prog W base spare held n 287 cs = some x) (hx : x.1 = .agg [.lit (.int .i64 a),.lit (.int .i64 b)]) : cs = [.int .i64 a,.int .i64 b]:=by
  obtain ⟨y0,y1,m,rfl,hl,h0,h1⟩:=trod_struct2 Tryz.underlying287 h
  obtain ⟨k0,e0,f0,_⟩:=DataW.trod_int Tryz.underlying3 h0
  obtain ⟨k1,e1,f1,_⟩:=DataW.trod_int Tryz.underlying3 h1
  simp only [DataW.agg.injEq,List.cons.injEq] at hx
  have c3 : Tryz.prog.cellsOf 3 = 1:=ce3
  have c93 : Tryz.prog.cellsOf 287 = 2:=zqS
  rw [c93] at hl
  match cs,hl with
  | [c0,c1],_=>
    simp [c3] at e0 e1
    rw [f0,f1] at hx
    simp at hx
    obtain ⟨rfl,rfl⟩:=hx
    rw [e0,e1]
theorem zsZ {α : Type} (cs : List α) (h : cs.length = 12) : cs = (cs.drop 0).take 2 ++ ((cs.drop 2).take 2 ++ ((cs.drop 4).take 2 ++ ((cs.drop 6).take 2 ++ ((cs.drop 8).take 2 ++ (cs.drop 10).take 2)))):=by
 match cs,h with
 | [a,b,c,d,e,f,g,h,i,j,k,l],_=>rfl
theorem zgu {W : World} (h : laidMetH Tryz.prog zjm W) : GV [] rz0 W:=by
 rw [MakeChecks.laidMetH_plain _ _ _ (by kernel_rfl)] at h
 obtain ⟨ps,⟨g0,t0,cs0,f0,p0,q0,hg0,ht0,hv0,hd0,_,_⟩,_,_⟩:=h
 obtain rfl:=Option.some.inj (gForms.symm.trans hg0)
 obtain rfl:=Option.some.inj (tForms.symm.trans ht0)
 obtain ⟨xs,m1,rfl,hx1,hlen,hn6,hel⟩:=DataW.trod_array Tryz.underlying288 hd0
 have c93 : Tryz.prog.cellsOf 287 = 2:=zqS
 have c94 : Tryz.prog.cellsOf 288 = 12:=zuk
 rw [c94] at hlen
 simp only [c93] at hel
 have hcs : cs0.toList = [.int .i64 0,.int .i64 0,.int .i64 128,.int .i64 7,.int .i64 64,.int .i64 6,.int .i64 0,.int .i64 4,.int .i64 16,.int .i64 4,.int .i64 32,.int .i64 5]:=by
  match xs,hn6 with
  | [x0,x1,x2,x3,x4,x5],_=>
   simp only [Prod.mk.injEq,Rows.laid_stickler_repr_forms,List.map_cons,List.map_nil,DataW.agg.injEq,List.cons.injEq,and_true] at hx1
   obtain ⟨⟨y0,y1,y2,y3,y4,y5⟩,_⟩:=hx1
   have e0:=vV (hel 0 (by decide)) y0.symm
   have e1:=vV (hel 1 (by decide)) y1.symm
   have e2:=vV (hel 2 (by decide)) y2.symm
   have e3:=vV (hel 3 (by decide)) y3.symm
   have e4:=vV (hel 4 (by decide)) y4.symm
   have e5:=vV (hel 5 (by decide)) y5.symm
   rw [zsZ cs0.toList hlen]
   simp only [Nat.reduceMul] at e0 e1 e2 e3 e4 e5
   rw [e0,e1,e2,e3,e4,e5]
   rfl
 have hc : ∀ i v,cs0.toList[i]? = some v → W.cell? ⟨0,i,none⟩ = some v:=by
  intro i v hv
  have:=World.var?_cell hg0 hv0 i
  rw [this,← Array.getElem?_toList]
  exact hv
 intro g
 cases g with
 | succ g=>exact trivial
 | zero=>
  show VR [] rz0 W (.ip false _) _
  simp only [VR]
  have h0:=hc 0 (.int .i64 0) (by rw [hcs];rfl)
  refine ⟨0,0,rfl,?_,?_,?_⟩
  ·have h1 := h0
   unfold World.cell? at h1
   cases hh : W.heap[0]? with
   | none=>simp [hh] at h1
   | some o=>exact (Array.getElem?_eq_some_iff.1 hh).1
  ·intro h
   rcases (Bset.mset h) with ⟨o,ob,q,_⟩|h
   ·simp at q
   ·exact h
  ·simp only [List.map_cons, List.map_nil, PVs, PV]
   repeat' (first|exact trivial|refine ⟨⟨_,hc _ _ (by rw [hcs];rfl),rfl,rfl⟩,?_⟩)
end Go.Proofs.YtdalcgfnlbofdaaGreatDoor
namespace Go.Proofs.YtdalcgfnlbofdaaGreatDoor
end Go.Proofs.YtdalcgfnlbofdaaGreatDoor
