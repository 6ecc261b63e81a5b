import Derived.Test.YtdalcgfnlbofdaaGreatDoorPg
import Derived.Test.YtdalcgfnlbofdaaGreatDoorY29
import Derived.Test.YtdalcgfnlbofdaaGreatDoorY31
import Derived.Test.YtdalcgfnlbofdaaGreatDoorY06
import Derived.Test.YtdalcgfnlbofdaaGreatDoorPc
import Derived.Test.YtdalcgfnlbofdaaGreatDoorY17
import Derived.Test.YtdalcgfnlbofdaaGreatDoorPb
set_option linter.unusedVariables false
set_option linter.unusedSimpArgs false
namespace Go.Proofs.YtdalcgfnlbofdaaGreatDoor
open Go Go.Lf Go.Proofs
attribute [local irreducible] Lf.rg Lf.ro Lf.PWp Lf.SOp Lf.ACall Lf.Scoped Lf.dg Lf.dw
set_option maxRecDepth 20000
set_option maxHeartbeats 4000000
def preB : List UInt8:=[80,82,73,32,42,32,72,84,84,80,47,50,46,48,13,10,13,10,83,77,13,10,13,10]
theorem zzE : AEq Tryz.prog 33 [] [] (.sl false false (preB.map zf)) []:=by
 refine zc Tryz.func33 rfl Tryz.ntmps33 (by simp) (fun hsc=>?_);simp only [Lf.enter,Nat.reduceAdd];clear hsc
 have hU:=True.intro
 repeat' (first|(refine goR ?_)|(refine za (fun K hK=>?_))|(guard_target =~ SOp _ _ ⟨_,.call ⟨.builtin .append,_,_⟩,_,_,_,none⟩ _ _ _;refine zdi (l:=preB) rfl sT bT eoT (by rfl) (by decide) (by decide) (by decide) (by rfl) sT ?_)|((refine zh [] (by rw [Tryz.results33,Lf.zy]) (zj ?_) ?_)<;>(try (first|exact zi|exact stT)))|(refine hK _ _ ?_;clear hK K))
def opF (sd : Int) : List Fr:=if sd = 0 then [⟨false,0,-1,0,0,false,preB⟩,⟨true,0,4,0,0,false,[]⟩] else if sd = 1 then [⟨true,1,4,0,0,false,[]⟩] else []
def zue : List Fr:=[⟨false,0,-1,0,0,false,preB⟩,⟨true,0,4,0,0,false,[]⟩]
def zuL : List Fr:=[⟨true,1,4,0,0,false,[]⟩]
theorem zrK : opF 0 = zue:=rfl
theorem zrL : opF 1 = zuL:=rfl
theorem zuf (sd : Int) : AEq Tryz.prog 10 [i64 sd] [] (.sl false false ((opF sd).map frA)) []:=by
 by_cases h0 : sd = 0
 ·subst h0
  rw [zrK]
  refine zc Tryz.func10 rfl Tryz.ntmps10 (by simp) (fun hsc=>?_);simp only [Lf.enter,Nat.reduceAdd];clear hsc
  have hU:=True.intro
  repeat' (first|(refine goR ?_)|(guard_target =~ PWp _ _ _ _ _ _ _;refine yU (id:=4) 3 mixed (by kernel_rfl) (by kernel_rfl) (by kernel_rfl) rfl rfl ?_)|(refine za (fun K hK=>?_))|((refine zb (fun hcd=>?_) (fun hcd=>?_))<;>(try simp only [hcP] at hcd)<;>(try exact cdT))|(guard_target =~ SOp _ _ ⟨_,.buildSlice _ _ _,_,_,_,none⟩ _ _ _;refine yF (xs:=List.map (frA) (zue)) rfl (he:=eoT) (hc:=hcT) (hK:=?_))|((refine zh [] (by rw [Tryz.results10,Lf.zy]) (zj ?_) ?_)<;>(try (first|exact zi|exact stT)))|(guard_target =~ dg _ _ _ _ _ _ _;first|(guard_target =~ dg _ _ _ (⟨_,.build _ _,_,_,_,none⟩ :: _) _ _ _;(refine ko (x:=_) (h:=yj (h:=zX rfl (by first|exact zcL|fail) (hK:=ze ⟨rfl,rfl⟩))) (hk:=?_)))|(guard_target =~ dg _ _ _ (⟨_,.call ⟨.value (.func 33),_,_⟩,_,_,_,none⟩ :: _) _ _ _;(refine ko (x:=_) (h:=yj (h:=zd (f:=33) rfl Tryz.call33 (h:=AEq.pure' agT zzE (hq:=ze ⟨rfl,rfl⟩)))) (hk:=?_))))|(refine hK _ _ ?_;clear hK K))
 ·by_cases h1 : sd = 1
  ·subst h1
   rw [zrL]
   refine zc Tryz.func10 rfl Tryz.ntmps10 (by simp) (fun hsc=>?_);simp only [Lf.enter,Nat.reduceAdd];clear hsc
   have hU:=True.intro
   repeat' (first|(refine goR ?_)|(refine za (fun K hK=>?_))|((refine zb (fun hcd=>?_) (fun hcd=>?_))<;>(try simp only [hcP] at hcd)<;>(try exact cdT))|(guard_target =~ SOp _ _ ⟨_,.buildSlice _ _ _,_,_,_,none⟩ _ _ _;refine yF (xs:=List.map (frA) (zuL)) rfl (he:=eoT) (hc:=hcT) (hK:=?_))|((refine zh [] (by rw [Tryz.results10,Lf.zy]) (zj ?_) ?_)<;>(try (first|exact zi|exact stT)))|(refine hK _ _ ?_;clear hK K))
  ·have h2 : opF sd = [] := by unfold opF; rw [if_neg h0, if_neg h1]
   rw [h2]
   refine zc Tryz.func10 rfl Tryz.ntmps10 (by simp) (fun hsc=>?_);simp only [Lf.enter,Nat.reduceAdd];clear hsc
   have hU:=True.intro
   repeat' (first|(refine goR ?_)|(refine za (fun K hK=>?_))|((refine zb (fun hcd=>?_) (fun hcd=>?_))<;>(try simp only [hcP] at hcd)<;>(try exact cdT))|((refine zh [] (by rw [Tryz.results10,Lf.zy]) (zj ?_) ?_)<;>(try (first|exact zi|exact stT)))|(refine hK _ _ ?_;clear hK K))
theorem ziw {α : Type} {g : α → List AV} {p : α → Prop} : ∀ (ys : List (List AV)), (∀ y ∈ ys, ∃ a, p a ∧ y = g a) → ∃ l : List α, (∀ a ∈ l, p a) ∧ ys = l.map g
 | [],_=>⟨[],by simp,rfl⟩
 | y :: ys,h=>by
  obtain ⟨a,ha,rfl⟩:=h y List.mem_cons_self
  obtain ⟨l,hl,rfl⟩:=ziw ys (fun y hy=>h y (List.mem_cons_of_mem _ hy))
  exact ⟨a :: l,fun b hb=>by rcases List.mem_cons.1 hb with rfl|hb;exact ha;exact hl b hb,rfl⟩
theorem zrM {k : Nat} {y : List AV} (h : Sh Tryz.prog (k + 4) 45 y) : ∃ c : Fr,(c.b.length ≤ 9223372036854775807 ∧ -9223372036854775808 ≤ c.s ∧ c.s ≤ 9223372036854775807) ∧ y = frA c:=by
 simp only [Sh,Tryz.underlying45,Tryz.underlying3,Tryz.underlying4,Tryz.underlying43] at h
 obtain ⟨h1,h2⟩:=h
 have a:=h2 _ (List.mem_cons_self)
 have b:=h2 _ (List.mem_cons_of_mem _ (List.mem_cons_self))
 have c:=h2 _ (List.mem_cons_of_mem _ (List.mem_cons_of_mem _ (List.mem_cons_self)))
 have d:=h2 _ (List.mem_cons_of_mem _ (List.mem_cons_of_mem _ (List.mem_cons_of_mem _ (List.mem_cons_self))))
 have e:=h2 _ (List.mem_cons_of_mem _ (List.mem_cons_of_mem _ (List.mem_cons_of_mem _ (List.mem_cons_of_mem _ (List.mem_cons_self)))))
 have f:=h2 _ (List.mem_cons_of_mem _ (List.mem_cons_of_mem _ (List.mem_cons_of_mem _ (List.mem_cons_of_mem _ (List.mem_cons_of_mem _ (List.mem_cons_self))))))
 simp only [ce3,ce4,zu4,Tryz.underlying3,Tryz.underlying4,Tryz.underlying43] at a b c d e f h1
 obtain ⟨n1,_,ha⟩:=a
 obtain ⟨n2,_,hb⟩:=b
 obtain ⟨n3,_,hc⟩:=c
 obtain ⟨n4,wf4,hd⟩:=d
 simp only [Lit.wf,IntKind.min,IntKind.max,IntKind.signed,IntKind.bits,Bool.and_eq_true,decide_eq_true_eq,if_true] at wf4
 obtain ⟨n5,he⟩:=e
 obtain ⟨ys,hl,hy,hf⟩:=f
 obtain ⟨bs,rfl⟩:=zlc (g:=zf) ys (fun y h=>zmv (k:=k + 1) Tryz.underlying5 (hy y h))
 refine ⟨⟨false,n1,n2,n3,n4,n5,bs⟩,⟨by simpa [maxLen] using hl,by dsimp only;omega,by dsimp only;omega⟩,?_⟩
 rw [zu5] at h1
 match y,h1 with
 | [p1,p2,p3,p4,p5,p6],_=>
  simp at ha hb hc hd he hf
  simp [frA,ha,hb,hc,hd,he,hf]
theorem zoh {w : World} {a : Option Addr} {l c k : Nat} (h : ∃ xs, Sh Tryz.prog (k + 5) 35 xs ∧ ((∃ x, xs = [x] ∧ VR [] rz0 w x (.slice a l c)) ∨ VR [] rz0 w (.ag xs) (.slice a l c))) :
    ∃ s : List Fr,s.length ≤ 9223372036854775807 ∧ (∀ r ∈ s,r.b.length ≤ 9223372036854775807) ∧ (∀ r ∈ s,-9223372036854775808 ≤ r.s ∧ r.s ≤ 9223372036854775807) ∧ VR [] rz0 w (.sl false false (s.map frA)) (.slice a l c):=by
  obtain ⟨ys,h1,h2,h3⟩:=zs1 Tryz.underlying35 h
  obtain ⟨b,hb,rfl⟩:=ziw (g:=frA) (p:=fun r=>r.b.length ≤ 9223372036854775807 ∧ -9223372036854775808 ≤ r.s ∧ r.s ≤ 9223372036854775807) ys (fun y hy=>zrM (k:=k) (h2 y hy))
  exact ⟨b,by simpa [maxLen] using h1,fun r hr=>(hb r hr).1,fun r hr=>(hb r hr).2,h3⟩
theorem zoi {w : World} {n : Int} {k : Nat} (h : ∃ xs,Sh Tryz.prog (k + 1) 3 xs ∧ ((∃ x,xs = [x] ∧ VR [] rz0 w x (.int .i64 n)) ∨ VR [] rz0 w (.ag xs) (.int .i64 n))) : n ≤ 9223372036854775807:=by
 obtain ⟨xs,h1,h2⟩:=h
 simp only [Sh,Tryz.underlying3] at h1
 obtain ⟨m,hw,rfl⟩:=h1
 simp only [Lit.wf,IntKind.min,IntKind.max,IntKind.signed,IntKind.bits,Bool.and_eq_true,decide_eq_true_eq,if_true] at hw
 rcases h2 with ⟨x,hx,hv⟩|hv
 ·simp at hx
  subst hx
  simp [VR] at hv
  omega
 ·simp [VR] at hv
end Go.Proofs.YtdalcgfnlbofdaaGreatDoor
