import Derived.Test.YtdalcgfnlbofdaaGreatDoorPg
import Derived.Test.YtdalcgfnlbofdaaGreatDoorY34
import Derived.Test.YtdalcgfnlbofdaaGreatDoorY01
import Derived.Test.YtdalcgfnlbofdaaGreatDoorPc
set_option linter.unusedVariables false
set_option linter.unusedSimpArgs false
namespace Go.Proofs.YtdalcgfnlbofdaaGreatDoor
open Go Go.Lf Go.Proofs
attribute [local irreducible] Lf.rg Lf.ro Lf.PWp Lf.SOp Lf.ACall Lf.Scoped Lf.dg Lf.dw
set_option maxRecDepth 20000
set_option maxHeartbeats 4000000
def n9 : List UInt8:=[9,9,9,9,9,9,9,9]
def n91 : List UInt8:=[9]
theorem zon : n91.length = 1:=rfl
def zr0 : Nat → List UInt8
 | 0=>[9,0,0,0,0,0,0,0]
 | 1=>[9,9,0,0,0,0,0,0]
 | 2=>[9,9,9,9,0,0,0,0]
 | _=>[9,9,9,9,9,9,9,9]
def pw2 : Nat → Int
 | 0=>1
 | 1=>2
 | 2=>4
 | _=>8
theorem zkX : AEq Tryz.prog 141 [.lit (.int .u64 1),.lit (.int .u64 8)] [] (.tu [.lit (.int .u64 0),.lit (.int .u64 8)]) []:=by
 refine zc Tryz.func141 rfl Tryz.ntmps141 (by simp) (fun hsc=>?_);simp only [Lf.enter,Nat.reduceAdd];clear hsc
 have hU:=True.intro
 repeat' (first|(refine goR ?_)|(refine za (fun K hK=>?_))|((refine zh [] (by rw [Tryz.results141,Lf.yE]) (zA ?_ ?_) ?_)<;>(try (first|exact zi|exact stT)))|(refine hK _ _ ?_;clear hK K))
theorem zr1 : AEq Tryz.prog 91 [.lit (.int .u64 1),.lit (.int .u64 8)] [] (.tu [.lit (.int .u64 0),.lit (.int .u64 8)]) []:=by
 refine zc Tryz.func91 rfl Tryz.ntmps91 (by simp) (fun hsc=>?_);simp only [Lf.enter,Nat.reduceAdd];clear hsc
 have hU:=True.intro
 repeat' (first|(refine goR ?_)|(refine za (fun K hK=>?_))|((refine zb (fun hcd=>?_) (fun hcd=>?_))<;>(try simp only [hcP] at hcd)<;>(try exact cdT))|(refine zd (f:=141) rfl Tryz.call141 (h:=AEq.pure' agT zkX (hq:=?_)))|((refine zh [] (by rw [Tryz.results91,Lf.yE]) (zA ?_ ?_) ?_)<;>(try (first|exact zi|exact stT)))|(refine hK _ _ ?_;clear hK K))
theorem zuh (f : Bool) : AEq Tryz.prog 48 [.sl f false (n91.map zf),i64 8] [] (.sl false false (n9.map zf)) []:=by
 have hn:=zon
 refine zc Tryz.func48 rfl Tryz.ntmps48 (by simp) (fun hsc=>?_);simp only [Lf.enter,Nat.reduceAdd];clear hsc
 have hU:=@hn
 repeat' (first|(refine goR ?_)|(refine za (fun K hK=>?_))|((refine zb (fun hcd=>?_) (fun hcd=>?_))<;>(try simp only [hcP] at hcd)<;>(try exact cdT))|(guard_target =~ SOp _ _ ⟨_,.call ⟨.builtin .copy,_,_⟩,_,_,_,none⟩ _ _ _;refine zgV rfl (hK:=?_))|(refine zd (f:=91) rfl Tryz.call91 (h:=AEq.pure' agT zr1 (hq:=?_)))|(guard_target =~ SOp _ _ ⟨_,.makeSlice _ _ _,_,_,_,none⟩ _ _ _;refine zeR rfl (he:=eoT) (hK:=?_))|(refine hK _ _ ?_;clear hK K))
 refine zU [8,34,35,36,37,38,39,40,41,42,43,44,45,46] [0] (fun s : Nat=>[(8,i64 (pw2 s))]) (fun s=>[.row 0 5 1 ((zr0 s).map zf)]) (fun s=>s ≤ 3) (fun s=>3 - s) 0 (fun _=>rfl) rfl rfl (Nat.zero_le _) ?_ rfl (by intro s q x h;simp only [List.mem_cons,Prod.mk.injEq,List.not_mem_nil,or_false] at h;obtain ⟨rfl,_⟩:=h;decide) ?_
 ·have hU := True.intro
  (refine ⟨⟨_,sT,?_⟩,trivial⟩<;>(try (first|exact zi)))
 ·rintro s hs
  simp only [vf,List.map_cons,List.map_nil,List.cons_append,List.nil_append]
  have h4 : s = 0 ∨ s = 1 ∨ s = 2 ∨ s = 3:=by omega
  rcases h4 with rfl|rfl|rfl|rfl
  ·have hp : pw2 0 = 1 := rfl
   have hl : (zr0 0).length = 8:=rfl
   have hU:=And.intro @hp (@hl)
   repeat' (first|(refine goR ?_)|(guard_target =~ PWp _ _ _ _ _ _ _;refine yp (id:=9) [1,2,3,4,5,6,7,0,8,9] [7] mixed (by kernel_rfl) (by kernel_rfl) ?_)|(refine za (fun K hK=>?_))|((refine zb (fun hcd=>?_) (fun hcd=>?_))<;>(try simp only [hcP] at hcd)<;>(try exact cdT))|(refine hK _ _ ?_;clear hK K)|(guard_target =~ dw _ _ _ _ _ _ _ _ _ _;first|((first|guard_target =~ dw _ _ _ _ _ (3 :: _) _ _ _ _|guard_target =~ dw _ _ _ _ _ (6 :: _) _ _ _ _);(refine vX rfl rfl (h:=yj (h:=jg rfl (hK:=ze ⟨rfl,rfl⟩))) (hk:=?_)))|(guard_target =~ dw _ _ _ _ _ (7 :: _) _ _ _ _;(refine zaV rfl rfl (h:=yj (h:=zbd rfl sT bT sT (by rfl) bT sT (by rfl) (by first|(intro y hy;simp at hy;simp [hy];done)|decide) (by decide) (by decide) (by rfl) (by rfl) (by rfl) (ze ⟨rfl,rfl⟩))) (hk:=?_))))|(dsimp only [Lf.y6,Lf.vL]))
   refine ⟨1,by decide,by decide,?_,arT,srT⟩
   (refine ⟨⟨_,sT,?_⟩,trivial⟩<;>(try (first|exact zi)))
  ·have hp : pw2 1 = 2 := rfl
   have hl : (zr0 1).length = 8:=rfl
   have hU:=And.intro @hp (@hl)
   repeat' (first|(refine goR ?_)|(guard_target =~ PWp _ _ _ _ _ _ _;refine yp (id:=9) [1,2,3,4,5,6,7,0,8,9] [7] mixed (by kernel_rfl) (by kernel_rfl) ?_)|(refine za (fun K hK=>?_))|((refine zb (fun hcd=>?_) (fun hcd=>?_))<;>(try simp only [hcP] at hcd)<;>(try exact cdT))|(refine hK _ _ ?_;clear hK K)|(guard_target =~ dw _ _ _ _ _ _ _ _ _ _;first|((first|guard_target =~ dw _ _ _ _ _ (3 :: _) _ _ _ _|guard_target =~ dw _ _ _ _ _ (6 :: _) _ _ _ _);(refine vX rfl rfl (h:=yj (h:=jg rfl (hK:=ze ⟨rfl,rfl⟩))) (hk:=?_)))|(guard_target =~ dw _ _ _ _ _ (7 :: _) _ _ _ _;(refine zaV rfl rfl (h:=yj (h:=zbd rfl sT bT sT (by rfl) bT sT (by rfl) (by first|(intro y hy;simp at hy;simp [hy];done)|decide) (by decide) (by decide) (by rfl) (by rfl) (by rfl) (ze ⟨rfl,rfl⟩))) (hk:=?_))))|(dsimp only [Lf.y6,Lf.vL]))
   refine ⟨2,by decide,by decide,?_,arT,srT⟩
   (refine ⟨⟨_,sT,?_⟩,trivial⟩<;>(try (first|exact zi)))
  ·have hp : pw2 2 = 4 := rfl
   have hl : (zr0 2).length = 8:=rfl
   have hU:=And.intro @hp (@hl)
   repeat' (first|(refine goR ?_)|(guard_target =~ PWp _ _ _ _ _ _ _;refine yp (id:=9) [1,2,3,4,5,6,7,0,8,9] [7] mixed (by kernel_rfl) (by kernel_rfl) ?_)|(refine za (fun K hK=>?_))|((refine zb (fun hcd=>?_) (fun hcd=>?_))<;>(try simp only [hcP] at hcd)<;>(try exact cdT))|(refine hK _ _ ?_;clear hK K)|(guard_target =~ dw _ _ _ _ _ _ _ _ _ _;first|((first|guard_target =~ dw _ _ _ _ _ (3 :: _) _ _ _ _|guard_target =~ dw _ _ _ _ _ (6 :: _) _ _ _ _);(refine vX rfl rfl (h:=yj (h:=jg rfl (hK:=ze ⟨rfl,rfl⟩))) (hk:=?_)))|(guard_target =~ dw _ _ _ _ _ (7 :: _) _ _ _ _;(refine zaV rfl rfl (h:=yj (h:=zbd rfl sT bT sT (by rfl) bT sT (by rfl) (by first|(intro y hy;simp at hy;simp [hy];done)|decide) (by decide) (by decide) (by rfl) (by rfl) (by rfl) (ze ⟨rfl,rfl⟩))) (hk:=?_))))|(dsimp only [Lf.y6,Lf.vL]))
   refine ⟨3,by decide,by decide,?_,arT,srT⟩
   (refine ⟨⟨_,sT,?_⟩,trivial⟩<;>(try (first|exact zi)))
  ·have hp : pw2 3 = 8 := rfl
   have hl : (zr0 3).length = 8:=rfl
   have hU:=And.intro @hp (@hl)
   repeat' (first|(refine goR ?_)|(refine za (fun K hK=>?_))|((refine zb (fun hcd=>?_) (fun hcd=>?_))<;>(try simp only [hcP] at hcd)<;>(try exact cdT))|((refine zh [] (by rw [Tryz.results48,Lf.zy]) (zj ?_) ?_)<;>(try (first|exact zi|exact stT)))|(refine hK _ _ ?_;clear hK K)|(apply_assumption (exfalso:=false) (symm:=false)))
end Go.Proofs.YtdalcgfnlbofdaaGreatDoor
