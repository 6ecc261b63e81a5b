import Derived.Test.YtdalcgfnlbofdaaGreatDoorPg
import Derived.Maps.Views
import Derived.Test.YtdalcgfnlbofdaaGreatDoorY34
import Derived.Test.YtdalcgfnlbofdaaGreatDoorY17
import Derived.Test.YtdalcgfnlbofdaaGreatDoorPc
set_option linter.unusedVariables false
set_option linter.unusedSimpArgs false
namespace Go.Proofs.YtdalcgfnlbofdaaGreatDoor
open Go Go.Lf Go.Proofs
attribute [local irreducible] Lf.rg Lf.ro Lf.PWp Lf.SOp Lf.ACall Lf.Scoped Lf.dg Lf.dw
set_option maxRecDepth 20000
set_option maxHeartbeats 4000000
def zbN : List Fr → Int → Int
 | [],_=>0
 | x :: l,s=>zbN l s + (if (x.w = 1 ∧ x.t = 1) ∧ x.s = s then 1 else 0)
theorem zkW (a b : List Fr) (s : Int) : zbN (a ++ b) s = zbN a s + zbN b s:=by
 induction a with
 | nil=>simp [zbN]
 | cons x a ih=>simp only [List.cons_append,zbN,ih];omega
theorem ziA {l : List Fr} {i : Nat} {x : Fr} (h : l[i]? = some x) (s : Int) : zbN (l.take (i + 1)) s = zbN (l.take i) s + (if (x.w = 1 ∧ x.t = 1) ∧ x.s = s then 1 else 0):=by
 rw [List.take_add_one,h]
 show zbN (l.take i ++ [x]) s = _
 rw [zkW]
 simp only [zbN]
 omega
theorem ziB : ∀ (l : List Fr) (s : Int), 0 ≤ zbN l s ∧ zbN l s ≤ l.length
 | [],s=>by simp [zbN]
 | x :: l,s=>by
  have:=ziB l s
  simp only [zbN,List.length_cons]
  split<;>omega
def zoR (all : List Fr) : List Fr → Int
 | []=>0
 | x :: r=>if (x.w = 0 ∧ x.t = 1) ∧ zbN all x.s = 0 then x.s else zoR all r
def zok (l : List Fr) : Int:=zoR l l
theorem zol {all l : List Fr} {i : Nat} {x : Fr} (h : l[i]? = some x) : zoR all (l.drop i) = if (x.w = 0 ∧ x.t = 1) ∧ zbN all x.s = 0 then x.s else zoR all (l.drop (i + 1)):=by
 rw [zfs h,zoR]
theorem zuM {n : Int} (h0 : -9223372036854775808 ≤ n) (h1 : n ≤ 9223372036854775807) : (Lit.int .i64 n).wf = true:=by
 simp only [Lit.wf,IntKind.min,IntKind.max,IntKind.signed,IntKind.bits,Bool.and_eq_true,decide_eq_true_eq,if_true]
 omega
theorem zeB {s : Int} (h0 : -9223372036854775808 ≤ s) (h1 : s ≤ 9223372036854775807) : keyOf Tryz.prog 3 (.int .i64 s) = some (.int .i64 s):=Go.Maps.keyOf_int_mk Tryz.underlying3 (zuM h0 h1)
theorem zeC : Go.Maps.Keyed Tryz.prog 3:=Go.Maps.int_keyed Tryz.underlying3
abbrev mz : DataW Unit:=.lit (.int .i64 0)
def mRd (D : DataW Unit) (l : List Fr) : Prop:=(∃ es,D = .map es) ∧ ∀ s,D.atKey (.int .i64 s) mz = .lit (.int .i64 (zbN l s))
theorem zug {l : List Fr} : mRd (.map []) (l.take 0):=⟨⟨_,rfl⟩,fun s=>rfl⟩
theorem zrZ {D : DataW Unit} {l : List Fr} {i : Nat} {x : Fr} (h : mRd D (l.take i)) (hx : l[i]? = some x) (hc : ¬ (x.w = 1 ∧ x.t = 1)) : mRd D (l.take (i + 1)):=
 ⟨h.1,fun s=>by rw [h.2 s,ziA hx,if_neg (fun k=>hc k.1),Int.add_zero]⟩
theorem zom {D : DataW Unit} {l : List Fr} {i : Nat} {x : Fr} (h : mRd D (l.take i)) (hx : l[i]? = some x) (hc : x.w = 1 ∧ x.t = 1) : mRd (D.put (.int .i64 x.s) (.lit (.int .i64 (zbN (l.take i) x.s + 1)))) (l.take (i + 1)):=by
 obtain ⟨⟨es,he⟩,h2⟩:=h
 refine ⟨⟨_,by rw [he];rfl⟩,fun s=>?_⟩
 by_cases hs : x.s = s
 ·subst hs
  rw [Go.Maps.atKey_put_same ⟨es,he⟩ (show Go.WideAt.IsKeyLit (.int .i64 x.s) from trivial),ziA hx,if_pos ⟨hc,rfl⟩]
 ·rw [Go.Maps.atKey_put_other (by intro e;injection e with _ e;exact hs e.symm),h2 s,ziA hx,if_neg (fun k=>hs k.2),Int.add_zero]
theorem zbe (w t g s : Int) (r f : Bool) (b : List UInt8) (sd : Int) : AEq Tryz.prog 139 [.ag [i64 w,i64 t,i64 g,i64 s,bl r,.sl f false (b.map zf)],i64 sd] [] (bl (decide (w = sd ∧ t = 1))) []:=by
 refine zc Tryz.func139 rfl Tryz.ntmps139 (by simp) (fun hsc=>?_);simp only [Lf.enter,Nat.reduceAdd];clear hsc
 have hU:=True.intro
 repeat' (first|(refine goR ?_)|(refine za (fun K hK=>?_))|((refine zh [] (by rw [Tryz.results139,Lf.zy]) (zj ?_) ?_)<;>(try (first|exact zi|exact stT)))|(refine hK _ _ ?_;clear hK K))
 all_goals first|exact zt (by grind)|trace_state
theorem zlO (f q : Bool) (l : List Fr) (hl : l.length ≤ 1000000) (hx : ∀ x ∈ l,-9223372036854775808 ≤ x.s ∧ x.s ≤ 9223372036854775807) : AEq Tryz.prog 90 [.sl f q (l.map frA)] [] (i64 (zok l)) []:=by
 refine zc Tryz.func90 rfl Tryz.ntmps90 (by simp) (fun hsc=>?_);simp only [Lf.enter,Nat.reduceAdd];clear hsc
 have hU:=True.intro
 repeat' (first|(refine goR ?_)|(refine za (fun K hK=>?_))|(guard_target =~ SOp _ _ ⟨_,.makeMap _ _,_,_,_,none⟩ _ _ _;refine ziz (k:=3) (e:=3) rfl ?_)|(refine hK _ _ ?_;clear hK K))
 refine zU [5,11,12,13,14,15,16,17,18,19,20,21,22] [0] (fun q : Nat × Nat × DataW Unit=>[(11,i64 q.1)]) (fun q=>[.mp (mpI Tryz.prog 3 3 q.2.1 q.2.2)]) (fun q=>q.1 ≤ l.length ∧ q.2.1 ≤ q.1 ∧ mRd q.2.2 (l.take q.1)) (fun q=>l.length - q.1) (0,0,.map []) (fun _=>rfl) rfl rfl ⟨Nat.zero_le _,Nat.le_refl _,zug⟩ ?_ rfl (by intro s q x h;simp only [List.mem_cons,Prod.mk.injEq,List.not_mem_nil,or_false] at h;obtain ⟨rfl,_⟩:=h;decide) ?_
 ·(refine ⟨⟨_,sT,?_⟩,trivial⟩<;>(try (first|exact zi)))
 ·rintro ⟨i, n, D⟩ ⟨hi, hn, hD⟩
  dsimp only at hi hn hD ⊢
  simp only [vf,List.map_cons,List.map_nil,List.cons_append,List.nil_append]
  by_cases hlt : i < l.length
  ·obtain ⟨x, hc⟩ := jM hlt
   obtain ⟨hs0,hs1⟩:=hx x (List.mem_of_getElem? hc)
   by_cases hh : x.w = 1 ∧ x.t = 1
   ·have hH : decide (x.w = 1 ∧ x.t = 1) = true := decide_eq_true hh
    have hat:=hD.2 x.s
    have hbd:=ziB (l.take i) x.s
    have htl : (l.take i).length ≤ l.length:=by rw [List.length_take];omega
    have hnx:=zom hD hc hh
    have hU:=@hH
    repeat' (first|(refine goR ?_)|(refine za (fun K hK=>?_))|((refine zb (fun hcd=>?_) (fun hcd=>?_))<;>(try simp only [hcP] at hcd)<;>(try exact cdT))|(refine zd (f:=139) rfl Tryz.call139 (h:=AEq.pure' agT (zbe _ _ _ _ _ _ _ _) (hq:=?_)))|(guard_target =~ SOp _ _ ⟨_,.lookup _ _ _ _,_,_,_,some _⟩ _ _ _;refine vz _ rfl sT (by rfl) sT zeC Tryz.underlying226 Tryz.underlying3 Tryz.zeroValue3 (by exact zeB (by assumption) (by assumption)) (by assumption) ?_)|(guard_target =~ SOp _ _ ⟨_,.lookup _ _ _ _,_,_,_,none⟩ _ _ _;refine vz _ rfl sT (by rfl) sT zeC Tryz.underlying226 Tryz.underlying3 Tryz.zeroValue3 (by exact zeB (by assumption) (by assumption)) (by assumption) ?_)|(guard_target =~ SOp _ _ ⟨_,.mapUpdate _ _ _ _,_,_,_,none⟩ _ _ _;refine zgg rfl sT (by rfl) sT sT zeC Tryz.underlying226 Tryz.underlying3 (by unfold maxLen;omega) (by exact zeB (by assumption) (by assumption)) (by exact zuM (by omega) (by omega)) ?_)|(refine hK _ _ ?_;clear hK K))
    refine ⟨(i + 1,n + 1,D.put (.int .i64 x.s) (.lit (.int .i64 (zbN (l.take i) x.s + 1)))),⟨by dsimp only;omega,by dsimp only;omega,hnx⟩,by dsimp only;omega,?_,arT,srT⟩
    (refine ⟨⟨_,sT,?_⟩,trivial⟩<;>(try (first|exact zi)))
   ·have hH : decide (x.w = 1 ∧ x.t = 1) = false := decide_eq_false hh
    have hnx:=zrZ hD hc hh
    have hU:=@hH
    repeat' (first|(refine goR ?_)|(refine za (fun K hK=>?_))|((refine zb (fun hcd=>?_) (fun hcd=>?_))<;>(try simp only [hcP] at hcd)<;>(try exact cdT))|(refine zd (f:=139) rfl Tryz.call139 (h:=AEq.pure' agT (zbe _ _ _ _ _ _ _ _) (hq:=?_)))|(refine hK _ _ ?_;clear hK K))
    refine ⟨(i + 1,n,D),⟨by dsimp only;omega,by dsimp only;omega,hnx⟩,by dsimp only;omega,?_,arT,srT⟩
    (refine ⟨⟨_,sT,?_⟩,trivial⟩<;>(try (first|exact zi)))
  ·have hil : i = l.length := by omega
   subst hil
   rw [List.take_length] at hD
   repeat' (first|(refine goR ?_)|(refine za (fun K hK=>?_))|((refine zb (fun hcd=>?_) (fun hcd=>?_))<;>(try simp only [hcP] at hcd)<;>(try exact cdT))|(refine hK _ _ ?_;clear hK K)|(apply_assumption (exfalso:=false) (symm:=false)))
   refine zU [2,7,25,26,27,28,29,30,31,32,33,34,35,36,37,38,39,40] [0] (fun i : Nat=>[(25,i64 i)]) (fun _=>[.mp (mpI Tryz.prog 3 3 n D)]) (fun i=>i ≤ l.length ∧ zok l = zoR l (l.drop i)) (fun i=>l.length - i) 0 (fun _=>rfl) rfl rfl ⟨Nat.zero_le _,rfl⟩ ?_ rfl (by intro s q x h;simp only [List.mem_cons,Prod.mk.injEq,List.not_mem_nil,or_false] at h;obtain ⟨rfl,_⟩:=h;decide) ?_
   ·(refine ⟨⟨_,sT,?_⟩,trivial⟩<;>(try (first|exact zi)))
   ·rintro i ⟨hi, hk⟩
    simp only [vf,List.map_cons,List.map_nil,List.cons_append,List.nil_append]
    by_cases hlt : i < l.length
    ·obtain ⟨x, hc⟩ := jM hlt
     obtain ⟨hs0,hs1⟩:=hx x (List.mem_of_getElem? hc)
     rw [zol hc] at hk
     have hat:=hD.2 x.s
     by_cases hh : x.w = 0 ∧ x.t = 1
     ·have hH : decide (x.w = 0 ∧ x.t = 1) = true := decide_eq_true hh
      by_cases hz : zbN l x.s = 0
      ·rw [if_pos ⟨hh, hz⟩] at hk
       rw [hz] at hat
       have hU:=@hH
       repeat' (first|(refine goR ?_)|(refine za (fun K hK=>?_))|((refine zb (fun hcd=>?_) (fun hcd=>?_))<;>(try simp only [hcP] at hcd)<;>(try exact cdT))|(refine zd (f:=139) rfl Tryz.call139 (h:=AEq.pure' agT (zbe _ _ _ _ _ _ _ _) (hq:=?_)))|(guard_target =~ SOp _ _ ⟨_,.lookup _ _ _ _,_,_,_,some _⟩ _ _ _;refine vz _ rfl sT (by rfl) sT zeC Tryz.underlying226 Tryz.underlying3 Tryz.zeroValue3 (by exact zeB (by assumption) (by assumption)) (by assumption) ?_)|(guard_target =~ SOp _ _ ⟨_,.lookup _ _ _ _,_,_,_,none⟩ _ _ _;refine vz _ rfl sT (by rfl) sT zeC Tryz.underlying226 Tryz.underlying3 Tryz.zeroValue3 (by exact zeB (by assumption) (by assumption)) (by assumption) ?_)|((refine zh [] (by rw [Tryz.results90,Lf.zy]) (zj ?_) ?_)<;>(try (first|exact zi|exact stT)))|(refine hK _ _ ?_;clear hK K))
       all_goals first|exact yG hk.symm|trace_state
      ·rw [if_neg (fun k => hz k.2)] at hk
       have hU:=@hH
       repeat' (first|(refine goR ?_)|(refine za (fun K hK=>?_))|((refine zb (fun hcd=>?_) (fun hcd=>?_))<;>(try simp only [hcP] at hcd)<;>(try exact cdT))|(refine zd (f:=139) rfl Tryz.call139 (h:=AEq.pure' agT (zbe _ _ _ _ _ _ _ _) (hq:=?_)))|(guard_target =~ SOp _ _ ⟨_,.lookup _ _ _ _,_,_,_,some _⟩ _ _ _;refine vz _ rfl sT (by rfl) sT zeC Tryz.underlying226 Tryz.underlying3 Tryz.zeroValue3 (by exact zeB (by assumption) (by assumption)) (by assumption) ?_)|(guard_target =~ SOp _ _ ⟨_,.lookup _ _ _ _,_,_,_,none⟩ _ _ _;refine vz _ rfl sT (by rfl) sT zeC Tryz.underlying226 Tryz.underlying3 Tryz.zeroValue3 (by exact zeB (by assumption) (by assumption)) (by assumption) ?_)|(refine hK _ _ ?_;clear hK K))
       refine ⟨i + 1,⟨by omega,hk⟩,by omega,?_,arT,srT⟩
       (refine ⟨⟨_,sT,?_⟩,trivial⟩<;>(try (first|exact zi)))
     ·have hH : decide (x.w = 0 ∧ x.t = 1) = false := decide_eq_false hh
      rw [if_neg (fun k=>hh k.1)] at hk
      have hU:=@hH
      repeat' (first|(refine goR ?_)|(refine za (fun K hK=>?_))|((refine zb (fun hcd=>?_) (fun hcd=>?_))<;>(try simp only [hcP] at hcd)<;>(try exact cdT))|(refine zd (f:=139) rfl Tryz.call139 (h:=AEq.pure' agT (zbe _ _ _ _ _ _ _ _) (hq:=?_)))|(refine hK _ _ ?_;clear hK K))
      refine ⟨i + 1,⟨by omega,hk⟩,by omega,?_,arT,srT⟩
      (refine ⟨⟨_,sT,?_⟩,trivial⟩<;>(try (first|exact zi)))
    ·have he : zok l = 0 := by rw [hk, List.drop_eq_nil_of_le (by omega)]; rfl
     repeat' (first|(refine goR ?_)|(refine za (fun K hK=>?_))|((refine zb (fun hcd=>?_) (fun hcd=>?_))<;>(try simp only [hcP] at hcd)<;>(try exact cdT))|((refine zh [] (by rw [Tryz.results90,Lf.zy]) (zj ?_) ?_)<;>(try (first|exact zi|exact stT)))|(refine hK _ _ ?_;clear hK K)|(apply_assumption (exfalso:=false) (symm:=false)))
     all_goals first|exact yG he.symm|trace_state
end Go.Proofs.YtdalcgfnlbofdaaGreatDoor
