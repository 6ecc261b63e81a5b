import Derived.Test.YtdalcgfnlbofdaaGreatDoorPg
import Derived.Test.YtdalcgfnlbofdaaGreatDoorY35
import Derived.Test.YtdalcgfnlbofdaaGreatDoorY37
import Derived.Test.YtdalcgfnlbofdaaGreatDoorPc
set_option linter.unusedVariables false
set_option linter.unusedSimpArgs false
namespace Go.Proofs.YtdalcgfnlbofdaaGreatDoor
open Go Go.Lf Go.Proofs
attribute [local irreducible] Lf.rg Lf.ro Lf.PWp Lf.SOp Lf.ACall Lf.Scoped Lf.dg Lf.dw
set_option maxRecDepth 20000
set_option maxHeartbeats 4000000
noncomputable def emQ (w t g st : Int) (d : List UInt8) (e : List (Int × Int)) (la co sp : Int) : List Fr:=
 open Classical in if kJ w t g st (-1) d e 0 0 false 0 la co sp then oneQ w t g st (wrB t g (-1) d e 0 0 false 0 la co sp) else []
theorem zou {w t g st : Int} {d : List UInt8} {e : List (Int × Int)} {la co sp : Int} (h : kJ w t g st (-1) d e 0 0 false 0 la co sp) : emQ w t g st d e la co sp = oneQ w t g st (wrB t g (-1) d e 0 0 false 0 la co sp):=if_pos h
theorem zov {w t g st : Int} {d : List UInt8} {e : List (Int × Int)} {la co sp : Int} (h : ¬ kJ w t g st (-1) d e 0 0 false 0 la co sp) : emQ w t g st d e la co sp = []:=if_neg h
theorem ziF (t g st p : Int) (fd : Bool) (d : List UInt8) (fs : Bool) (e : List (Int × Int)) (la co sp : Int) (w : Int) (hd : d.length ≤ 100000) (hl : e.length ≤ 10000) (hg1 : g ≤ 9223372036854775807) : AEq Tryz.prog 47 [.ag [i64 t,i64 g,i64 st,i64 p,.sl fd false (d.map zf),.sl fs false (e.map yq),i64 0,i64 0,bl false,i64 0,i64 la,i64 co,i64 sp],i64 w] [] (.sl false false ((emQ w t g st d e la co sp).map frA)) []:=by
 by_cases hem : kJ w t g st (-1) d e 0 0 false 0 la co sp
 ·rw [zou hem]
  have hd9 : d.length ≤ 900000:=by omega
  refine zc Tryz.func47 rfl Tryz.ntmps47 (by simp) (fun hsc=>?_);simp only [Lf.enter,Nat.reduceAdd];clear hsc
  have hU:=True.intro
  repeat' (first|(refine goR ?_)|(refine za (fun K hK=>?_))|((refine zb (fun hcd=>?_) (fun hcd=>?_))<;>(try simp only [hcP] at hcd)<;>(try exact cdT))|(guard_target =~ SOp _ _ ⟨_,.buildSlice _ _ _,_,_,_,none⟩ _ _ _;refine yF (xs:=List.map (frA) (oneQ w t g st (wrB t g (-1) d e 0 0 false 0 la co sp))) rfl (he:=eoT) (hc:=hcT) (hK:=?_))|(refine zd (f:=38) rfl Tryz.call38 (h:=AEq.pure' agT (zds _ _ _ _ _ _ _ _ _ _ _ _ _ _ _ _ (by assumption) (by assumption) (by assumption) (by assumption)) (hq:=?_)))|((refine zh [] (by rw [Tryz.results47,Lf.zy]) (zj ?_) ?_)<;>(try (first|exact zi|exact stT)))|(refine hK _ _ ?_;clear hK K))
 ·rw [zov hem]
  have hd9 : d.length ≤ 900000:=by omega
  refine zc Tryz.func47 rfl Tryz.ntmps47 (by simp) (fun hsc=>?_);simp only [Lf.enter,Nat.reduceAdd];clear hsc
  have hU:=True.intro
  repeat' (first|(refine goR ?_)|(refine za (fun K hK=>?_))|((refine zb (fun hcd=>?_) (fun hcd=>?_))<;>(try simp only [hcP] at hcd)<;>(try exact cdT))|(refine zd (f:=38) rfl Tryz.call38 (h:=AEq.pure' agT (zry _ _ _ _ _ _ _ _ _ _ _ _ _ _ _ _ (by assumption) (by assumption) (by assumption) (by assumption)) (hq:=?_)))|((refine zh [] (by rw [Tryz.results47,Lf.zy]) (zj ?_) ?_)<;>(try (first|exact zi|exact stT)))|(refine hK _ _ ?_;clear hK K))
theorem ziG (t g st p : Int) (fd fs : Bool) (la co sp : Int) (w : Int) (hg1 : g ≤ 9223372036854775807) : AEq Tryz.prog 47 [.ag [i64 t,i64 g,i64 st,i64 p,.sl fd false [],.sl fs false [],i64 0,i64 0,bl false,i64 0,i64 la,i64 co,i64 sp],i64 w] [] (.sl false false ((emQ w t g st [] [] la co sp).map frA)) []:=ziF t g st p fd [] fs [] la co sp w (by decide) (by decide) hg1
theorem zow (t g st p : Int) (fd : Bool) (d : List UInt8) (fs : Bool) (la co sp : Int) (w : Int) (hd : d.length ≤ 100000) (hg1 : g ≤ 9223372036854775807) : AEq Tryz.prog 47 [.ag [i64 t,i64 g,i64 st,i64 p,.sl fd false (d.map zf),.sl fs false [],i64 0,i64 0,bl false,i64 0,i64 la,i64 co,i64 sp],i64 w] [] (.sl false false ((emQ w t g st d [] la co sp).map frA)) []:=ziF t g st p fd d fs [] la co sp w hd (by decide) hg1
theorem zox (t g st p : Int) (fd : Bool) (fs : Bool) (e : List (Int × Int)) (la co sp : Int) (w : Int) (hl : e.length ≤ 10000) (hg1 : g ≤ 9223372036854775807) : AEq Tryz.prog 47 [.ag [i64 t,i64 g,i64 st,i64 p,.sl fd false [],.sl fs false (e.map yq),i64 0,i64 0,bl false,i64 0,i64 la,i64 co,i64 sp],i64 w] [] (.sl false false ((emQ w t g st [] e la co sp).map frA)) []:=ziF t g st p fd [] fs e la co sp w (by decide) hl hg1
def nxN : List Fr → Int
 | []=>1
 | x :: l=>nxN l + (if x.w = 0 ∧ x.t = 1 then 2 else 0)
theorem zoy (a b : List Fr) : nxN (a ++ b) = nxN a + nxN b - 1:=by
 induction a with
 | nil=>simp only [List.nil_append,nxN];omega
 | cons x a ih=>simp only [List.cons_append,nxN,ih];omega
theorem zui {l : List Fr} {i : Nat} {x : Fr} (h : l[i]? = some x) : nxN (l.take (i + 1)) = nxN (l.take i) + (if x.w = 0 ∧ x.t = 1 then 2 else 0):=by
 rw [List.take_add_one,h]
 show nxN (l.take i ++ [x]) = _
 rw [zoy]
 simp only [nxN]
 omega
theorem ziH : ∀ l : List Fr, 1 ≤ nxN l ∧ nxN l ≤ 1 + 2 * l.length
 | []=>by simp [nxN]
 | x :: l=>by
  have:=ziH l
  simp only [nxN,List.length_cons]
  split<;>omega
theorem zuj (f q : Bool) (l : List Fr) (hl : l.length ≤ 1000000) : AEq Tryz.prog 89 [.sl f q (l.map frA)] [] (i64 (nxN l)) []:=by
 refine zc Tryz.func89 rfl Tryz.ntmps89 (by simp) (fun hsc=>?_);simp only [Lf.enter,Nat.reduceAdd];clear hsc
 have hU:=True.intro
 repeat' (first|(refine goR ?_)|(refine za (fun K hK=>?_))|(refine hK _ _ ?_;clear hK K))
 refine zU [3,5,8,9,10,11,12,13,14,15,16] [] (fun i : Nat=>[(8,i64 i),(3,i64 (nxN (l.take i)))]) (fun _=>[]) (fun i=>i ≤ l.length) (fun i=>l.length - i) 0 (fun _=>rfl) rfl rfl (Nat.zero_le _) ?_ rfl (by intro s q x h;simp only [List.mem_cons,Prod.mk.injEq,List.not_mem_nil,or_false] at h;rcases h with ⟨rfl,_⟩|⟨rfl,_⟩<;>decide) ?_
 ·(refine ⟨⟨_,sT,?_⟩,⟨_,sT,?_⟩,trivial⟩<;>(try (first|exact zi)))
 ·rintro i hi
  simp only [vf,List.map_cons,List.map_nil,List.cons_append,List.nil_append]
  have hb:=ziH (l.take i)
  have htl : (l.take i).length ≤ l.length:=by rw [List.length_take];omega
  by_cases hlt : i < l.length
  ·obtain ⟨x, hx1⟩ := jM hlt
   have hs:=zui hx1
   by_cases hc : x.w = 0 ∧ x.t = 1
   ·have hcd2 : decide (x.w = 0 ∧ x.t = 1) = true := decide_eq_true hc
    rw [if_pos hc] at hs
    have hU:=@hcd2
    repeat' (first|(refine goR ?_)|(refine za (fun K hK=>?_))|((refine zb (fun hcd=>?_) (fun hcd=>?_))<;>(try simp only [hcP] at hcd)<;>(try exact cdT))|(refine zd (f:=139) rfl Tryz.call139 (h:=AEq.pure' agT (zbe _ _ _ _ _ _ _ _) (hq:=?_)))|(refine hK _ _ ?_;clear hK K))
    refine ⟨i + 1,by omega,by omega,?_,arT,srT⟩
    rw [hs]
    (refine ⟨⟨_,sT,?_⟩,⟨_,sT,?_⟩,trivial⟩<;>(try (first|exact zi)))
   ·have hcd2 : decide (x.w = 0 ∧ x.t = 1) = false := decide_eq_false hc
    rw [if_neg hc,Int.add_zero] at hs
    have hU:=@hcd2
    repeat' (first|(refine goR ?_)|(refine za (fun K hK=>?_))|((refine zb (fun hcd=>?_) (fun hcd=>?_))<;>(try simp only [hcP] at hcd)<;>(try exact cdT))|(refine zd (f:=139) rfl Tryz.call139 (h:=AEq.pure' agT (zbe _ _ _ _ _ _ _ _) (hq:=?_)))|(refine hK _ _ ?_;clear hK K))
    refine ⟨i + 1,by omega,by omega,?_,arT,srT⟩
    rw [hs]
    (refine ⟨⟨_,sT,?_⟩,⟨_,sT,?_⟩,trivial⟩<;>(try (first|exact zi)))
  ·have hil : i = l.length := by omega
   subst hil
   have htk : l.take l.length = l:=List.take_length
   have hU:=@htk
   repeat' (first|(refine goR ?_)|(refine za (fun K hK=>?_))|((refine zb (fun hcd=>?_) (fun hcd=>?_))<;>(try simp only [hcP] at hcd)<;>(try exact cdT))|((refine zh [] (by rw [Tryz.results89,Lf.zy]) (zj ?_) ?_)<;>(try (first|exact zi|exact stT)))|(refine hK _ _ ?_;clear hK K)|(apply_assumption (exfalso:=false) (symm:=false)))
theorem ziI (f q : Bool) (l : List Fr) : AEq Tryz.prog 49 [i64 0,.sl f q (l.map frA)] [] (i64 1) []:=by
 refine zc Tryz.func49 rfl Tryz.ntmps49 (by simp) (fun hsc=>?_);simp only [Lf.enter,Nat.reduceAdd];clear hsc
 have hU:=True.intro
 repeat' (first|(refine goR ?_)|(refine za (fun K hK=>?_))|((refine zb (fun hcd=>?_) (fun hcd=>?_))<;>(try simp only [hcP] at hcd)<;>(try exact cdT))|((refine zh [] (by rw [Tryz.results49,Lf.zy]) (zj ?_) ?_)<;>(try (first|exact zi|exact stT)))|(refine hK _ _ ?_;clear hK K))
theorem ziJ (f q : Bool) (l : List Fr) (hl : l.length ≤ 1000000) (hx : ∀ x ∈ l,-9223372036854775808 ≤ x.s ∧ x.s ≤ 9223372036854775807) : AEq Tryz.prog 49 [i64 1,.sl f q (l.map frA)] [] (i64 (zok l)) []:=by
 refine zc Tryz.func49 rfl Tryz.ntmps49 (by simp) (fun hsc=>?_);simp only [Lf.enter,Nat.reduceAdd];clear hsc
 have hU:=True.intro
 repeat' (first|(refine goR ?_)|(refine za (fun K hK=>?_))|((refine zb (fun hcd=>?_) (fun hcd=>?_))<;>(try simp only [hcP] at hcd)<;>(try exact cdT))|(refine zd (f:=90) rfl Tryz.call90 (h:=AEq.pure' agT (zlO _ _ _ (by assumption) (by assumption)) (hq:=?_)))|((refine zh [] (by rw [Tryz.results49,Lf.zy]) (zj ?_) ?_)<;>(try (first|exact zi|exact stT)))|(refine hK _ _ ?_;clear hK K))
def mg0 : List Fl:=[⟨⟨#[58,109,101,116,104,111,100]⟩,⟨#[71,69,84]⟩,false⟩,⟨⟨#[58,115,99,104,101,109,101]⟩,⟨#[104,116,116,112]⟩,false⟩,⟨⟨#[58,112,97,116,104]⟩,⟨#[47]⟩,false⟩]
def mg1 : List Fl:=[⟨⟨#[58,115,116,97,116,117,115]⟩,⟨#[50,48,48]⟩,false⟩]
def msgF (sd t : Int) (fl : List Fl) : List Fr:=if rsB ⟨1,t,0,true,fl,[]⟩ = true then frF sd 1 t 0 true fl [] else []
theorem ziK (sd t : Int) (fl : List Fl) (f1 f2 : Bool) (hs : sd = 0 ∨ sd = 1) (hfl : fl.length ≤ 9223372036854775807) : AEq Tryz.prog 12 [i64 sd,.ag [i64 1,i64 t,i64 0,bl true,.sl f1 false (fl.map flA),.sl f2 false []]] [] (.sl false false ((msgF sd t fl).map frA)) []:=by
 have h0 : ([] : List (Int × Int)).length ≤ 1000000:=by decide
 have k : AEq Tryz.prog 12 [i64 sd,.ag [i64 1,i64 t,i64 0,bl true,.sl false false (fl.map flA),.sl false false []]] [] (.sl false false ((msgF sd t fl).map frA)) []:=by
  cases h : rsB ⟨1,t,0,true,fl,[]⟩ with
  | true=>
   have e : msgF sd t fl = frF sd 1 t 0 true fl []:=if_pos h
   rw [e]
   exact ziy sd 1 t 0 true fl [] hfl h0 hs h (by decide)
  | false=>
   have e : msgF sd t fl = []:=if_neg (by rw [h];decide)
   rw [e]
   exact zrO sd 1 t 0 true fl [] hfl h0 (by rintro ⟨_,h2,_⟩;rw [h] at h2;cases h2)
 exact AEq.pure k ⟨z0,zpA ⟨z0,z0,z0,z0,zB (by simp) id,zB (by simp) id,trivial⟩,trivial⟩ rfl ⟨rfl,rfl⟩
theorem zsb (f q : Bool) (l : List Fr) (hl : l.length ≤ 1000000) : AEq Tryz.prog 46 [i64 0,.sl f q (l.map frA)] [] (.sl false false ((msgF 0 (nxN l) mg0).map frA)) []:=by
 have hb:=ziH l
 have hfl : mg0.length ≤ 9223372036854775807:=by decide
 have hs : (0 : Int) = 0 ∨ (0 : Int) = 1:=.inl rfl
 refine zc Tryz.func46 rfl Tryz.ntmps46 (by simp) (fun hsc=>?_);simp only [Lf.enter,Nat.reduceAdd];clear hsc
 have hU:=True.intro
 repeat' (first|(refine goR ?_)|(refine za (fun K hK=>?_))|((refine zb (fun hcd=>?_) (fun hcd=>?_))<;>(try simp only [hcP] at hcd)<;>(try exact cdT))|(guard_target =~ SOp _ _ ⟨_,.buildSlice _ _ _,_,_,_,none⟩ _ _ _;refine yF (xs:=List.map (flA) (mg0)) rfl (he:=eoT) (hc:=hcT) (hK:=?_))|(refine zd (f:=89) rfl Tryz.call89 (h:=AEq.pure' agT (zuj _ _ _ (by assumption)) (hq:=?_)))|(refine zd (f:=12) rfl Tryz.call12 (h:=AEq.pure' agT (ziK _ _ _ _ _ (by assumption) (by assumption)) (hq:=?_)))|((refine zh [] (by rw [Tryz.results46,Lf.zy]) (zj ?_) ?_)<;>(try (first|exact zi|exact stT)))|(refine hK _ _ ?_;clear hK K))
theorem zsc (f q : Bool) (l : List Fr) (hl : l.length ≤ 1000000) (hx : ∀ x ∈ l,-9223372036854775808 ≤ x.s ∧ x.s ≤ 9223372036854775807) : AEq Tryz.prog 46 [i64 1,.sl f q (l.map frA)] [] (.sl false false ((msgF 1 (zok l) mg1).map frA)) []:=by
 have hfl : mg1.length ≤ 9223372036854775807:=by decide
 have hs : (1 : Int) = 0 ∨ (1 : Int) = 1:=.inr rfl
 refine zc Tryz.func46 rfl Tryz.ntmps46 (by simp) (fun hsc=>?_);simp only [Lf.enter,Nat.reduceAdd];clear hsc
 have hU:=True.intro
 repeat' (first|(refine goR ?_)|(refine za (fun K hK=>?_))|((refine zb (fun hcd=>?_) (fun hcd=>?_))<;>(try simp only [hcP] at hcd)<;>(try exact cdT))|(guard_target =~ SOp _ _ ⟨_,.buildSlice _ _ _,_,_,_,none⟩ _ _ _;refine yF (xs:=List.map (flA) (mg1)) rfl (he:=eoT) (hc:=hcT) (hK:=?_))|(refine zd (f:=90) rfl Tryz.call90 (h:=AEq.pure' agT (zlO _ _ _ (by assumption) (by assumption)) (hq:=?_)))|(refine zd (f:=12) rfl Tryz.call12 (h:=AEq.pure' agT (ziK _ _ _ _ _ (by assumption) (by assumption)) (hq:=?_)))|((refine zh [] (by rw [Tryz.results46,Lf.zy]) (zj ?_) ?_)<;>(try (first|exact zi|exact stT)))|(refine hK _ _ ?_;clear hK K))
end Go.Proofs.YtdalcgfnlbofdaaGreatDoor
