import Derived.Test.YtdalcgfnlbofdaaGreatDoorPg
import Derived.Test.YtdalcgfnlbofdaaGreatDoorY01
import Derived.Test.YtdalcgfnlbofdaaGreatDoorPy
set_option linter.unusedVariables false
set_option linter.unusedSimpArgs false
namespace Go.Proofs.YtdalcgfnlbofdaaGreatDoor
open Go Go.Lf Go.Proofs
attribute [local irreducible] Lf.rg Lf.ro Lf.PWp Lf.SOp Lf.ACall Lf.Scoped Lf.dg
set_option maxRecDepth 20000
set_option maxHeartbeats 4000000
def zct (n : Int) : Int:=if n = 1 then 255 else if n = 2 then 65535 else if n = 3 then 16777215 else if n = 4 then 4294967295 else 0
theorem zlu (n : Int) (h : ¬ (1 ≤ n ∧ n ≤ 4)) : AEq Tryz.prog 194 [i64 n] [] (.tu [i64 0,bl false]) []:=by
 refine zc Tryz.func194 rfl Tryz.ntmps194 (by simp) (fun hsc=>?_);simp only [Lf.enter,Nat.reduceAdd];clear hsc
 have hU:=True.intro
 repeat' (first|(refine goR ?_)|(refine za (fun K hK=>?_))|((refine zb (fun hcd=>?_) (fun hcd=>?_))<;>(try simp only [hcP] at hcd)<;>(try exact cdT))|((refine zh [] (by rw [Tryz.results194,Lf.yE]) (zA ?_ ?_) ?_)<;>(try (first|exact zi|exact stT)))|(refine hK _ _ ?_;clear hK K))
theorem za5 (n : Int) (h1 : 1 ≤ n) (h2 : n ≤ 4) : AEq Tryz.prog 194 [i64 n] [] (.tu [i64 (zct n),bl true]) []:=by
 have h : n = 1 ∨ n = 2 ∨ n = 3 ∨ n = 4:=by omega
 clear h1 h2
 rcases h with rfl|rfl|rfl|rfl
 all_goals
  refine zc Tryz.func194 rfl Tryz.ntmps194 (by simp) (fun hsc=>?_);simp only [Lf.enter,Nat.reduceAdd];clear hsc
  have hU:=True.intro
  repeat' (first|(refine goR ?_)|(refine za (fun K hK=>?_))|((refine zb (fun hcd=>?_) (fun hcd=>?_))<;>(try simp only [hcP] at hcd)<;>(try exact cdT))|((refine zh [] (by rw [Tryz.results194,Lf.yE]) (zA ?_ ?_) ?_)<;>(try (first|exact zi|exact stT)))|(refine hK _ _ ?_;clear hK K))
def yZ (l : List UInt8) : Int:=l.foldl (fun n x=>n * 256 + (x.toNat : Int)) 0
theorem za6 (l : List UInt8) (x : UInt8) : yZ (l ++ [x]) = yZ l * 256 + (x.toNat : Int):=by simp [yZ]
theorem zhL (l : List UInt8) : 0 ≤ yZ l ∧ yZ l < 256 ^ l.length:=by
 have key : ∀ (l : List UInt8) (n : Int),0 ≤ n → n * 256 ^ l.length ≤ l.foldl (fun n x=>n * 256 + (x.toNat : Int)) n ∧ l.foldl (fun n x=>n * 256 + (x.toNat : Int)) n < (n + 1) * 256 ^ l.length:=by
  intro l
  induction l with
  | nil=>intro n hn;simp;omega
  | cons x l ih=>
   intro n hn
   have hx : x.toNat < 256:=x.toNat_lt
   have:=ih (n * 256 + (x.toNat : Int)) (by omega)
   simp only [List.foldl_cons,List.length_cons]
   have hp : (256 : Int) ^ (l.length + 1) = 256 * 256 ^ l.length:=by rw [Int.pow_succ,Int.mul_comm]
   have hpos : (0 : Int) < 256 ^ l.length:=Int.pow_pos (by decide)
   rw [hp]
   constructor
   ·refine Int.le_trans ?_ this.1
    rw [← Int.mul_assoc]
    exact Int.mul_le_mul_of_nonneg_right (by omega) (by omega)
   ·refine Int.lt_of_lt_of_le this.2 ?_
    rw [← Int.mul_assoc]
    exact Int.mul_le_mul_of_nonneg_right (by omega) (by omega)
 have:=key l 0 (by omega)
 simpa [yZ] using this
theorem znh {l : List UInt8} (h : l.length ≤ 3) : 0 ≤ yZ l ∧ yZ l < 16777216:=by
 have:=zhL l
 rcases (show l.length = 0 ∨ l.length = 1 ∨ l.length = 2 ∨ l.length = 3 by omega) with h|h|h|h<;>rw [h] at this<;>omega
theorem zkg {l : List UInt8} (h : l.length ≤ 4) : 0 ≤ yZ l ∧ yZ l < 4294967296:=by
 have:=zhL l
 rcases (show l.length = 0 ∨ l.length = 1 ∨ l.length = 2 ∨ l.length = 3 ∨ l.length = 4 by omega) with h|h|h|h|h<;>rw [h] at this<;>omega
theorem zni {a : Int} {x : UInt8} (h0 : 0 ≤ a ∧ a < 16777216) : ior .i64 (a * 256) (x.toNat : Int) = a * 256 + (x.toNat : Int):=by
 show IntKind.i64.wrap ((BitVec.ofInt 64 (a * 256) ||| BitVec.ofInt 64 (x.toNat : Int)).toNat : Int) = _
 obtain ⟨n,rfl⟩:=Int.eq_ofNat_of_zero_le h0.1
 have hx : x.toNat < 256:=x.toNat_lt
 have hn : n < 16777216:=by omega
 have e1 : BitVec.ofInt 64 ((n : Int) * 256) = BitVec.ofNat 64 (n * 256):=by
  rw [show ((n : Int) * 256) = ((n * 256 : Nat) : Int) from by simp];rfl
 have e2 : BitVec.ofInt 64 (x.toNat : Int) = BitVec.ofNat 64 x.toNat:=rfl
 rw [e1,e2,BitVec.toNat_or,BitVec.toNat_ofNat,BitVec.toNat_ofNat,Nat.mod_eq_of_lt (by omega),Nat.mod_eq_of_lt (by omega)]
 have e3 : n * 256 ||| x.toNat = n * 256 + x.toNat:=by
  have:=Nat.two_pow_add_eq_or_of_lt (i:=8) (b:=x.toNat) (by omega) n
  rw [Nat.mul_comm n 256]
  exact this.symm
 rw [e3]
 have:=w64 (n:=((n * 256 + x.toNat : Nat) : Int)) (by omega)
 rw [this]
 simp
theorem znj (b : AV) (n : Int) (h : ¬ (1 ≤ n ∧ n ≤ 4)) : AEq Tryz.prog 184 [b,i64 n] [] (.tu [i64 0,i64 1]) []:=by
 refine zc Tryz.func184 rfl Tryz.ntmps184 (by simp) (fun hsc=>?_);simp only [Lf.enter,Nat.reduceAdd];clear hsc
 have hU:=True.intro
 repeat' (first|(refine goR ?_)|(refine za (fun K hK=>?_))|((refine zb (fun hcd=>?_) (fun hcd=>?_))<;>(try simp only [hcP] at hcd)<;>(try exact cdT))|(refine zd (f:=194) rfl Tryz.call194 (h:=AEq.pure' (hc:=zlu _ (by assumption)) (hq:=?_)))|((refine zh [] (by rw [Tryz.results184,Lf.yE]) (zA ?_ ?_) ?_)<;>(try (first|exact zi|exact stT)))|(refine hK _ _ ?_;clear hK K))
theorem zhM (f q : Bool) (b : List UInt8) (n : Int) (h1 : 1 ≤ n) (h2 : n ≤ 4) (hn : b.length < n) : AEq Tryz.prog 184 [.sl f q (b.map zf),i64 n] [] (.tu [i64 0,i64 3]) []:=by
 refine zc Tryz.func184 rfl Tryz.ntmps184 (by simp) (fun hsc=>?_);simp only [Lf.enter,Nat.reduceAdd];clear hsc
 have hU:=True.intro
 repeat' (first|(refine goR ?_)|(refine za (fun K hK=>?_))|((refine zb (fun hcd=>?_) (fun hcd=>?_))<;>(try simp only [hcP] at hcd)<;>(try exact cdT))|(refine zd (f:=194) rfl Tryz.call194 (h:=AEq.pure' (hc:=za5 _ (by assumption) (by assumption)) (hq:=?_)))|((refine zh [] (by rw [Tryz.results184,Lf.yE]) (zA ?_ ?_) ?_)<;>(try (first|exact zi|exact stT)))|(refine hK _ _ ?_;clear hK K))
theorem znk (f q : Bool) (b : List UInt8) (n : Int) (h1 : 1 ≤ n) (h2 : n ≤ 4) (hn : n ≤ b.length) (hb : b.length ≤ 4000000000000000000) : AEq Tryz.prog 184 [.sl f q (b.map zf),i64 n] [] (.tu [i64 (yZ (b.take n.toNat)),i64 0]) []:=by
 refine zc Tryz.func184 rfl Tryz.ntmps184 (by simp) (fun hsc=>?_);simp only [Lf.enter,Nat.reduceAdd];clear hsc
 have hU:=@zni
 repeat' (first|(refine goR ?_)|(refine za (fun K hK=>?_))|((refine zb (fun hcd=>?_) (fun hcd=>?_))<;>(try simp only [hcP] at hcd)<;>(try exact cdT))|(guard_target =~ SOp _ _ ⟨_,.slice _ _ _ _ _,_,_,_,none⟩ _ _ _;refine jf rfl (hg:=(fun _=>gT)) (hK:=?_))|(refine zd (f:=194) rfl Tryz.call194 (h:=AEq.pure' (hc:=za5 _ (by assumption) (by assumption)) (hq:=?_)))|(refine hK _ _ ?_;clear hK K))
 obtain ⟨c,hc⟩ : ∃ c,c = b.take n.toNat:=⟨_,rfl⟩
 have hcl : (c.length : Int) = n:=by rw [hc,List.length_take];omega
 rw [← hc]
 refine zz [8,10,26,27,28,29,30,31,32,33,34,35] (fun i : Nat=>[(8,i64 (yZ (c.take i))),(26,i64 i)]) (fun _=>[]) (fun i=>i ≤ c.length) (fun i=>c.length - i) 0 (Nat.zero_le _) ?_ rfl ?_
 ·(refine ⟨⟨_,sT,?_⟩,⟨_,sT,?_⟩,trivial⟩<;>(try (first|exact zi)))
 ·intro i hi
  simp only [vf,List.map_cons,List.map_nil,List.cons_append,List.nil_append]
  have hb:=znh (l:=c.take (min i 3)) (by simp;omega)
  by_cases hlt : i < c.length
  ·obtain ⟨x, hx⟩ : ∃ x, c[i]? = some x := ⟨c[i], List.getElem?_eq_getElem hlt⟩
   have hm : min i 3 = i:=by omega
   rw [hm] at hb
   have hxb : x.toNat < 256:=x.toNat_lt
   have hs:=za6 (c.take i) x
   rw [← yH hx] at hs
   repeat' (first|(refine goR ?_)|(refine za (fun K hK=>?_))|((refine zb (fun hcd=>?_) (fun hcd=>?_))<;>(try simp only [hcP] at hcd)<;>(try exact cdT))|(refine hK _ _ ?_;clear hK K))
   refine ⟨i + 1,by omega,by omega,?_,arT,rfl⟩
   (refine ⟨⟨_,sT,?_⟩,⟨_,sT,?_⟩,trivial⟩<;>(try (first|exact zi)))
   exact yc (by rw [hs])
  ·repeat' (first | (refine goR ?_) | (refine za (fun K hK => ?_)) | ((refine zb (fun hcd => ?_) (fun hcd => ?_)) <;> (try simp only [hcP] at hcd) <;> (try exact cdT)) | ((refine zh [] (by rw [Tryz.results184, Lf.yE]) (zA ?_ ?_) ?_) <;> (try (first | exact zi | exact stT))) | (refine hK _ _ ?_; clear hK K) | (apply_assumption (exfalso := false) (symm := false)))
   rw [List.take_of_length_le (by omega),hc]
   exact yc rfl
def okS (n : Int) : Bool:=decide (1 ≤ n) && decide (n ≤ 4)
def zM (b : List UInt8) (n : Int) : Int:=if okS n = true ∧ n ≤ b.length then yZ (b.take n.toNat) else 0
def zaf (b : List UInt8) (n : Int) : Int:=if okS n = false then 1 else if (b.length : Int) < n then 3 else 0
theorem yr {n : Int} (h : 1 ≤ n ∧ n ≤ 4) : okS n = true:=by simp [okS,h.1,h.2]
theorem zbG {n : Int} (h : ¬ (1 ≤ n ∧ n ≤ 4)) : okS n = false:=by
 simp only [okS,Bool.and_eq_false_iff,decide_eq_false_iff_not];omega
theorem zq6 (f q : Bool) (b : List UInt8) (n : Int) (hb : b.length ≤ 4000000000000000000) : AEq Tryz.prog 184 [.sl f q (b.map zf),i64 n] [] (.tu [i64 (zM b n),i64 (zaf b n)]) []:=by
 by_cases h : 1 ≤ n ∧ n ≤ 4
 ·by_cases h2 : n ≤ b.length
  ·have := znk f q b n h.1 h.2 h2 hb
   rw [show zM b n = yZ (b.take n.toNat) from if_pos ⟨yr h,h2⟩,show zaf b n = 0 by simp only [zaf,yr h];rw [if_neg (by simp),if_neg (by omega)]]
   exact this
  ·have := zhM f q b n h.1 h.2 (by omega)
   rw [show zM b n = 0 from if_neg (fun x=>h2 x.2),show zaf b n = 3 by simp only [zaf,yr h];rw [if_neg (by simp),if_pos (by omega)]]
   exact this
 ·have := znj (.sl f q (b.map zf)) n h
  rw [show zM b n = 0 from if_neg (fun x=>by rw [zbG h] at x;cases x.1),show zaf b n = 1 by simp [zaf,zbG h]]
  exact this
end Go.Proofs.YtdalcgfnlbofdaaGreatDoor
namespace Go.Proofs.YtdalcgfnlbofdaaGreatDoor
open Go Go.Lf Go.Proofs
attribute [local irreducible] Lf.rg Lf.ro Lf.PWp Lf.SOp Lf.ACall Lf.Scoped Lf.dg
set_option maxRecDepth 20000
set_option maxHeartbeats 4000000
def ye : Nat → Int
 | 0=>1
 | k + 1=>256 * ye k
theorem vU (k : Nat) (h : k ≤ 4) : 1 ≤ ye k ∧ ye k ≤ 4294967296:=by
 rcases (show k = 0 ∨ k = 1 ∨ k = 2 ∨ k = 3 ∨ k = 4 by omega) with h|h|h|h|h<;>subst h<;>decide
theorem zkh (k : Nat) (n : Int) (h : n = k) (hk : k ≤ 4) : AEq Tryz.prog 179 [i64 n] [] (i64 (ye k)) []:=by
 refine zc Tryz.func179 rfl Tryz.ntmps179 (by simp) (fun hsc=>?_);simp only [Lf.enter,Nat.reduceAdd];clear hsc
 have hU:=True.intro
 repeat' (first|(refine goR ?_)|(refine za (fun K hK=>?_))|(refine hK _ _ ?_;clear hK K))
 refine zz [3,4,5,6,7,8,9,10,11] (fun i : Nat=>[(3,i64 (ye i)),(4,i64 i)]) (fun _=>[]) (fun i=>i ≤ k) (fun i=>k - i) 0 (Nat.zero_le _) ?_ rfl ?_
 ·(refine ⟨⟨_,sT,?_⟩,⟨_,sT,?_⟩,trivial⟩<;>(try (first|exact zi)))
 ·intro i hi
  simp only [vf,List.map_cons,List.map_nil,List.cons_append,List.nil_append]
  have hb:=vU i (by omega)
  by_cases hlt : i < k
  ·have hb' := vU (i + 1) (by omega)
   have hs : ye (i + 1) = 256 * ye i:=rfl
   repeat' (first|(refine goR ?_)|(refine za (fun K hK=>?_))|((refine zb (fun hcd=>?_) (fun hcd=>?_))<;>(try simp only [hcP] at hcd)<;>(try exact cdT))|(refine hK _ _ ?_;clear hK K))
   refine ⟨i + 1,by omega,by omega,?_,arT,rfl⟩
   (refine ⟨⟨_,sT,?_⟩,⟨_,sT,?_⟩,trivial⟩<;>(try (first|exact zi)))
  ·have he : i = k := by omega
   subst he
   repeat' (first|(refine goR ?_)|(refine za (fun K hK=>?_))|((refine zb (fun hcd=>?_) (fun hcd=>?_))<;>(try simp only [hcP] at hcd)<;>(try exact cdT))|((refine zh [] (by rw [Tryz.results179,Lf.zy]) (zj ?_) ?_)<;>(try (first|exact zi|exact stT)))|(refine hK _ _ ?_;clear hK K)|(apply_assumption (exfalso:=false) (symm:=false)))
theorem jI (n : Int) (h0 : 0 ≤ n) (h4 : n ≤ 4) : AEq Tryz.prog 179 [i64 n] [] (i64 (ye n.toNat)) []:=zkh n.toNat n (by omega) (by omega)
theorem zki (l : List UInt8) (k : Nat) : yZ (l ++ List.replicate k 0) = yZ l * ye k:=by
 induction k with
 | zero=>simp [ye]
 | succ k ih=>
  rw [List.replicate_succ',← List.append_assoc,za6,ih]
  show yZ l * ye k * 256 + 0 = yZ l * (256 * ye k)
  rw [Int.mul_comm 256,← Int.mul_assoc,Int.add_zero]
theorem jj (l : List UInt8) (k : Nat) (h : l.length + k ≤ 4) : 0 ≤ yZ l * ye k ∧ yZ l * ye k < 4294967296:=by
 rw [← zki];exact zkg (by simp;omega)
theorem zel (x : UInt8) (k : Nat) (h : k ≤ 3) : 0 ≤ (x.toNat : Int) * ye k ∧ (x.toNat : Int) * ye k < 4294967296:=by
 have:=jj [x] k (by simp;omega)
 simpa [yZ] using this
theorem zkj (f q : Bool) (b : List UInt8) (n : Int) (h1 : 1 ≤ n) (h2 : n ≤ 4) (hn : n ≤ b.length) (hb : b.length ≤ 4000000000000000000) : AEq Tryz.prog 159 [.sl f q (b.map zf),i64 n] [] (.tu [i64 (yZ (b.take n.toNat)),i64 0]) []:=by
 refine zc Tryz.func159 rfl Tryz.ntmps159 (by simp) (fun hsc=>?_);simp only [Lf.enter,Nat.reduceAdd];clear hsc
 have hU:=True.intro
 repeat' (first|(refine goR ?_)|(refine za (fun K hK=>?_))|((refine zb (fun hcd=>?_) (fun hcd=>?_))<;>(try simp only [hcP] at hcd)<;>(try exact cdT))|(refine hK _ _ ?_;clear hK K))
 refine zz [6,7,18,19,20,21,22,23,24,25,26,27,28,29,30,31,32,33,34,35] (fun i : Nat=>[(6,i64 (yZ (b.take i) * ye (n.toNat - i))),(7,i64 i)]) (fun _=>[]) (fun i=>i ≤ n.toNat) (fun i=>n.toNat - i) 0 (Nat.zero_le _) ?_ rfl ?_
 ·(refine ⟨⟨_, sT, ?_⟩, ⟨_, sT, ?_⟩, trivial⟩ <;> (try (first | exact zi)))
  exact yc (by simp [yZ])
 ·intro i hi
  simp only [vf,List.map_cons,List.map_nil,List.cons_append,List.nil_append]
  have hbd:=jj (b.take i) (n.toNat - i) (by simp;omega)
  by_cases hlt : i < n.toNat
  ·obtain ⟨x, hx⟩ : ∃ x, b[i]? = some x := ⟨b[i], List.getElem?_eq_getElem (by omega)⟩
   have hxb:=zel x (n.toNat - 1 - i) (by omega)
   have hxc : x.toNat < 256:=x.toNat_lt
   have hp:=vU (n.toNat - 1 - i) (by omega)
   have hs : yZ (b.take (i + 1)) * ye (n.toNat - (i + 1)) = yZ (b.take i) * ye (n.toNat - i) + (x.toNat : Int) * ye (n.toNat - 1 - i):=by
    rw [yH hx,za6,show n.toNat - i = (n.toNat - 1 - i) + 1 by omega,show n.toNat - (i + 1) = n.toNat - 1 - i by omega]
    show _ = yZ (b.take i) * (256 * ye (n.toNat - 1 - i)) + _
    rw [Int.add_mul,Int.mul_assoc]
   have hbd':=jj (b.take (i + 1)) (n.toNat - (i + 1)) (by simp;omega)
   have hpn : (n - 1 - (i : Int)).toNat = n.toNat - 1 - i:=by omega
   have hU:=@hpn
   repeat' (first|(refine goR ?_)|(refine za (fun K hK=>?_))|(guard_target =~ PWp _ _ _ _ _ _ _;refine zc5 mixed (by kernel_rfl) ?_)|((refine zb (fun hcd=>?_) (fun hcd=>?_))<;>(try simp only [hcP] at hcd)<;>(try exact cdT))|(guard_target =~ dg _ _ _ _ _ _ _;first|(guard_target =~ dg _ _ _ (⟨_,.indexAddr _ _ _,_,_,_,none⟩ :: _) _ _ _;(refine ko (x:=_) (h:=yj (h:=vh rfl (hK:=ze ⟨rfl,rfl⟩))) (hk:=?_)))|(guard_target =~ dg _ _ _ (⟨_,.call ⟨.value (.func 179),_,_⟩,_,_,_,none⟩ :: _) _ _ _;(refine ko (x:=_) (h:=yj (h:=zd (f:=179) rfl Tryz.call179 (h:=AEq.pure' (hc:=jI _ (by omega) (by omega)) (hq:=ze ⟨rfl,rfl⟩)))) (hk:=?_))))|(refine hK _ _ ?_;clear hK K))
   refine ⟨i + 1,by omega,by omega,?_,arT,rfl⟩
   have hU:=True.intro
   (refine ⟨⟨_,sT,?_⟩,⟨_,sT,?_⟩,trivial⟩<;>(try (first|exact zi)))
   exact yc (by rw [hs])
  ·have he : i = n.toNat := by omega
   have h0 : yZ (b.take i) * ye (n.toNat - i) = yZ (b.take n.toNat):=by rw [he];simp [ye]
   repeat' (first|(refine goR ?_)|(refine za (fun K hK=>?_))|((refine zb (fun hcd=>?_) (fun hcd=>?_))<;>(try simp only [hcP] at hcd)<;>(try exact cdT))|((refine zh [] (by rw [Tryz.results159,Lf.yE]) (zA ?_ ?_) ?_)<;>(try (first|exact zi|exact stT)))|(refine hK _ _ ?_;clear hK K)|(apply_assumption (exfalso:=false) (symm:=false)))
   exact yc (by rw [h0])
theorem zkk (b : AV) (n : Int) (h : ¬ (1 ≤ n ∧ n ≤ 4)) : AEq Tryz.prog 159 [b,i64 n] [] (.tu [i64 0,i64 1]) []:=by
 refine zc Tryz.func159 rfl Tryz.ntmps159 (by simp) (fun hsc=>?_);simp only [Lf.enter,Nat.reduceAdd];clear hsc
 have hU:=True.intro
 repeat' (first|(refine goR ?_)|(refine za (fun K hK=>?_))|((refine zb (fun hcd=>?_) (fun hcd=>?_))<;>(try simp only [hcP] at hcd)<;>(try exact cdT))|((refine zh [] (by rw [Tryz.results159,Lf.yE]) (zA ?_ ?_) ?_)<;>(try (first|exact zi|exact stT)))|(refine hK _ _ ?_;clear hK K))
theorem zf5 (f q : Bool) (b : List UInt8) (n : Int) (h1 : 1 ≤ n) (h2 : n ≤ 4) (hn : b.length < n) : AEq Tryz.prog 159 [.sl f q (b.map zf),i64 n] [] (.tu [i64 0,i64 3]) []:=by
 refine zc Tryz.func159 rfl Tryz.ntmps159 (by simp) (fun hsc=>?_);simp only [Lf.enter,Nat.reduceAdd];clear hsc
 have hU:=True.intro
 repeat' (first|(refine goR ?_)|(refine za (fun K hK=>?_))|((refine zb (fun hcd=>?_) (fun hcd=>?_))<;>(try simp only [hcP] at hcd)<;>(try exact cdT))|((refine zh [] (by rw [Tryz.results159,Lf.yE]) (zA ?_ ?_) ?_)<;>(try (first|exact zi|exact stT)))|(refine hK _ _ ?_;clear hK K))
theorem zem (f q : Bool) (b : List UInt8) (n : Int) (hb : b.length ≤ 4000000000000000000) : AEq Tryz.prog 159 [.sl f q (b.map zf),i64 n] [] (.tu [i64 (zM b n),i64 (zaf b n)]) []:=by
 by_cases h : 1 ≤ n ∧ n ≤ 4
 ·by_cases h2 : n ≤ b.length
  ·have := zkj f q b n h.1 h.2 h2 hb
   rw [show zM b n = yZ (b.take n.toNat) from if_pos ⟨yr h,h2⟩,show zaf b n = 0 by simp only [zaf,yr h];rw [if_neg (by simp),if_neg (by omega)]]
   exact this
  ·have := zf5 f q b n h.1 h.2 (by omega)
   rw [show zM b n = 0 from if_neg (fun x=>h2 x.2),show zaf b n = 3 by simp only [zaf,yr h];rw [if_neg (by simp),if_pos (by omega)]]
   exact this
 ·have := zkk (.sl f q (b.map zf)) n h
  rw [show zM b n = 0 from if_neg (fun x=>by rw [zbG h] at x;cases x.1),show zaf b n = 1 by simp [zaf,zbG h]]
  exact this
end Go.Proofs.YtdalcgfnlbofdaaGreatDoor
namespace Go.Proofs.YtdalcgfnlbofdaaGreatDoor
open Go Go.Lf Go.Proofs
attribute [local irreducible] Lf.rg Lf.ro Lf.PWp Lf.SOp Lf.ACall Lf.Scoped Lf.dg
set_option maxRecDepth 20000
set_option maxHeartbeats 4000000
def byteAt (n : Int) (k : Nat) : UInt8:=UInt8.ofNat (n / ye k % 256).toNat
def beB (n : Int) : Nat → List UInt8
 | 0=>[]
 | k + 1=>byteAt n k :: beB n k
theorem zN (n : Int) : ∀ k, (beB n k).length = k
 | 0=>rfl
 | k + 1=>by simp [beB,zN n k]
theorem va (n : Int) (k : Nat) : ((byteAt n k).toNat : Int) = n / ye k % 256:=by
 have h1:=Int.emod_nonneg (n / ye k) (b:=256) (by decide)
 have h2:=Int.emod_lt_of_pos (n / ye k) (b:=256) (by decide)
 unfold byteAt
 rw [UInt8.toNat_ofNat']
 omega
theorem zfi (n : Int) (h0 : 0 ≤ n) (k : Nat) (hk : k ≤ 3) (a : Int) (ha : a = 8 * k) : IntKind.u8.wrap (n.fdiv (2 ^ a.toNat)) = ((byteAt n k).toNat : Int):=by
 rw [va]
 have e : ((2 : Int) ^ a.toNat) = ye k:=by
  rcases (show k = 0 ∨ k = 1 ∨ k = 2 ∨ k = 3 by omega) with h|h|h|h<;>subst h<;>subst ha<;>rfl
 rw [e,Int.fdiv_eq_ediv_of_nonneg _ (by have:=vU k (by omega);omega)]
 have h1:=Int.emod_nonneg (n / ye k) (b:=256) (by decide)
 have h2:=Int.emod_lt_of_pos (n / ye k) (b:=256) (by decide)
 unfold IntKind.wrap
 simp [IntKind.bits,IntKind.signed]
theorem j3 (size : Int) (h1 : 1 ≤ size) (h2 : size ≤ 4) : zct size = ye size.toNat - 1:=by
 rcases (show size = 1 ∨ size = 2 ∨ size = 3 ∨ size = 4 by omega) with h|h|h|h<;>subst h<;>rfl
def yw (n size : Int) : Int:=if okS size = false then 1 else if n < 0 ∨ zct size < n then 5 else 0
def zaw (b : List UInt8) (n size : Int) : List UInt8:=if yw n size = 0 then b ++ beB n size.toNat else []
theorem znl (f q : Bool) (b : List UInt8) (n size : Int) (h : ¬ (1 ≤ size ∧ size ≤ 4)) : AEq Tryz.prog 171 [.sl f q (b.map zf),i64 n,i64 size] [] (.tu [.sl false false (List.map zf []),i64 1]) []:=by
 refine zc Tryz.func171 rfl Tryz.ntmps171 (by simp) (fun hsc=>?_);simp only [Lf.enter,Nat.reduceAdd];clear hsc
 have hU:=True.intro
 repeat' (first|(refine goR ?_)|(refine za (fun K hK=>?_))|((refine zb (fun hcd=>?_) (fun hcd=>?_))<;>(try simp only [hcP] at hcd)<;>(try exact cdT))|(refine zd (f:=194) rfl Tryz.call194 (h:=AEq.pure' (hc:=zlu _ (by assumption)) (hq:=?_)))|((refine zh [] (by rw [Tryz.results171,Lf.yE]) (zA ?_ ?_) ?_)<;>(try (first|exact zi|exact stT)))|(refine hK _ _ ?_;clear hK K))
theorem zhN (f q : Bool) (b : List UInt8) (n size : Int) (h1 : 1 ≤ size) (h2 : size ≤ 4) (hn : n < 0 ∨ zct size < n) : AEq Tryz.prog 171 [.sl f q (b.map zf),i64 n,i64 size] [] (.tu [.sl false false (List.map zf []),i64 5]) []:=by
 obtain ⟨m,hm⟩ : ∃ m,m = zct size:=⟨_,rfl⟩
 have hm':=hm.symm
 rw [← hm] at hn
 refine zc Tryz.func171 rfl Tryz.ntmps171 (by simp) (fun hsc=>?_);simp only [Lf.enter,Nat.reduceAdd];clear hsc
 have hU:=@hm'
 repeat' (first|(refine goR ?_)|(refine za (fun K hK=>?_))|((refine zb (fun hcd=>?_) (fun hcd=>?_))<;>(try simp only [hcP] at hcd)<;>(try exact cdT))|(refine zd (f:=194) rfl Tryz.call194 (h:=AEq.pure' (hc:=za5 _ (by assumption) (by assumption)) (hq:=?_)))|((refine zh [] (by rw [Tryz.results171,Lf.yE]) (zA ?_ ?_) ?_)<;>(try (first|exact zi|exact stT)))|(refine hK _ _ ?_;clear hK K))
theorem znm (f q : Bool) (b : List UInt8) (n size : Int) (h1 : 1 ≤ size) (h2 : size ≤ 4) (h0 : 0 ≤ n) (hn : n ≤ zct size) (hb : b.length ≤ 1000000000) : AEq Tryz.prog 171 [.sl f q (b.map zf),i64 n,i64 size] [] (.tu [.sl false false ((b ++ beB n size.toNat).map zf),i64 0]) []:=by
 have hpn : (ye size.toNat : Int) ≤ 4294967296:=(vU _ (by omega)).2
 have htl:=j3 size h1 h2
 obtain ⟨m,hm⟩ : ∃ m,m = zct size:=⟨_,rfl⟩
 have hm':=hm.symm
 rw [← hm] at hn htl
 refine zc Tryz.func171 rfl Tryz.ntmps171 (by simp) (fun hsc=>?_);simp only [Lf.enter,Nat.reduceAdd];clear hsc
 have hU:=@hm'
 repeat' (first|(refine goR ?_)|(refine za (fun K hK=>?_))|((refine zb (fun hcd=>?_) (fun hcd=>?_))<;>(try simp only [hcP] at hcd)<;>(try exact cdT))|(refine zd (f:=194) rfl Tryz.call194 (h:=AEq.pure' (hc:=za5 _ (by assumption) (by assumption)) (hq:=?_)))|(guard_target =~ SOp _ _ ⟨_,.makeSlice _ _ _,_,_,_,none⟩ _ _ _;refine zeR rfl (he:=eoT) (hK:=?_))|(guard_target =~ SOp _ _ ⟨_,.call ⟨.builtin .copy,_,_⟩,_,_,_,none⟩ _ _ _;refine zgV rfl (hK:=?_))|(refine hK _ _ ?_;clear hK K))
 refine zz [10, 11, 40, 41, 42, 43, 44, 45, 46, 47, 48, 49, 50, 51] (fun s : Int × List UInt8 × Nat => [(10, .row 0 s.2.2), (11, i64 s.1)]) (fun s => [.row s.2.2 5 1 ((b ++ s.2.1).map zf)])
  (fun s=>∃ k : Nat,s.1 = 8 * k ∧ k ≤ size.toNat ∧ s.2.1 ++ beB n k = beB n size.toNat) (fun s=>s.1.toNat) (8 * size,[],0) ⟨size.toNat,by simp;omega,Nat.le_refl _,rfl⟩ ?_ (by rw [List.append_nil]) ?_
 ·(refine ⟨⟨_,sT,?_⟩,⟨_,sT,?_⟩,trivial⟩<;>(try (first|exact zi)))
 ·rintro ⟨a, l, s⟩ ⟨k, ha, hk, hl⟩
  simp only [vf,List.map_cons,List.map_nil,List.cons_append,List.nil_append]
  dsimp only at ha hl ⊢
  have hll : l.length + k = size.toNat:=by have:=congrArg List.length hl;simpa [zN] using this
  by_cases h0k : k = 0
  ·subst h0k
   have hl' : l = beB n size.toNat:=by simpa [beB] using hl
   subst hl'
   have hU:=True.intro
   repeat' (first|(refine goR ?_)|(refine za (fun K hK=>?_))|((refine zb (fun hcd=>?_) (fun hcd=>?_))<;>(try simp only [hcP] at hcd)<;>(try exact cdT))|((refine zh [] (by rw [Tryz.results171,Lf.yE]) (zA ?_ ?_) ?_)<;>(try (first|exact zi|exact stT)))|(refine hK _ _ ?_;clear hK K)|(apply_assumption (exfalso:=false) (symm:=false)))
  ·obtain ⟨k', rfl⟩ : ∃ k', k = k' + 1 := ⟨k - 1, by omega⟩
   have hsb:=zfi n h0 k' (by omega) (a - 8) (by omega)
   have hU:=@hsb
   repeat' (first|(refine goS ?_)|(refine za (fun K hK=>?_))|((refine zb (fun hcd=>?_) (fun hcd=>?_))<;>(try simp only [hcP] at hcd)<;>(try exact cdT))|(refine hK _ _ ?_;clear hK K)|(dsimp only [Lf.y6,Lf.vL]))
   refine ⟨(a - 8,l ++ [byteAt n k'],s + 1),⟨k',by simp only [];omega,by omega,by simpa [beB] using hl⟩,by simp only [];omega,?_,arT,by simp [zf]⟩
   (refine ⟨⟨_,sT,?_⟩,⟨_,sT,?_⟩,trivial⟩<;>(try (first|exact zi)))
theorem zfj (f q : Bool) (b : List UInt8) (n size : Int) (hb : b.length ≤ 1000000000) : AEq Tryz.prog 171 [.sl f q (b.map zf),i64 n,i64 size] [] (.tu [.sl false false ((zaw b n size).map zf),i64 (yw n size)]) []:=by
 by_cases h : 1 ≤ size ∧ size ≤ 4
 ·by_cases h2 : n < 0 ∨ zct size < n
  ·have e : yw n size = 5 := by simp only [yw, yr h]; rw [if_neg (by simp), if_pos h2]
   have e2 : zaw b n size = []:=by simp [zaw,e]
   rw [e,e2];exact zhN f q b n size h.1 h.2 h2
  ·have e : yw n size = 0 := by simp only [yw, yr h]; rw [if_neg (by simp), if_neg h2]
   have e2 : zaw b n size = b ++ beB n size.toNat:=by simp [zaw,e]
   rw [e,e2];exact znm f q b n size h.1 h.2 (by omega) (by omega) hb
 ·have e : yw n size = 1 := by simp [yw, zbG h]
  have e2 : zaw b n size = []:=by simp [zaw,e]
  rw [e,e2];exact znl f q b n size h
theorem zen (n : Int) (k : Nat) : IntKind.u8.wrap (n / ye k % 256) = ((byteAt n k).toNat : Int):=by
 rw [va]
 have h1:=Int.emod_nonneg (n / ye k) (b:=256) (by decide)
 have h2:=Int.emod_lt_of_pos (n / ye k) (b:=256) (by decide)
 exact wu8 (by omega)
theorem zq7 (n p : Int) (h : 0 ≤ n) (hp : 0 < p) : 0 ≤ n / p ∧ n / p ≤ n:=⟨Int.ediv_nonneg h (by omega),Int.ediv_le_self _ h⟩
theorem zhO (n : Int) : ∀ (m i : Nat), i < m → (beB n m)[i]? = some (byteAt n (m - 1 - i))
 | 0,_,h=>by omega
 | m + 1,0,_=>rfl
 | m + 1,i + 1,h=>by
  have:=zhO n m i (by omega)
  simp only [beB,List.getElem?_cons_succ,this]
  rw [show m + 1 - 1 - (i + 1) = m - 1 - i by omega]
theorem zkl (f q : Bool) (b : List UInt8) (n size : Int) (h : ¬ (1 ≤ size ∧ size ≤ 4)) : AEq Tryz.prog 134 [.sl f q (b.map zf),i64 n,i64 size] [] (.tu [.sl false false (List.map zf []),i64 1]) []:=by
 refine zc Tryz.func134 rfl Tryz.ntmps134 (by simp) (fun hsc=>?_);simp only [Lf.enter,Nat.reduceAdd];clear hsc
 have hU:=True.intro
 repeat' (first|(refine goR ?_)|(refine za (fun K hK=>?_))|((refine zb (fun hcd=>?_) (fun hcd=>?_))<;>(try simp only [hcP] at hcd)<;>(try exact cdT))|((refine zh [] (by rw [Tryz.results134,Lf.yE]) (zA ?_ ?_) ?_)<;>(try (first|exact zi|exact stT)))|(refine hK _ _ ?_;clear hK K))
theorem zf6 (f q : Bool) (b : List UInt8) (n size : Int) (h1 : 1 ≤ size) (h2 : size ≤ 4) (hn : n < 0 ∨ zct size < n) : AEq Tryz.prog 134 [.sl f q (b.map zf),i64 n,i64 size] [] (.tu [.sl false false (List.map zf []),i64 5]) []:=by
 have htl:=j3 size h1 h2
 rw [htl] at hn
 have hpd:=vU size.toNat (by omega)
 refine zc Tryz.func134 rfl Tryz.ntmps134 (by simp) (fun hsc=>?_);simp only [Lf.enter,Nat.reduceAdd];clear hsc
 have hU:=True.intro
 repeat' (first|(refine goR ?_)|(refine za (fun K hK=>?_))|((refine zb (fun hcd=>?_) (fun hcd=>?_))<;>(try simp only [hcP] at hcd)<;>(try exact cdT))|(guard_target =~ rg _ _ _ (⟨_,_,_,_,_,some _⟩ :: _) _ _ _;(first|refine zH gT (fun hcd=>?_) (fun hcd=>?_)|refine zw gT (fun hcd=>?_) (fun hcd=>?_))<;>(try simp only [hcd])<;>(try (simp only [Bool.not_eq_true',Bool.not_eq_false'] at hcd;try simp only [hcd]))<;>(refine ku (Γ2:=_) ewT ?_)<;>(try simp only [hcP] at hcd)<;>(try exact cdT))|(refine zd (f:=179) rfl Tryz.call179 (h:=AEq.pure' (hc:=jI _ aoT aoT) (hq:=?_)))|((refine zh [] (by rw [Tryz.results134,Lf.yE]) (zA ?_ ?_) ?_)<;>(try (first|exact zi|exact stT)))|(refine hK _ _ ?_;clear hK K))
theorem zkm (f q : Bool) (b : List UInt8) (n size : Int) (h1 : 1 ≤ size) (h2 : size ≤ 4) (h0 : 0 ≤ n) (hn : n ≤ zct size) (hb : b.length ≤ 1000000000) : AEq Tryz.prog 134 [.sl f q (b.map zf),i64 n,i64 size] [] (.tu [.sl false false ((b ++ beB n size.toNat).map zf),i64 0]) []:=by
 have htl:=j3 size h1 h2
 have hpd:=vU size.toNat (by omega)
 rw [htl] at hn
 refine zc Tryz.func134 rfl Tryz.ntmps134 (by simp) (fun hsc=>?_);simp only [Lf.enter,Nat.reduceAdd];clear hsc
 have hU:=True.intro
 repeat' (first|(refine goS ?_)|(refine za (fun K hK=>?_))|((refine zb (fun hcd=>?_) (fun hcd=>?_))<;>(try simp only [hcP] at hcd)<;>(try exact cdT))|(guard_target =~ rg _ _ _ (⟨_,_,_,_,_,some _⟩ :: _) _ _ _;(first|refine zH gT (fun hcd=>?_) (fun hcd=>?_)|refine zw gT (fun hcd=>?_) (fun hcd=>?_))<;>(try simp only [hcd])<;>(try (simp only [Bool.not_eq_true',Bool.not_eq_false'] at hcd;try simp only [hcd]))<;>(refine ku (Γ2:=_) ewT ?_)<;>(try simp only [hcP] at hcd)<;>(try exact cdT))|(refine zd (f:=179) rfl Tryz.call179 (h:=AEq.pure' (hc:=jI _ aoT aoT) (hq:=?_)))|(refine hK _ _ ?_;clear hK K))
 refine zz [8, 9, 27, 28, 29, 30, 31, 32, 33, 34, 35, 36, 37, 38, 39, 40, 41, 42, 43] (fun s : Nat × Nat => [(8, .row 0 s.2), (9, i64 s.1)]) (fun s => [.row s.2 5 1 ((b ++ (beB n size.toNat).take s.1).map zf)])
  (fun s=>s.1 ≤ size.toNat) (fun s=>size.toNat - s.1) (0,0) (Nat.zero_le _) ?_ (by simp) ?_
 ·(refine ⟨⟨_,sT,?_⟩,⟨_,sT,?_⟩,trivial⟩<;>(try (first|exact zi)))
 ·rintro ⟨i, s⟩ hi
  simp only [vf,List.map_cons,List.map_nil,List.cons_append,List.nil_append]
  dsimp only at hi ⊢
  have hbl:=zN n size.toNat
  by_cases hlt : i < size.toNat
  ·have hp := vU (size.toNat - 1 - i) (by omega)
   have hpn : (size - 1 - (i : Int)).toNat = size.toNat - 1 - i:=by omega
   have hw:=zen n (size.toNat - 1 - i)
   have hd:=zq7 n (ye (size.toNat - 1 - i)) h0 (by omega)
   have hg:=yH (zhO n size.toNat i hlt)
   have hU:=And.intro @hpn (@hw)
   repeat' (first|(refine goS ?_)|(refine za (fun K hK=>?_))|((refine zb (fun hcd=>?_) (fun hcd=>?_))<;>(try simp only [hcP] at hcd)<;>(try exact cdT))|(refine zd (f:=179) rfl Tryz.call179 (h:=AEq.pure' (hc:=jI _ (by omega) (by omega)) (hq:=?_)))|(refine hK _ _ ?_;clear hK K))
   refine ⟨(i + 1,s + 1),by simp only [];omega,by simp only [];omega,?_,arT,by simp [zf,hg]⟩
   (refine ⟨⟨_,sT,?_⟩,⟨_,sT,?_⟩,trivial⟩<;>(try (first|exact zi)))
  ·have he : i = size.toNat := by omega
   subst he
   repeat' (first|(refine goR ?_)|(refine za (fun K hK=>?_))|((refine zb (fun hcd=>?_) (fun hcd=>?_))<;>(try simp only [hcP] at hcd)<;>(try exact cdT))|((refine zh [] (by rw [Tryz.results134,Lf.yE]) (zA ?_ ?_) ?_)<;>(try (first|exact zi|exact stT)))|(refine hK _ _ ?_;clear hK K)|(apply_assumption (exfalso:=false) (symm:=false)))
   exact yc (by rw [List.take_of_length_le (by omega)])
theorem vI (f q : Bool) (b : List UInt8) (n size : Int) (hb : b.length ≤ 1000000000) : AEq Tryz.prog 134 [.sl f q (b.map zf),i64 n,i64 size] [] (.tu [.sl false false ((zaw b n size).map zf),i64 (yw n size)]) []:=by
 by_cases h : 1 ≤ size ∧ size ≤ 4
 ·by_cases h2 : n < 0 ∨ zct size < n
  ·have e : yw n size = 5 := by simp only [yw, yr h]; rw [if_neg (by simp), if_pos h2]
   have e2 : zaw b n size = []:=by simp [zaw,e]
   rw [e,e2];exact zf6 f q b n size h.1 h.2 h2
  ·have e : yw n size = 0 := by simp only [yw, yr h]; rw [if_neg (by simp), if_neg h2]
   have e2 : zaw b n size = b ++ beB n size.toNat:=by simp [zaw,e]
   rw [e,e2];exact zkm f q b n size h.1 h.2 (by omega) (by omega) hb
 ·have e : yw n size = 1 := by simp [yw, zbG h]
  have e2 : zaw b n size = []:=by simp [zaw,e]
  rw [e,e2];exact zkl f q b n size h
end Go.Proofs.YtdalcgfnlbofdaaGreatDoor
namespace Go.Proofs.YtdalcgfnlbofdaaGreatDoor
open Go Go.Lf Go.Proofs
attribute [local irreducible] Lf.rg Lf.ro Lf.PWp Lf.SOp Lf.ACall Lf.Scoped Lf.dg
set_option maxRecDepth 20000
set_option maxHeartbeats 4000000
theorem zkn (b : List UInt8) (n size : Int) : (zaw b n size).length ≤ b.length + 4:=by
 unfold zaw
 split
 ·rename_i h
  have : okS size = true:=by
   cases ho : okS size with
   | true=>rfl
   | false=>rw [yw,if_pos ho] at h;omega
  simp only [okS,Bool.and_eq_true,decide_eq_true_eq] at this
  rw [List.length_append,zN];omega
 ·simp
end Go.Proofs.YtdalcgfnlbofdaaGreatDoor
