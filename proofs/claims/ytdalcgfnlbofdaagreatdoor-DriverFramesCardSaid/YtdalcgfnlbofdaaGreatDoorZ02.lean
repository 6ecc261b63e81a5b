import Derived.Test.YtdalcgfnlbofdaaGreatDoorTg
import Derived.Test.YtdalcgfnlbofdaaGreatDoorZ01
import Derived.Test.YtdalcgfnlbofdaaGreatDoorLc
set_option linter.unusedVariables false
set_option linter.unusedSimpArgs false
namespace Go.Proofs.YtdalcgfnlbofdaaGreatDoor
open Go Go.Lf Go.Proofs
attribute [local irreducible] Lf.rg Lf.ro Lf.PWp Lf.SOp Lf.ACall Lf.Scoped Lf.dg Lf.dw
set_option maxRecDepth 20000
set_option maxHeartbeats 4000000
theorem znu (n p : Int) (h : 0 ≤ n) (hp : 0 < p) : 0 ≤ n / p ∧ n / p ≤ n:=⟨Int.ediv_nonneg h (by omega),Int.ediv_le_self _ h⟩
theorem zq4 (f : Bool) (l : List Int) (v n : Int) (hl : l.length ≤ 1000000000) : AEq Tryz.prog 230 [.sl f false (l.map y8),i64 v,i64 n] [] (.tu [.sl false false ((rpL l v n).map y8),i64 (rpE v n)]) []:=by
 by_cases hn : n < 0 ∨ 32 < n
 ·have h1 : rpE v n = 1 := if_pos hn
  have h2 : rpL l v n = l:=by simp [rpL,h1]
  rw [h1,h2]
  refine zc Tryz.func230 rfl Tryz.ntmps230 (by simp) (fun hsc=>?_);simp only [Lf.enter,Nat.reduceAdd];clear hsc
  have hU:=True.intro
  repeat' (first|(refine goR ?_)|(refine za (fun K hK=>?_))|((refine zb (fun hcd=>?_) (fun hcd=>?_))<;>(try simp only [hcP] at hcd)<;>(try exact cdT))|((refine ze [] (by rw [Tryz.results230,Lf.yb]) (zu ?_ ?_) ?_)<;>(try (first|exact zh|exact stT)))|(refine hK _ _ ?_;clear hK K))
 have hp : (2 : Int) ^ n.toNat ≤ 4294967296 ∧ 1 ≤ (2 : Int) ^ n.toNat:=by
  have h1 : 2 ^ n.toNat ≤ 2 ^ 32:=Nat.pow_le_pow_right (by decide) (by omega)
  have h2 : 0 < 2 ^ n.toNat:=Nat.pow_pos (by decide)
  have e : (2 : Int) ^ n.toNat = ((2 ^ n.toNat : Nat) : Int):=by simp
  rw [e];omega
 by_cases hv : v < 0 ∨ 2 ^ n.toNat ≤ v
 ·have h1 : rpE v n = 5 := by simp only [rpE]; rw [if_neg hn, if_pos hv]
  have h2 : rpL l v n = l:=by simp [rpL,h1]
  rw [h1,h2]
  refine zc Tryz.func230 rfl Tryz.ntmps230 (by simp) (fun hsc=>?_);simp only [Lf.enter,Nat.reduceAdd];clear hsc
  have hU:=True.intro
  repeat' (first|(refine goR ?_)|(refine za (fun K hK=>?_))|((refine zb (fun hcd=>?_) (fun hcd=>?_))<;>(try simp only [hcP] at hcd)<;>(try exact cdT))|(guard_target =~ rg _ _ _ (⟨_,_,_,_,_,some _⟩ :: _) _ _ _;(first|refine zv gT (fun hcd=>?_) (fun hcd=>?_)|refine zp gT (fun hcd=>?_) (fun hcd=>?_))<;>(try simp only [hcd])<;>(try (simp only [Bool.not_eq_true',Bool.not_eq_false'] at hcd;try simp only [hcd]))<;>(refine vC (Γ2:=_) ewT ?_)<;>(try simp only [hcP] at hcd)<;>(try exact cdT))|(refine zd (f:=241) rfl Tryz.call241 (h:=AEq.pure' agT (zut _ (by omega) (by omega)) (hq:=?_)))|((refine ze [] (by rw [Tryz.results230,Lf.yb]) (zu ?_ ?_) ?_)<;>(try (first|exact zh|exact stT)))|(refine hK _ _ ?_;clear hK K))
 have h1 : rpE v n = 0:=by simp only [rpE];rw [if_neg hn,if_neg hv]
 have h2 : rpL l v n = l ++ msb v n.toNat:=by simp [rpL,h1]
 rw [h1,h2]
 generalize hM : l ++ msb v n.toNat = M
 refine zc Tryz.func230 rfl Tryz.ntmps230 (by simp) (fun hsc=>?_);simp only [Lf.enter,Nat.reduceAdd];clear hsc
 have hU:=True.intro
 repeat' (first|(refine goS ?_)|(refine za (fun K hK=>?_))|((refine zb (fun hcd=>?_) (fun hcd=>?_))<;>(try simp only [hcP] at hcd)<;>(try exact cdT))|(guard_target =~ rg _ _ _ (⟨_,_,_,_,_,some _⟩ :: _) _ _ _;(first|refine zv gT (fun hcd=>?_) (fun hcd=>?_)|refine zp gT (fun hcd=>?_) (fun hcd=>?_))<;>(try simp only [hcd])<;>(try (simp only [Bool.not_eq_true',Bool.not_eq_false'] at hcd;try simp only [hcd]))<;>(refine vC (Γ2:=_) ewT ?_)<;>(try simp only [hcP] at hcd)<;>(try exact cdT))|(refine zd (f:=241) rfl Tryz.call241 (h:=AEq.pure' agT (zut _ (by omega) (by omega)) (hq:=?_)))|(refine hK _ _ ?_;clear hK K))
 refine zo [8,9,31,32,33,34,35,36,37,38,39,40,41,42] (fun s : List Int × Nat × Nat=>[(8,.row 0 s.2.2),(9,i64 (s.2.1 - 1))]) (fun s=>[.row s.2.2 3 1 (s.1.map y8)]) (fun s=>s.1 ++ msb v s.2.1 = M ∧ s.2.1 ≤ 32 ∧ s.1.length + s.2.1 ≤ 1000000032) (fun s=>s.2.1) (l,n.toNat,0) ⟨hM,by dsimp only;omega,by dsimp only;omega⟩ ?_ (by first|rfl|(simp;done)|fail) ?_
 ·(refine ⟨⟨_, sT, ?_⟩, ⟨_, sT, ?_⟩, trivial⟩ <;> (try (first | exact zh)))
  all_goals exact zT (by dsimp only;omega)
 ·rintro ⟨C, m, s⟩ ⟨hk, hm, hC⟩
  dsimp only at hk hm hC
  simp only [yn,List.map_cons,List.map_nil,List.cons_append,List.nil_append]
  cases m with
  | zero=>
   rw [msb,List.append_nil] at hk
   subst hk
   repeat' (first|(refine goR ?_)|(refine za (fun K hK=>?_))|((refine zb (fun hcd=>?_) (fun hcd=>?_))<;>(try simp only [hcP] at hcd)<;>(try exact cdT))|((refine ze [] (by rw [Tryz.results230,Lf.yb]) (zu ?_ ?_) ?_)<;>(try (first|exact zh|exact stT)))|(refine hK _ _ ?_;clear hK K)|(apply_assumption (exfalso:=false) (symm:=false)))
  | succ m=>
   have hk2 : (C ++ [v / 2 ^ m % 2]) ++ msb v m = M:=by rw [← hk];simp [msb]
   have hl2 : (C ++ [v / 2 ^ m % 2]).length = C.length + 1:=by simp
   have hpm : (2 : Int) ^ m ≤ 4294967296 ∧ 1 ≤ (2 : Int) ^ m:=by
    have h1 : 2 ^ m ≤ 2 ^ 32:=Nat.pow_le_pow_right (by decide) (by omega)
    have h2 : 0 < 2 ^ m:=Nat.pow_pos (by decide)
    have e : (2 : Int) ^ m = ((2 ^ m : Nat) : Int):=by simp
    rw [e];omega
   have hq:=znu v (2 ^ m) (by omega) (by omega)
   have hmm : (((m + 1 : Nat) : Int) - 1).toNat = m:=by omega
   have hU:=@hmm
   repeat' (first|(refine goS ?_)|(refine za (fun K hK=>?_))|((refine zb (fun hcd=>?_) (fun hcd=>?_))<;>(try simp only [hcP] at hcd)<;>(try exact cdT))|(refine zd (f:=241) rfl Tryz.call241 (h:=AEq.pure' agT (zut _ aoT aoT) (hq:=?_)))|(refine hK _ _ ?_;clear hK K))
   refine ⟨(C ++ [v / 2 ^ m % 2],m,s + 1),⟨hk2,by dsimp only;omega,by dsimp only;omega⟩,by dsimp only;omega,?_,arT,by first|(simp [y8];done)|fail⟩
   (refine ⟨⟨_,sT,?_⟩,⟨_,sT,?_⟩,trivial⟩<;>(try (first|exact zh)))
   all_goals exact zT (by dsimp only;omega)
def zdZ (L : List Int) (n : Nat) : List UInt8:=(List.range n).map fun c=>UInt8.ofNat (ye (chunk L c)).toNat
theorem zfY (L : List Int) (n : Nat) : zdZ L (n + 1) = zdZ L n ++ [UInt8.ofNat (ye (chunk L n)).toNat]:=by simp [zdZ,List.range_succ]
theorem zhq (L : List Int) (c k : Nat) (h : k < 8) : (chunk L c)[k]? = some (L.getD (8 * c + k) 1):=by
 simp only [chunk,List.getElem?_map]
 rw [List.getElem?_range h];rfl
theorem znv (L : List Int) (h : ∀ x ∈ L,x = 0 ∨ x = 1) (c : Nat) : ∀ x ∈ chunk L c,x = 0 ∨ x = 1:=by
 intro x hx
 simp only [chunk,List.mem_map,List.mem_range] at hx
 obtain ⟨k,_,rfl⟩:=hx
 rw [List.getD_eq_getElem?_getD]
 cases hg : L[8 * c + k]? with
 | none=>exact .inr rfl
 | some y=>exact h y (List.mem_of_getElem? hg)
theorem zq5 (f q : Bool) (l : List Int) (h01 : ∀ x ∈ l,x = 0 ∨ x = 1) (hl : l.length ≤ 1000000000) : AEq Tryz.prog 232 [.sl f q (l.map y8)] [] (.sl false false ((zfX l).map zf)) []:=by
 refine zc Tryz.func232 rfl Tryz.ntmps232 (by simp) (fun hsc=>?_);simp only [Lf.enter,Nat.reduceAdd];clear hsc
 have hU:=True.intro
 repeat' (first|(refine goR ?_)|(refine za (fun K hK=>?_))|(refine hK _ _ ?_;clear hK K))
 refine yp 3 5 1 (by decide) (by rfl) rfl rfl ?_
 refine zo [3,4,5,6,7,8,9,10,11,12,13,14,15,16,17,18,19,20,21,22,23,24,25,26,27,28,29,30,31,32,33,34,35,36,37,38,39] (fun s : Nat × Nat=>[(3,.row 0 s.2),(4,i64 (8 * s.1))]) (fun s=>[.row s.2 5 1 ((zdZ l s.1).map zf)]) (fun s=>s.1 ≤ (l.length + 7) / 8) (fun s=>(l.length + 7) / 8 - s.1) (0,0) (Nat.zero_le _) ?_ rfl ?_
 ·(refine ⟨⟨_,sT,?_⟩,⟨_,sT,?_⟩,trivial⟩<;>(try (first|exact zh)))
 ·rintro ⟨c, s⟩ hc
  simp only [yn,List.map_cons,List.map_nil,List.cons_append,List.nil_append]
  dsimp only at hc ⊢
  by_cases hlt : 8 * c < l.length
  ·have hpl : (zdZ l c).length = c := by simp [zdZ]
   have hsn:=zfY l c
   have hc01:=znv l h01 c
   have hcg:=zhq l c
   have hcl : (chunk l c).length = 8:=by simp [chunk]
   have hfull:=zbF (chunk l c) hc01
   rw [hcl] at hfull
   repeat' (first|(refine goR ?_)|(refine za (fun K hK=>?_))|((refine zb (fun hcd=>?_) (fun hcd=>?_))<;>(try simp only [hcP] at hcd)<;>(try exact cdT))|(refine hK _ _ ?_;clear hK K))
   generalize zdZ l c = PC at *
   generalize hch : chunk l c = ch at *
   refine zo [5,6,13,14,15,16,17,18,19,20,21,22,23,24,25,26,27,28,29,30,31,32,33,34] (fun k : Nat=>[(5,i64 (ye (ch.take k))),(6,i64 k)]) (fun _=>[.row s 5 1 (PC.map zf)]) (fun k=>k ≤ 8) (fun k=>8 - k) 0 (by omega) ?_ rfl ?_
   ·(refine ⟨⟨_,sT,?_⟩,⟨_,sT,?_⟩,trivial⟩<;>(try (first|exact zh)))
   ·rintro k hk
    simp only [yn,List.map_cons,List.map_nil,List.cons_append,List.nil_append]
    have hbd:=zdg (ch.take k) (fun x hx=>hc01 x (List.mem_of_mem_take hx)) (by rw [List.length_take];omega)
    by_cases hk8 : k < 8
    ·have hg := hcg k hk8
     by_cases hin : 8 * c + k < l.length
     ·obtain ⟨x, hx⟩ : ∃ x, l[8 * c + k]? = some x := ⟨l[8 * c + k], List.getElem?_eq_getElem hin⟩
      rw [List.getD_eq_getElem?_getD,hx,Option.getD_some] at hg
      have hsn2:=j2 (ch.take k) x
      rw [← z9 hg] at hsn2
      have hx01:=h01 x (List.mem_of_getElem? hx)
      have hix : l[(8 * (c : Int) + (k : Int)).toNat]? = some x:=by rw [show (8 * (c : Int) + (k : Int)).toNat = 8 * c + k from by omega];exact hx
      repeat' (first|(refine goR ?_)|(refine za (fun K hK=>?_))|((refine zb (fun hcd=>?_) (fun hcd=>?_))<;>(try simp only [hcP] at hcd)<;>(try exact cdT))|(refine hK _ _ ?_;clear hK K))
      refine ⟨k + 1,by omega,by omega,?_,arT,srT⟩
      (refine ⟨⟨_,sT,?_⟩,⟨_,sT,?_⟩,trivial⟩<;>(try (first|exact zh)))
      all_goals exact zT (by first|exact hsn2.symm|omega)
     ·rw [List.getD_eq_getElem?_getD, List.getElem?_eq_none (Nat.not_lt.1 hin), Option.getD_none] at hg
      have hsn2:=j2 (ch.take k) 1
      rw [← z9 hg] at hsn2
      repeat' (first|(refine goR ?_)|(refine za (fun K hK=>?_))|((refine zb (fun hcd=>?_) (fun hcd=>?_))<;>(try simp only [hcP] at hcd)<;>(try exact cdT))|(refine hK _ _ ?_;clear hK K))
      refine ⟨k + 1,by omega,by omega,?_,arT,srT⟩
      (refine ⟨⟨_,sT,?_⟩,⟨_,sT,?_⟩,trivial⟩<;>(try (first|exact zh)))
      all_goals exact zT (by first|exact hsn2.symm|omega)
    ·have h8 : k = 8 := by omega
     subst h8
     have hal : ch.take 8 = ch:=List.take_of_length_le (by omega)
     rw [hal]
     have hbv : ((UInt8.ofNat (ye ch).toNat).toNat : Int) = ye ch:=by rw [UInt8.toNat_ofNat_of_lt' (by simp;omega)];omega
     repeat' (first|(refine goS ?_)|(refine za (fun K hK=>?_))|((refine zb (fun hcd=>?_) (fun hcd=>?_))<;>(try simp only [hcP] at hcd)<;>(try exact cdT))|(refine hK _ _ ?_;clear hK K)|(apply_assumption (exfalso:=false) (symm:=false)))
     refine ⟨(c + 1,s + 1),by dsimp only;omega,by dsimp only;omega,?_,arT,by first|(dsimp only;rw [hsn];simp only [List.map_append,List.map_cons,List.map_nil,zf,hbv];done)|fail⟩
     (refine ⟨⟨_,sT,?_⟩,⟨_,sT,?_⟩,trivial⟩<;>(try (first|exact zh)))
     all_goals exact zT (by dsimp only;omega)
  ·repeat' (first | (refine goR ?_) | (refine za (fun K hK => ?_)) | ((refine zb (fun hcd => ?_) (fun hcd => ?_)) <;> (try simp only [hcP] at hcd) <;> (try exact cdT)) | ((refine ze [] (by rw [Tryz.results232, Lf.zt]) (zj ?_) ?_) <;> (try (first | exact zh | exact stT))) | (refine hK _ _ ?_; clear hK K) | (apply_assumption (exfalso := false) (symm := false)))
   exact zA (by rw [show c = (l.length + 7) / 8 from by omega];rfl)
end Go.Proofs.YtdalcgfnlbofdaaGreatDoor
namespace Go.Lf
open Go
end Go.Lf
namespace Go.Proofs.YtdalcgfnlbofdaaGreatDoor
open Go Go.Lf Go.Proofs
attribute [local irreducible] Lf.rg Lf.ro Lf.PWp Lf.SOp Lf.ACall Lf.Scoped Lf.dg Lf.dw
set_option maxRecDepth 20000
set_option maxHeartbeats 4000000
def lenT : List UInt8:=[73,83,88,88,88,88,88,88,88,84,90,88,88,90,88,88,88,88,88,88,88,88,90,88,88,88,88,88,88,88,88,88,66,70,70,72,73,66,68,71,70,70,68,71,68,66,66,66,65,65,65,66,66,66,66,66,66,66,67,68,75,66,72,70,73,66,67,67,67,67,67,67,67,67,67,67,67,67,67,67,67,67,67,67,67,67,67,67,68,67,68,73,79,73,74,66,75,65,66,65,66,65,66,66,66,65,67,67,66,66,66,65,66,67,66,65,65,66,67,67,67,67,67,75,71,74,73,88,80,82,80,80,82,82,82,83,82,83,83,83,83,83,84,83,84,84,82,83,84,83,83,83,83,81,82,83,82,83,83,84,82,81,80,82,82,83,83,81,83,82,82,84,81,82,83,83,81,81,82,81,83,82,83,83,80,82,82,82,83,82,82,83,86,86,80,79,82,83,82,85,86,86,86,87,87,86,84,85,79,81,86,87,87,86,87,84,81,81,86,86,88,87,87,87,80,84,80,81,82,81,81,83,82,82,85,85,84,84,86,83,86,87,86,86,87,87,87,87,87,88,87,87,87,87,87,86,90]
theorem zeY : lenT.length = 257:=by decide +kernel
theorem zhr : ∀ i : Fin 257,65 ≤ (lenT.getD i.val 0).toNat ∧ (lenT.getD i.val 0).toNat ≤ 90:=by decide +kernel
def szI (s : Int) : Int:=((lenT.getD s.toNat 0).toNat : Int) - 60
theorem zhs {s : Int} (h0 : 0 ≤ s) (h1 : s ≤ 256) : 5 ≤ szI s ∧ szI s ≤ 30:=by
 have:=zhr ⟨s.toNat,by omega⟩
 unfold szI
 dsimp only at this
 omega
theorem znw {s : Int} (h0 : 0 ≤ s) (h1 : s ≤ 256) : zaG Tryz.prog 9 (.lit (.string ({ data:=(((73 :: 83 :: 88 :: 88 :: 88 :: 88 :: 88 :: 88 :: 88 :: 84 :: 90 :: 88 :: 88 :: 90 :: 88 :: 88 :: 88 :: 88 :: 88 :: 88 :: 88 :: 88 :: 90 :: 88 :: 88 :: 88 :: 88 :: 88 :: 88 :: 88 :: 88 :: 88 :: 66 :: 70 :: 70 :: 72 :: 73 :: 66 :: 68 :: 71 :: 70 :: 70 :: 68 :: 71 :: 68 :: 66 :: 66 :: 66 :: 65 :: 65 :: 65 :: 66 :: 66 :: 66 :: 66 :: 66 :: 66 :: 66 :: 67 :: 68 :: 75 :: 66 :: 72 :: 70 :: []).append (73 :: 66 :: 67 :: 67 :: 67 :: 67 :: 67 :: 67 :: 67 :: 67 :: 67 :: 67 :: 67 :: 67 :: 67 :: 67 :: 67 :: 67 :: 67 :: 67 :: 67 :: 67 :: 67 :: 67 :: 68 :: 67 :: 68 :: 73 :: 79 :: 73 :: 74 :: 66 :: 75 :: 65 :: 66 :: 65 :: 66 :: 65 :: 66 :: 66 :: 66 :: 65 :: 67 :: 67 :: 66 :: 66 :: 66 :: 65 :: 66 :: 67 :: 66 :: 65 :: 65 :: 66 :: 67 :: 67 :: 67 :: 67 :: 67 :: 75 :: 71 :: 74 :: 73 :: 88 :: [])).append ((80 :: 82 :: 80 :: 80 :: 82 :: 82 :: 82 :: 83 :: 82 :: 83 :: 83 :: 83 :: 83 :: 83 :: 84 :: 83 :: 84 :: 84 :: 82 :: 83 :: 84 :: 83 :: 83 :: 83 :: 83 :: 81 :: 82 :: 83 :: 82 :: 83 :: 83 :: 84 :: 82 :: 81 :: 80 :: 82 :: 82 :: 83 :: 83 :: 81 :: 83 :: 82 :: 82 :: 84 :: 81 :: 82 :: 83 :: 83 :: 81 :: 81 :: 82 :: 81 :: 83 :: 82 :: 83 :: 83 :: 80 :: 82 :: 82 :: 82 :: 83 :: 82 :: 82 :: 83 :: []).append ((86 :: 86 :: 80 :: 79 :: 82 :: 83 :: 82 :: 85 :: 86 :: 86 :: 86 :: 87 :: 87 :: 86 :: 84 :: 85 :: 79 :: 81 :: 86 :: 87 :: 87 :: 86 :: 87 :: 84 :: 81 :: 81 :: 86 :: 86 :: 88 :: 87 :: 87 :: 87 :: []).append (80 :: 84 :: 80 :: 81 :: 82 :: 81 :: 81 :: 83 :: 82 :: 82 :: 85 :: 85 :: 84 :: 84 :: 86 :: 83 :: 86 :: 87 :: 86 :: 86 :: 87 :: 87 :: 87 :: 87 :: 87 :: 88 :: 87 :: 87 :: 87 :: 87 :: 87 :: 86 :: 90 :: [])))).toArray }))) (.lit (.int .i64 s)) = some (.lit (.int .u8 ((lenT.getD s.toNat 0).toNat : Nat))):=by
 have hd : ({ data:=(((73 :: 83 :: 88 :: 88 :: 88 :: 88 :: 88 :: 88 :: 88 :: 84 :: 90 :: 88 :: 88 :: 90 :: 88 :: 88 :: 88 :: 88 :: 88 :: 88 :: 88 :: 88 :: 90 :: 88 :: 88 :: 88 :: 88 :: 88 :: 88 :: 88 :: 88 :: 88 :: 66 :: 70 :: 70 :: 72 :: 73 :: 66 :: 68 :: 71 :: 70 :: 70 :: 68 :: 71 :: 68 :: 66 :: 66 :: 66 :: 65 :: 65 :: 65 :: 66 :: 66 :: 66 :: 66 :: 66 :: 66 :: 66 :: 67 :: 68 :: 75 :: 66 :: 72 :: 70 :: []).append (73 :: 66 :: 67 :: 67 :: 67 :: 67 :: 67 :: 67 :: 67 :: 67 :: 67 :: 67 :: 67 :: 67 :: 67 :: 67 :: 67 :: 67 :: 67 :: 67 :: 67 :: 67 :: 67 :: 67 :: 68 :: 67 :: 68 :: 73 :: 79 :: 73 :: 74 :: 66 :: 75 :: 65 :: 66 :: 65 :: 66 :: 65 :: 66 :: 66 :: 66 :: 65 :: 67 :: 67 :: 66 :: 66 :: 66 :: 65 :: 66 :: 67 :: 66 :: 65 :: 65 :: 66 :: 67 :: 67 :: 67 :: 67 :: 67 :: 75 :: 71 :: 74 :: 73 :: 88 :: [])).append ((80 :: 82 :: 80 :: 80 :: 82 :: 82 :: 82 :: 83 :: 82 :: 83 :: 83 :: 83 :: 83 :: 83 :: 84 :: 83 :: 84 :: 84 :: 82 :: 83 :: 84 :: 83 :: 83 :: 83 :: 83 :: 81 :: 82 :: 83 :: 82 :: 83 :: 83 :: 84 :: 82 :: 81 :: 80 :: 82 :: 82 :: 83 :: 83 :: 81 :: 83 :: 82 :: 82 :: 84 :: 81 :: 82 :: 83 :: 83 :: 81 :: 81 :: 82 :: 81 :: 83 :: 82 :: 83 :: 83 :: 80 :: 82 :: 82 :: 82 :: 83 :: 82 :: 82 :: 83 :: []).append ((86 :: 86 :: 80 :: 79 :: 82 :: 83 :: 82 :: 85 :: 86 :: 86 :: 86 :: 87 :: 87 :: 86 :: 84 :: 85 :: 79 :: 81 :: 86 :: 87 :: 87 :: 86 :: 87 :: 84 :: 81 :: 81 :: 86 :: 86 :: 88 :: 87 :: 87 :: 87 :: []).append (80 :: 84 :: 80 :: 81 :: 82 :: 81 :: 81 :: 83 :: 82 :: 82 :: 85 :: 85 :: 84 :: 84 :: 86 :: 83 :: 86 :: 87 :: 86 :: 86 :: 87 :: 87 :: 87 :: 87 :: 87 :: 88 :: 87 :: 87 :: 87 :: 87 :: 87 :: 86 :: 90 :: [])))).toArray } : ByteArray).data = lenT.toArray:=by kernel_rfl
 generalize ({ data:=(((73 :: 83 :: 88 :: 88 :: 88 :: 88 :: 88 :: 88 :: 88 :: 84 :: 90 :: 88 :: 88 :: 90 :: 88 :: 88 :: 88 :: 88 :: 88 :: 88 :: 88 :: 88 :: 90 :: 88 :: 88 :: 88 :: 88 :: 88 :: 88 :: 88 :: 88 :: 88 :: 66 :: 70 :: 70 :: 72 :: 73 :: 66 :: 68 :: 71 :: 70 :: 70 :: 68 :: 71 :: 68 :: 66 :: 66 :: 66 :: 65 :: 65 :: 65 :: 66 :: 66 :: 66 :: 66 :: 66 :: 66 :: 66 :: 67 :: 68 :: 75 :: 66 :: 72 :: 70 :: []).append (73 :: 66 :: 67 :: 67 :: 67 :: 67 :: 67 :: 67 :: 67 :: 67 :: 67 :: 67 :: 67 :: 67 :: 67 :: 67 :: 67 :: 67 :: 67 :: 67 :: 67 :: 67 :: 67 :: 67 :: 68 :: 67 :: 68 :: 73 :: 79 :: 73 :: 74 :: 66 :: 75 :: 65 :: 66 :: 65 :: 66 :: 65 :: 66 :: 66 :: 66 :: 65 :: 67 :: 67 :: 66 :: 66 :: 66 :: 65 :: 66 :: 67 :: 66 :: 65 :: 65 :: 66 :: 67 :: 67 :: 67 :: 67 :: 67 :: 75 :: 71 :: 74 :: 73 :: 88 :: [])).append ((80 :: 82 :: 80 :: 80 :: 82 :: 82 :: 82 :: 83 :: 82 :: 83 :: 83 :: 83 :: 83 :: 83 :: 84 :: 83 :: 84 :: 84 :: 82 :: 83 :: 84 :: 83 :: 83 :: 83 :: 83 :: 81 :: 82 :: 83 :: 82 :: 83 :: 83 :: 84 :: 82 :: 81 :: 80 :: 82 :: 82 :: 83 :: 83 :: 81 :: 83 :: 82 :: 82 :: 84 :: 81 :: 82 :: 83 :: 83 :: 81 :: 81 :: 82 :: 81 :: 83 :: 82 :: 83 :: 83 :: 80 :: 82 :: 82 :: 82 :: 83 :: 82 :: 82 :: 83 :: []).append ((86 :: 86 :: 80 :: 79 :: 82 :: 83 :: 82 :: 85 :: 86 :: 86 :: 86 :: 87 :: 87 :: 86 :: 84 :: 85 :: 79 :: 81 :: 86 :: 87 :: 87 :: 86 :: 87 :: 84 :: 81 :: 81 :: 86 :: 86 :: 88 :: 87 :: 87 :: 87 :: []).append (80 :: 84 :: 80 :: 81 :: 82 :: 81 :: 81 :: 83 :: 82 :: 82 :: 85 :: 85 :: 84 :: 84 :: 86 :: 83 :: 86 :: 87 :: 86 :: 86 :: 87 :: 87 :: 87 :: 87 :: 87 :: 88 :: 87 :: 87 :: 87 :: 87 :: 87 :: 86 :: 90 :: [])))).toArray } : ByteArray) = str at hd ⊢
 unfold zaG
 rw [show Tryz.prog.underlying 9 = some .string from by rfl]
 dsimp only
 have hs : str.size = lenT.length:=by rw [show str.size = str.data.size from rfl,hd];simp
 have hj : s.toNat < lenT.length:=by rw [zeY];omega
 rw [if_pos ⟨h0,by rw [hs,zeY];omega⟩,hd]
 congr 4
 simp [Array.getD,List.getD,hj]
theorem zkd (s : Int) (h0 : 0 ≤ s) (h1 : s ≤ 256) : AEq Tryz.prog 247 [i64 s] [] (i64 (szI s)) []:=by
 have hb:=zhr ⟨s.toNat,by omega⟩
 dsimp only at hb
 have hsz : szI s = ((lenT.getD s.toNat 0).toNat : Int) - 60:=rfl
 rw [hsz]
 have hix:=znw h0 h1
 obtain ⟨x,hx⟩ : ∃ x,lenT.getD s.toNat 0 = x:=⟨_,rfl⟩
 rw [hx] at hb hix ⊢
 simp only [go_sem,seval,↓reduceIte] at hix
 refine zc Tryz.func247 rfl Tryz.ntmps247 (by simp) (fun hsc=>?_);simp only [Lf.enter,Nat.reduceAdd];clear hsc
 have hU:=@hix
 repeat' (first|(refine goR ?_)|(refine za (fun K hK=>?_))|((refine ze [] (by rw [Tryz.results247,Lf.zt]) (zj ?_) ?_)<;>(try (first|exact zh|exact stT)))|(refine hK _ _ ?_;clear hK K))
 all_goals exact zT (by omega)
end Go.Proofs.YtdalcgfnlbofdaaGreatDoor
