import Derived.Test.YtdalcgfnlbofdaaGreatDoorTg
import Derived.Test.YtdalcgfnlbofdaaGreatDoorZ02
import Derived.Test.YtdalcgfnlbofdaaGreatDoorLc
set_option linter.unusedVariables false
set_option linter.unusedSimpArgs false
namespace Go.Proofs.YtdalcgfnlbofdaaGreatDoor
open Go Go.Lf Go.Proofs
attribute [local irreducible] Lf.rg Lf.ro Lf.PWp Lf.SOp Lf.ACall Lf.Scoped Lf.dg Lf.dw
set_option maxRecDepth 20000
set_option maxHeartbeats 4000000
structure Bk where
 (codes : List Int) (o : AV) (first count base : List Int)
def nA (n : Int) : AV:=i64 n
def bkA (b : Bk) : List AV:=bl true :: (b.codes.map nA ++ b.o :: (b.first.map nA ++ (b.count.map nA ++ b.base.map nA)))
structure WfB (b : Bk) : Prop where
 c : b.codes.length = 257
 f : b.first.length = 31
 n : b.count.length = 31
 b : b.base.length = 31
theorem zaY {b : Bk} (h : WfB b) : (bkA b).length = 352:=by
 obtain ⟨h1,h2,h3,h4⟩:=h
 unfold bkA;simp [h1,h2,h3,h4]
theorem zaZ {α : Type} (a c : List AV) (k : Nat) (v : AV) : putCells (a ++ c) (a.length + k) [v] = a ++ putCells c k [v]:=by
 unfold putCells
 rw [List.take_append,List.drop_append,List.take_of_length_le (by omega),show a.length + k - a.length = k from by omega,List.drop_of_length_le (by simp;omega),List.nil_append]
 simp only [List.append_assoc,List.length_cons,List.length_nil]
 congr 4;omega
theorem zck (l : List Int) (k : Nat) (r : List AV) (v : Int) (h : k < l.length) : putCells (l.map nA ++ r) k [nA v] = (l.set k v).map nA ++ r:=by
 unfold putCells
 rw [List.take_append_of_le_length (by simp;omega),List.drop_append_of_le_length (by simp;omega),List.map_set,List.set_eq_take_append_cons_drop,if_pos (by simpa using h)]
 simp
theorem zke {b : Bk} (h : WfB b) {n : Nat} (hn : n < 31) (v : Int) : putCells (bkA b) (290 + n) [nA v] = bkA { b with count:=b.count.set n v }:=by
 obtain ⟨h1,h2,h3,h4⟩:=h
 have e : bkA b = (bl true :: (b.codes.map nA ++ b.o :: b.first.map nA)) ++ (b.count.map nA ++ b.base.map nA):=by unfold bkA;simp
 have hl : (bl true :: (b.codes.map nA ++ b.o :: b.first.map nA)).length = 290:=by simp [h1,h2]
 rw [e,← hl,zaZ (α:=Nat),zck _ _ _ _ (by omega)]
 unfold bkA;simp
theorem zd0 {b : Bk} (h : WfB b) {n : Nat} {v : Int} (hv : b.count[n]? = some v) : (bkA b)[290 + n]? = some (nA v):=by
 obtain ⟨h1,h2,h3,h4⟩:=h
 have e : bkA b = (bl true :: (b.codes.map nA ++ b.o :: b.first.map nA)) ++ (b.count.map nA ++ b.base.map nA):=by unfold bkA;simp
 have hl : (bl true :: (b.codes.map nA ++ b.o :: b.first.map nA)).length = 290:=by simp [h1,h2]
 have hn : n < b.count.length:=(List.getElem?_eq_some_iff.1 hv).1
 rw [e,← hl,List.getElem?_append_right (by omega),show ∀ m : Nat,m + n - m = n from fun m=>by omega,List.getElem?_append_left (by simpa using hn),List.getElem?_map,hv];rfl
def cntN (k : Nat) (n : Nat) : Int:=(((List.range k).filter (fun s : Nat=>decide (szI (s : Int) = (n : Int)))).length : Int)
theorem zht {k n : Nat} (h : k ≤ 257) : 0 ≤ cntN k n ∧ cntN k n ≤ 257:=by
 unfold cntN
 have:=List.length_filter_le (fun s : Nat=>decide (szI (s : Int) = (n : Int))) (List.range k)
 rw [List.length_range] at this
 omega
def zd1 (k : Nat) : List Int:=(List.range 31).map (cntN k)
theorem jt (k n : Nat) : cntN (k + 1) n = cntN k n + if szI (k : Int) = n then 1 else 0:=by
 unfold cntN
 rw [List.range_succ,List.filter_append,List.length_append]
 by_cases h : szI (k : Int) = n
 ·simp [h]
 ·simp [h]
theorem zkf (k n : Nat) (hn : n < 31) (h : szI (k : Int) = n) : (zd1 k).set n (cntN k n + 1) = zd1 (k + 1):=by
 apply List.ext_getElem?
 intro i
 unfold zd1
 by_cases hi : i < 31
 ·by_cases e : i = n
  ·subst e
   rw [List.getElem?_set_self (by simpa using hi),List.getElem?_map,List.getElem?_range hi,Option.map_some,jt,if_pos h]
  ·rw [List.getElem?_set_ne (fun c=>e c.symm),List.getElem?_map,List.getElem?_map,List.getElem?_range hi,Option.map_some,Option.map_some,jt,if_neg (by rw [h];omega),Int.add_zero]
 ·rw [List.getElem?_eq_none (by simp;omega),List.getElem?_eq_none (by simp;omega)]
def zta : List Int:=List.replicate 257 0
def z31 : List Int:=List.replicate 31 0
def b1 (k : Nat) : Bk:=⟨zta,.sl true false [],z31,zd1 k,z31⟩
theorem zhu (k : Nat) : WfB (b1 k):=⟨by simp [b1,zta],by simp [b1,z31],by simp [b1,zd1],by simp [b1,z31]⟩
theorem zkg {b : Bk} (h : WfB b) {n : Nat} (hn : n < 257) (v : Int) : putCells (bkA b) (1 + n) [nA v] = bkA { b with codes:=b.codes.set n v }:=by
 obtain ⟨h1,h2,h3,h4⟩:=h
 have e : bkA b = [bl true] ++ (b.codes.map nA ++ (b.o :: (b.first.map nA ++ (b.count.map nA ++ b.base.map nA)))):=by unfold bkA;simp
 have hl : ([bl true] : List AV).length = 1:=rfl
 rw [e,← hl,zaZ (α:=Nat),zck _ _ _ _ (by omega)]
 unfold bkA;simp
theorem zAE {b : Bk} (h : WfB b) (x : AV) : putCells (bkA b) 258 [x] = bkA { b with o:=x }:=by
 obtain ⟨h1,h2,h3,h4⟩:=h
 have e : bkA b = (bl true :: b.codes.map nA) ++ (b.o :: (b.first.map nA ++ (b.count.map nA ++ b.base.map nA))):=by unfold bkA;simp
 have hl : (bl true :: b.codes.map nA).length = 258:=by simp [h1]
 rw [e,show (258 : Nat) = (bl true :: b.codes.map nA).length + 0 from by rw [hl],zaZ (α:=Nat)]
 unfold bkA putCells;simp
theorem zd2 {b : Bk} (h : WfB b) : (bkA b)[258]? = some b.o:=by
 obtain ⟨h1,h2,h3,h4⟩:=h
 have e : bkA b = (bl true :: b.codes.map nA) ++ (b.o :: (b.first.map nA ++ (b.count.map nA ++ b.base.map nA))):=by unfold bkA;simp
 have hl : (bl true :: b.codes.map nA).length = 258:=by simp [h1]
 rw [e,List.getElem?_append_right (by omega),hl];rfl
theorem zkh {b : Bk} (h : WfB b) {x : AV} : (bkA b).set 258 x = bkA { b with o:=x }:=by
 have h1:=h.c
 have hl : (b.codes.map nA).length = 257:=by simp [h1]
 unfold bkA
 rw [List.set_cons_succ,List.set_append_right _ _ (by omega),hl];rfl
theorem zki {b : Bk} (h : WfB b) {n : Nat} (hn : n < 31) (v : Int) : putCells (bkA b) (259 + n) [nA v] = bkA { b with first:=b.first.set n v }:=by
 obtain ⟨h1,h2,h3,h4⟩:=h
 have e : bkA b = (bl true :: (b.codes.map nA ++ [b.o])) ++ (b.first.map nA ++ (b.count.map nA ++ b.base.map nA)):=by unfold bkA;simp
 have hl : (bl true :: (b.codes.map nA ++ [b.o])).length = 259:=by simp [h1]
 rw [e,← hl,zaZ (α:=Nat),zck _ _ _ _ (by omega)]
 unfold bkA;simp
theorem znx {b : Bk} (h : WfB b) {n : Nat} (hn : n < 31) (v : Int) : putCells (bkA b) (321 + n) [nA v] = bkA { b with base:=b.base.set n v }:=by
 obtain ⟨h1,h2,h3,h4⟩:=h
 have e : bkA b = (bl true :: (b.codes.map nA ++ b.o :: (b.first.map nA ++ b.count.map nA))) ++ (b.base.map nA ++ []):=by unfold bkA;simp
 have hl : (bl true :: (b.codes.map nA ++ b.o :: (b.first.map nA ++ b.count.map nA))).length = 321:=by simp [h1,h2,h3]
 rw [e,← hl,zaZ (α:=Nat),zck _ _ _ _ (by omega)]
 unfold bkA;simp
theorem zuu {N : Nat} {f g : Nat → Int} {n : Nat} {v : Int} (hn : n < N) (hv : g n = v) (hg : ∀ i : Nat,¬ i = n → f i = g i) : ((List.range N).map f).set n v = (List.range N).map g:=by
 apply List.ext_getElem?
 intro i
 by_cases hi : i < N
 ·by_cases e : i = n
  ·subst e
   rw [List.getElem?_set_self (by simpa using hi),List.getElem?_map,List.getElem?_range hi,Option.map_some,hv]
  ·rw [List.getElem?_set_ne (fun c=>e c.symm),List.getElem?_map,List.getElem?_map,List.getElem?_range hi,Option.map_some,Option.map_some,hg i e]
 ·rw [List.getElem?_eq_none (by simp;omega),List.getElem?_eq_none (by simp;omega)]
def codeN : Nat → Int
 | 0=>0
 | n + 1=>codeN n * 2 + cntN 257 n
theorem zeZ : ∀ n : Fin 32,0 ≤ codeN n.val ∧ codeN n.val ≤ 4294967296:=by decide +kernel
def kV (n k : Nat) : List Nat:=(List.range k).filter (fun s : Nat=>decide (szI (s : Int) = (n : Int)))
def ordN : Nat → List Nat
 | 0=>[]
 | n + 1=>ordN n ++ kV n 257
theorem ze0 : ∀ n : Fin 32,(ordN n.val).length ≤ 257:=by decide +kernel
theorem vq (n k : Nat) : kV n (k + 1) = kV n k ++ if szI (k : Int) = n then [k] else []:=by
 unfold kV
 rw [List.range_succ,List.filter_append]
 by_cases h : szI (k : Int) = n
 ·simp [h]
 ·simp [h]
theorem zhv (n k : Nat) : (kV n k).length ≤ k:=by
 unfold kV
 have:=List.length_filter_le (fun s : Nat=>decide (szI (s : Int) = (n : Int))) (List.range k)
 rwa [List.length_range] at this
def csI (s : Nat) : Int:=codeN (szI (s : Int)).toNat * 2 + cntN s (szI (s : Int)).toNat
def yz (n k : Nat) : List Int:=(List.range 257).map fun s : Nat=>if szI (s : Int) < n ∨ (szI (s : Int) = n ∧ s < k) then csI s else 0
def kl (n : Nat) : List Int:=(List.range 31).map fun i : Nat=>if 1 ≤ i ∧ i < n then codeN i * 2 else 0
def za0 (n : Nat) : List Int:=(List.range 31).map fun i : Nat=>if 1 ≤ i ∧ i < n then ((ordN i).length : Int) else 0
@[go_sem] def j3 (s : Nat) : List AV:=[i64 (s : Int)]
theorem zhw (n : Nat) : kV n 0 = []:=rfl
theorem zq6 (n : Nat) : cntN 0 n = 0:=rfl
theorem zny {k n : Nat} (h : k ≤ 257) : 0 ≤ cntN k n ∧ cntN k n ≤ 257:=zht h
@[go_sem] theorem ze1 (l : List Nat) : yT (l.map j3).flatten = true:=z7 (fun a=>by simp [j3,yT,pur]) l
@[go_sem] theorem zq7 {κ : List Nat} {σ : Sto} (l : List Nat) : List.map (fzl κ σ) (l.map j3) = l.map j3:=vo (fun _=>rfl) l
def b2 (n k st m m2 : Nat) : Bk:=⟨yz n k,.row 1 st,kl m,zd1 257,za0 m2⟩
theorem zbr (n k st m m2 : Nat) : WfB (b2 n k st m m2):=⟨by simp [b2,yz],by simp [b2,kl],by simp [b2,zd1],by simp [b2,za0]⟩
@[go_sem] theorem zuv {σ : Sto} (n k st m m2 : Nat) : fzl [0,1] σ (bkA (b2 n k st m m2)) = bkA (b2 n k st m m2):=by
 rw [kZ]
 unfold bkA b2
 have h : ∀ l : List Int,(l.map nA).map (fz [0,1] σ) = l.map nA:=by
  intro l;rw [List.map_map];exact List.map_congr_left (fun _ _=>rfl)
 simp only [List.map_cons,List.map_append,h]
 rfl
theorem zfZ {n : Nat} (h1 : 1 ≤ n) (h : n < 31) : (kl n).set n (codeN n * 2) = kl (n + 1):=by
 unfold kl
 refine zuu h (if_pos ⟨h1,by omega⟩) (fun i hi=>?_)
 by_cases c : 1 ≤ i ∧ i < n
 ·rw [if_pos c,if_pos ⟨c.1,by omega⟩]
 ·rw [if_neg c,if_neg (by omega)]
theorem zhx {n : Nat} (h1 : 1 ≤ n) (h : n < 31) : (za0 n).set n ((ordN n).length : Int) = za0 (n + 1):=by
 unfold za0
 refine zuu h (if_pos ⟨h1,by omega⟩) (fun i hi=>?_)
 by_cases c : 1 ≤ i ∧ i < n
 ·rw [if_pos c,if_pos ⟨c.1,by omega⟩]
 ·rw [if_neg c,if_neg (by omega)]
theorem zf0 {n k : Nat} (hk : k < 257) (h : szI (k : Int) = n) : (yz n k).set k (codeN n * 2 + cntN k n) = yz n (k + 1):=by
 unfold yz
 refine zuu hk ?_ (fun i hi=>?_)
 ·rw [if_pos (.inr ⟨h, by omega⟩)]
  unfold csI
  rw [h];rfl
 ·by_cases c : szI (i : Int) < n ∨ (szI (i : Int) = n ∧ i < k)
  ·rw [if_pos c,if_pos (by omega)]
  ·rw [if_neg c,if_neg (by omega)]
theorem zf1 {n k : Nat} (h : ¬ szI (k : Int) = n) : yz n (k + 1) = yz n k:=by
 unfold yz
 apply List.map_congr_left
 intro i _
 by_cases e : i = k
 ·subst e
  by_cases c : szI (i : Int) < n
  ·rw [if_pos (.inl c),if_pos (.inl c)]
  ·rw [if_neg (by omega),if_neg (by omega)]
 ·by_cases c : szI (i : Int) < n ∨ (szI (i : Int) = n ∧ i < k)
  ·rw [if_pos c,if_pos (by omega)]
  ·rw [if_neg c,if_neg (by omega)]
theorem zd3 (n : Nat) : yz n 257 = yz (n + 1) 0:=by
 unfold yz
 apply List.map_congr_left
 intro i hi
 have hi : i < 257:=by simpa using hi
 by_cases c : szI (i : Int) < n ∨ (szI (i : Int) = n ∧ i < 257)
 ·rw [if_pos c,if_pos (by omega)]
 ·rw [if_neg c,if_neg (by omega)]
theorem zf2 : yz 1 0 = zta:=by decide +kernel
theorem zf3 : kl 1 = z31:=by decide +kernel
theorem zhy : za0 1 = z31:=by decide +kernel
theorem zas : ordN 1 = []:=by decide +kernel
theorem zf4 (n : Nat) : codeN (n + 1) = codeN n * 2 + cntN 257 n:=rfl
theorem za1 (n : Nat) : ordN (n + 1) = ordN n ++ kV n 257:=rfl
theorem znz : (ordN 31).length = 257:=by decide +kernel
theorem codeN_one : codeN 1 = 0:=by decide +kernel
attribute [local irreducible] bkA cntN codeN ordN kV yz kl za0 zd1
set_option maxRecDepth 20000 in
set_option maxHeartbeats 40000000 in
theorem zuw : AEq Tryz.prog 237 [] [] (.ptr 0 0) [.box (bkA (b2 31 0 257 31 31)),.row 257 3 1 ((ordN 31).map j3)]:=by
 refine zc Tryz.func237 rfl Tryz.ntmps237 (by simp) (fun hsc=>?_);simp only [Lf.enter,Nat.reduceAdd];clear hsc
 have hU:=True.intro
 repeat' (first|(refine goR ?_)|(refine za (fun K hK=>?_))|(refine hK _ _ ?_;clear hK K))
 refine zo [2,8,9,10,11,12,13,14,15,16,17,18,19,20,21,22] (fun k : Nat=>[(8,i64 k)]) (fun k=>[.box (bkA (b1 k))]) (fun k=>k ≤ 257) (fun k=>257 - k) 0 (Nat.zero_le _) ?_ (by with_unfolding_all rfl) ?_
 ·(refine ⟨⟨_,sT,?_⟩,trivial⟩<;>(try (first|exact zh)))
 ·rintro k hk
  simp only [yn,List.map_cons,List.map_nil,List.cons_append,List.nil_append]
  by_cases hlt : k < 257
  ·have hsb := zhs (s := (k : Int)) (by omega) (by omega)
   obtain ⟨n,hn⟩ : ∃ n : Nat,szI (k : Int) = n:=⟨(szI (k : Int)).toNat,by omega⟩
   have hn31 : n < 31:=by omega
   have hcl : (zd1 k)[n]? = some (cntN k n):=by unfold zd1;rw [List.getElem?_map,List.getElem?_range hn31];rfl
   have hget : (bkA (b1 k))[290 + n * 1]? = some (i64 (cntN k n)):=by rw [Nat.mul_one];exact zd0 (zhu k) hcl
   have hput : List.take (290 + n * 1) (bkA (b1 k)) ++ [i64 (cntN k n + 1)] ++ List.drop (290 + n * 1 + 1) (bkA (b1 k)) = bkA (b1 (k + 1)):=by
    rw [Nat.mul_one]
    refine (show _ = putCells (bkA (b1 k)) (290 + n) [nA (cntN k n + 1)] from rfl).trans ((zke (zhu k) hn31 (cntN k n + 1)).trans ?_)
    show bkA ⟨zta,.sl true false [],z31,(zd1 k).set n (cntN k n + 1),z31⟩ = _
    rw [zkf k n hn31 hn];rfl
   have hlen:=zaY (zhu k)
   have hcb : 0 ≤ cntN k n ∧ cntN k n ≤ 257:=zht (by omega)
   have hle : (290 + n * 1 + 1 ≤ 352) = True:=by simp;omega
   have hle2 : (290 + n * 1 + (0 + 1) ≤ 352) = True:=by simp;omega
   have hU:=And.intro @hn ( And.intro @hget ( And.intro @hput ( And.intro @hlen ( And.intro @hle (@hle2)))))
   repeat' (first|(refine goR ?_)|(guard_target =~ PWp _ _ _ _ _ _ _;refine yw (id:=5) [0,1,2,3,4,5,6,7,8,9,10,11] [11] mixed (by kernel_rfl) (by kernel_rfl) ?_)|(refine za (fun K hK=>?_))|((refine zb (fun hcd=>?_) (fun hcd=>?_))<;>(try simp only [hcP] at hcd)<;>(try exact cdT))|(guard_target =~ dw _ _ _ _ _ _ _ _ _ _;first|(guard_target =~ dw _ _ _ _ _ (2 :: _) _ _ _ _;(refine vK rfl rfl (h:=(fun τ=>zQ (h:=zd (f:=247) rfl Tryz.call247 (h:=AEq.pure' agT (zkd _ (by omega) (by omega)) (hq:=zi ⟨rfl,rfl⟩))))) (hk:=?_)))|((first|guard_target =~ dw _ _ _ _ _ (5 :: _) _ _ _ _|guard_target =~ dw _ _ _ _ _ (9 :: _) _ _ _ _|guard_target =~ dw _ _ _ _ _ (10 :: _) _ _ _ _);(refine zlK rfl rfl (h:=zQ (h:=zL rfl (hK:=zi ⟨rfl,rfl⟩))) (hk:=?_)))|((first|guard_target =~ dw _ _ _ _ _ (10 :: _) _ _ _ _|guard_target =~ dw _ _ _ _ _ (11 :: _) _ _ _ _);(refine kO rfl rfl (h:=zcT (h:=z0 rfl (hK:=zi ⟨rfl,rfl⟩))) (hk:=?_))))|(refine hK _ _ ?_;clear hK K))
   refine ⟨k + 1,by omega,by omega,?_,arT,srT⟩
   (refine ⟨⟨_,sT,?_⟩,trivial⟩<;>(try (first|exact zh)))
  ·have hk7 : k = 257 := by omega
   subst hk7
   repeat' (first|(refine goR ?_)|(refine za (fun K hK=>?_))|((refine zb (fun hcd=>?_) (fun hcd=>?_))<;>(try simp only [hcP] at hcd)<;>(try exact cdT))|(refine hK _ _ ?_;clear hK K)|(apply_assumption (exfalso:=false) (symm:=false)))
   refine js (σ2:=[.box (bkA (b2 1 0 0 1 1)),.row 0 3 1 ((ordN 1).map j3)]) 0 258 3 1 (by decide) rfl (zd2 (zhu 257)) ?_ ?_
   ·show [Ob.box ((bkA (b1 257)).set 258 (.row 1 0)), Ob.row 0 3 1 []] = _
    rw [zkh (zhu 257),zas]
    unfold b2 b1
    rw [zf2,zf3,zhy]
    rfl
   refine zo [3,4,5,23,24,25,26,27,28,29,30,31,32,33,34,35,36,37,38,39,40,41,42,43,44,45,46,47,48,49,50,51,52,53,54,55,56,57,58,59,60,61,62,63,64,65,66,67,68,69,70] (fun n : Nat=>[(4,i64 n),(3,i64 (codeN n))]) (fun n=>[.box (bkA (b2 n 0 (ordN n).length n n)),.row (ordN n).length 3 1 ((ordN n).map j3)]) (fun n=>1 ≤ n ∧ n ≤ 31) (fun n=>31 - n) 1 ⟨by decide,by decide⟩ ?_ (by rw [zas];rfl) ?_
   ·(refine ⟨⟨_, sT, ?_⟩, ⟨_, sT, ?_⟩, trivial⟩ <;> (try (first | exact zh)))
    all_goals exact zT codeN_one.symm
   ·rintro n ⟨h1, h31⟩
    simp only [yn,List.map_cons,List.map_nil,List.cons_append,List.nil_append]
    by_cases hlt2 : n < 31
    ·have hcb := zeZ ⟨n, by omega⟩
     have hcb2:=zeZ ⟨n + 1,by omega⟩
     have hol:=ze0 ⟨n,by omega⟩
     dsimp only at hcb hcb2 hol
     have hlen:=zaY (zbr n 0 (ordN n).length n n)
     have hlen1:=zaY (zbr n 0 (ordN n).length (n + 1) n)
     have hfst : List.take (259 + n * 1) (bkA (b2 n 0 (ordN n).length n n)) ++ [i64 (codeN n * 2)] ++ List.drop (259 + n * 1 + 1) (bkA (b2 n 0 (ordN n).length n n)) = bkA (b2 n 0 (ordN n).length (n + 1) n):=by
      rw [Nat.mul_one]
      refine (show _ = putCells (bkA (b2 n 0 (ordN n).length n n)) (259 + n) [nA (codeN n * 2)] from rfl).trans ((zki (zbr n 0 (ordN n).length n n) hlt2 (codeN n * 2)).trans ?_)
      show bkA ⟨yz n 0,.row 1 (ordN n).length,(kl n).set n (codeN n * 2),zd1 257,za0 n⟩ = _
      rw [zfZ h1 hlt2];rfl
     have hbse : List.take (321 + n * 1) (bkA (b2 n 0 (ordN n).length (n + 1) n)) ++ [i64 ((ordN n).length : Int)] ++ List.drop (321 + n * 1 + 1) (bkA (b2 n 0 (ordN n).length (n + 1) n)) = bkA (b2 n 0 (ordN n).length (n + 1) (n + 1)):=by
      rw [Nat.mul_one]
      refine (show _ = putCells (bkA (b2 n 0 (ordN n).length (n + 1) n)) (321 + n) [nA ((ordN n).length : Int)] from rfl).trans ((znx (zbr n 0 (ordN n).length (n + 1) n) hlt2 ((ordN n).length : Int)).trans ?_)
      show bkA ⟨yz n 0,.row 1 (ordN n).length,kl (n + 1),zd1 257,(za0 n).set n ((ordN n).length : Int)⟩ = _
      rw [zhx h1 hlt2];rfl
     have hor:=zd2 (zbr n 0 (ordN n).length (n + 1) n)
     have hor1 : (bkA (b2 n 0 (ordN n).length (n + 1) n))[258]? = some (.row 1 (ordN n).length):=hor
     have hle1 : (259 + n * 1 + 1 ≤ 352) = True:=by simp;omega
     have hle2 : (259 + n * 1 + (0 + 1) ≤ 352) = True:=by simp;omega
     have hle3 : (321 + n * 1 + 1 ≤ 352) = True:=by simp;omega
     have hle4 : (321 + n * 1 + (0 + 1) ≤ 352) = True:=by simp;omega
     have hU:=And.intro @hlen ( And.intro @hlen1 ( And.intro @hfst ( And.intro @hbse ( And.intro @hor1 ( And.intro @hle1 ( And.intro @hle2 ( And.intro @hle3 (@hle4))))))))
     repeat' (first|(refine goR ?_)|(guard_target =~ PWp _ _ _ _ _ _ _;refine zn (id:=13) [0,1,2,3,4,5,6,7,8,9,10] [10] mixed (by kernel_rfl) (by kernel_rfl) ?_)|(refine za (fun K hK=>?_))|((refine zb (fun hcd=>?_) (fun hcd=>?_))<;>(try simp only [hcP] at hcd)<;>(try exact cdT))|(guard_target =~ dw _ _ _ _ _ _ _ _ _ _;first|((first|guard_target =~ dw _ _ _ _ _ (5 :: _) _ _ _ _|guard_target =~ dw _ _ _ _ _ (9 :: _) _ _ _ _|guard_target =~ dw _ _ _ _ _ (10 :: _) _ _ _ _);(refine zlK rfl rfl (h:=zQ (h:=zL rfl (hK:=zi ⟨rfl,rfl⟩))) (hk:=?_)))|((first|guard_target =~ dw _ _ _ _ _ (10 :: _) _ _ _ _|guard_target =~ dw _ _ _ _ _ (11 :: _) _ _ _ _);(refine kO rfl rfl (h:=zcT (h:=z0 rfl (hK:=zi ⟨rfl,rfl⟩))) (hk:=?_))))|(refine hK _ _ ?_;clear hK K))
     refine zo [3,5,45,46,47,48,49,50,51,52,53,54,55,56,57,58,59,60,61,62,63,64,65,66,67,68,69,70] (fun k : Nat=>[(45,i64 k),(3,i64 (codeN n * 2 + cntN k n))]) (fun k=>[.box (bkA (b2 n k ((ordN n).length + (kV n k).length) (n + 1) (n + 1))),.row ((ordN n).length + (kV n k).length) 3 1 ((ordN n ++ kV n k).map j3)]) (fun k=>k ≤ 257) (fun k=>257 - k) 0 (Nat.zero_le _) ?_ (by rw [zhw,List.append_nil];rfl) ?_
     ·(refine ⟨⟨_, sT, ?_⟩, ⟨_, sT, ?_⟩, trivial⟩ <;> (try (first | exact zh)))
      all_goals exact zT (by rw [zq6,Int.add_zero])
     ·rintro k hk
      simp only [yn,List.map_cons,List.map_nil,List.cons_append,List.nil_append]
      by_cases hlt3 : k < 257
      ·have hsb := zhs (s := (k : Int)) (by omega) (by omega)
       have hsl:=zhv n k
       have hck:=zny (k:=k) (n:=n) (by omega)
       by_cases hsz : szI (k : Int) = (n : Int)
       ·obtain ⟨st, hst⟩ : ∃ st, (ordN n).length + (kV n k).length = st := ⟨_, rfl⟩
        rw [hst]
        have hlenk:=zaY (zbr n k st (n + 1) (n + 1))
        have hlenk1:=zaY (zbr n k (st + 1) (n + 1) (n + 1))
        have hork : (bkA (b2 n k st (n + 1) (n + 1)))[258]? = some (.row 1 st):=zd2 (zbr n k st (n + 1) (n + 1))
        have hap : List.map j3 (ordN n ++ kV n k) ++ [[AV.lit (.int .i64 (k : Int))]] = List.map j3 (ordN n ++ kV n (k + 1)):=by
         rw [vq,if_pos hsz,← List.append_assoc,List.map_append (l₁:=ordN n ++ kV n k)];rfl
        have hpo : List.take 258 (bkA (b2 n k st (n + 1) (n + 1))) ++ [.row 1 (st + 1)] ++ List.drop 259 (bkA (b2 n k st (n + 1) (n + 1))) = bkA (b2 n k (st + 1) (n + 1) (n + 1)):=
         (show _ = putCells (bkA (b2 n k st (n + 1) (n + 1))) 258 [.row 1 (st + 1)] from rfl).trans (zAE (zbr n k st (n + 1) (n + 1)) (.row 1 (st + 1)))
        have hpc : List.take (1 + k * 1) (bkA (b2 n k (st + 1) (n + 1) (n + 1))) ++ [i64 (codeN n * 2 + cntN k n)] ++ List.drop (1 + k * 1 + 1) (bkA (b2 n k (st + 1) (n + 1) (n + 1))) = bkA (b2 n (k + 1) (st + 1) (n + 1) (n + 1)):=by
         rw [Nat.mul_one]
         refine (show _ = putCells (bkA (b2 n k (st + 1) (n + 1) (n + 1))) (1 + k) [nA (codeN n * 2 + cntN k n)] from rfl).trans ((zkg (zbr n k (st + 1) (n + 1) (n + 1)) hlt3 (codeN n * 2 + cntN k n)).trans ?_)
         show bkA ⟨(yz n k).set k (codeN n * 2 + cntN k n),.row 1 (st + 1),kl (n + 1),zd1 257,za0 (n + 1)⟩ = _
         rw [zf0 hlt3 hsz];rfl
        have hlk1 : (1 + k * 1 + 1 ≤ 352) = True:=by simp;omega
        have hlk2 : (1 + k * 1 + (0 + 1) ≤ 352) = True:=by simp;omega
        have hol2 : (ordN n ++ kV n k).length = st:=by rw [List.length_append];exact hst
        have hU:=And.intro @hsz ( And.intro @hlenk ( And.intro @hlenk1 ( And.intro @hork ( And.intro @hap ( And.intro @hpo ( And.intro @hpc ( And.intro @hlk1 (@hlk2))))))))
        repeat' (first|(refine goS ?_)|(refine za (fun K hK=>?_))|((refine zb (fun hcd=>?_) (fun hcd=>?_))<;>(try simp only [hcP] at hcd)<;>(try exact cdT))|(refine zd (f:=247) rfl Tryz.call247 (h:=AEq.pure' agT (zkd _ (by omega) (by omega)) (hq:=?_)))|(refine hK _ _ ?_;clear hK K))
        refine ⟨k + 1,by omega,by omega,?_,arT,?_⟩
        ·(refine ⟨⟨_, sT, ?_⟩, ⟨_, sT, ?_⟩, trivial⟩ <;> (try (first | exact zh)))
         all_goals exact zT (by rw [jt,if_pos hsz,Int.add_assoc])
        ·rw [vq, if_pos hsz, List.length_append, ← Nat.add_assoc, hst]
         simp only [hap,hpo,hpc,go_sem]
       ·have hbn : ∀ st : Nat, b2 n (k + 1) st (n + 1) (n + 1) = b2 n k st (n + 1) (n + 1) := fun st => by unfold b2; rw [zf1 hsz]
        have hU:=True.intro
        repeat' (first|(refine goR ?_)|(refine za (fun K hK=>?_))|((refine zb (fun hcd=>?_) (fun hcd=>?_))<;>(try simp only [hcP] at hcd)<;>(try exact cdT))|(refine zd (f:=247) rfl Tryz.call247 (h:=AEq.pure' agT (zkd _ (by omega) (by omega)) (hq:=?_)))|(refine hK _ _ ?_;clear hK K))
        refine ⟨k + 1,by omega,by omega,?_,arT,?_⟩
        ·(refine ⟨⟨_, sT, ?_⟩, ⟨_, sT, ?_⟩, trivial⟩ <;> (try (first | exact zh)))
         all_goals exact zT (by rw [jt,if_neg hsz,Int.add_zero])
        ·rw [vq,if_neg hsz,List.append_nil,hbn]
      ·have hk7 : k = 257 := by omega
       subst hk7
       have hU:=True.intro
       repeat' (first|(refine goR ?_)|(refine za (fun K hK=>?_))|((refine zb (fun hcd=>?_) (fun hcd=>?_))<;>(try simp only [hcP] at hcd)<;>(try exact cdT))|(refine hK _ _ ?_;clear hK K)|(apply_assumption (exfalso:=false) (symm:=false)))
       refine ⟨n + 1,⟨by omega,by omega⟩,by omega,?_,arT,?_⟩
       ·(refine ⟨⟨_, sT, ?_⟩, ⟨_, sT, ?_⟩, trivial⟩ <;> (try (first | exact zh)))
        all_goals exact zT (zf4 n).symm
       ·have hb3 : ∀ st : Nat, b2 (n + 1) 0 st (n + 1) (n + 1) = b2 n 257 st (n + 1) (n + 1) := fun st => by unfold b2; rw [zd3]
        rw [za1,List.length_append,hb3]
    ·have hn31 : n = 31 := by omega
     subst hn31
     have hol31:=znz
     have hU:=@hol31
     repeat' (first|(refine goR ?_)|(refine za (fun K hK=>?_))|((refine zb (fun hcd=>?_) (fun hcd=>?_))<;>(try simp only [hcP] at hcd)<;>(try exact cdT))|((refine ze [0,1] (by rw [Tryz.results237,Lf.zt]) (zj ?_) ?_)<;>(try (first|exact zh|exact stT)))|(refine hK _ _ ?_;clear hK K)|(apply_assumption (exfalso:=false) (symm:=false)))
end Go.Proofs.YtdalcgfnlbofdaaGreatDoor
namespace Go.Proofs.YtdalcgfnlbofdaaGreatDoor
open Go Go.Lf Go.Proofs
attribute [local irreducible] Lf.rg Lf.ro Lf.PWp Lf.SOp Lf.ACall Lf.Scoped Lf.dg Lf.dw
set_option maxRecDepth 20000
set_option maxHeartbeats 4000000
def bkB : List AV:=bkA (b2 31 0 257 31 31)
def ordB : List Nat:=ordN 31
def znA (n : Nat) : Int:=codeN n * 2
def zq8 (n : Nat) : Int:=((ordN n).length : Int)
theorem zux : bkB[0]? = some (bl true):=by unfold bkB bkA;rfl
theorem zkj {s : Nat} (hs : s < 257) : bkB[1 + s]? = some (i64 (csI s)):=by
 have hb:=zhs (s:=(s : Int)) (by omega) (by omega)
 have e : bkB = [bl true] ++ ((yz 31 0).map nA ++ (.row 1 257 :: ((kl 31).map nA ++ ((zd1 257).map nA ++ (za0 31).map nA)))):=by unfold bkB bkA b2;simp
 rw [e,List.getElem?_append_right (by simp),show 1 + s - ([bl true] : List AV).length = s from by simp,List.getElem?_append_left (by simp [yz];omega),List.getElem?_map]
 have hc : (yz 31 0)[s]? = some (csI s):=by
  unfold yz
  rw [List.getElem?_map,List.getElem?_range hs,Option.map_some,if_pos (.inl (by omega))]
 rw [hc];rfl
@[go_sem] theorem zvR {σ : Sto} : fzl [0,1] σ bkB = bkB:=zuv 31 0 257 31 31
theorem zuy : AEq Tryz.prog 237 [] [] (.ptr 0 0) [.box bkB,.row 257 3 1 (ordB.map j3)]:=zuw
def zhz (c n : Int) : Bool:=decide (1 ≤ n ∧ n ≤ 30 ∧ znA n.toNat ≤ c ∧ c - znA n.toNat < cntN 257 n.toNat)
def zf5 (c n : Int) : Int:=(ordB.getD (zq8 n.toNat + (c - znA n.toNat)).toNat 0 : Nat)
theorem zd4 (f : Nat → Nat) : ∀ xs, rnl f xs = xs.map (rn f)
 | []=>rfl
 | x :: xs=>by rw [rnl,zd4 f xs];rfl
theorem ze2 (n : Nat) : ∀ xs, jF n xs = xs.all (scp n)
 | []=>rfl
 | x :: xs=>by rw [jF,ze2 n xs];rfl
theorem zhA : ∀ xs, nbl xs = xs.all nb
 | []=>rfl
 | x :: xs=>by rw [nbl,zhA xs];rfl
@[go_sem] theorem znB (L : Nat) : rnl (ix [0,1] L) bkB = bkB:=by
 rw [zd4]
 unfold bkB bkA b2
 have h : ∀ l : List Int,(l.map nA).map (rn (ix [0,1] L)) = l.map nA:=by
  intro l;rw [List.map_map];exact List.map_congr_left (fun _ _=>rfl)
 simp only [List.map_cons,List.map_append,h]
 rfl
theorem zkk : jF 2 bkB = true:=by
 rw [ze2]
 unfold bkB bkA b2
 have h : ∀ l : List Int,(l.map nA).all (scp 2) = true:=by
  intro l;rw [List.all_map];exact List.all_eq_true.2 (fun _ _=>rfl)
 simp only [List.all_cons,List.all_append,h]
 rfl
@[go_sem] theorem zhB : nbl bkB = true:=by
 rw [zhA]
 unfold bkB bkA b2
 have h : ∀ l : List Int,(l.map nA).all nb = true:=by
  intro l;rw [List.all_map];exact List.all_eq_true.2 (fun _ _=>rfl)
 simp only [List.all_cons,List.all_append,h]
 rfl
theorem zlL (σ : Sto) : SubOk [0,1] [.box bkB,.row 257 3 1 (ordB.map j3)] (.box bkB :: .row 257 3 1 (ordB.map j3) :: σ):=by
 refine SubOk.mk' (by decide) ⟨?_,zkk,rfl,ze1 ordB,trivial⟩
 show some (Ob.box bkB) = some (Ob.box (rnl _ bkB))
 rw [znB]
theorem zlM : ([.box bkB,.row 257 3 1 (ordB.map j3)] : Sto).all okP = true:=by
 have h1:=zhB
 have h2:=ze1 ordB
 simp only [List.all_cons,List.all_nil,okP,h1,h2,Bool.and_self]
attribute [local irreducible] bkB cntN ordB znA zq8 csI
theorem zAF (s : Int) : AEq Tryz.prog 249 [.ptr 0 0,i64 s] [.box bkB,.row 257 3 1 (ordB.map j3)] (bl (decide (0 ≤ s) && decide (s ≤ 256))) [.box bkB,.row 257 3 1 (ordB.map j3)]:=by
 have h0:=zux
 refine zc Tryz.func249 rfl Tryz.ntmps249 (by simp) (fun hsc=>?_);simp only [Lf.enter,Nat.reduceAdd];clear hsc
 have hU:=@h0
 repeat' (first|(refine goR ?_)|(refine za (fun K hK=>?_))|((refine ze [0,1] (by rw [Tryz.results249,Lf.zt]) (zj ?_) ?_)<;>(try (first|exact zh|exact stT)))|(refine hK _ _ ?_;clear hK K))
theorem zuz (s : Nat) (h1 : s < 257) : AEq Tryz.prog 239 [.ptr 0 0,i64 (s : Int)] [.box bkB,.row 257 3 1 (ordB.map j3)] (.tu [i64 (csI s),i64 (szI (s : Int))]) [.box bkB,.row 257 3 1 (ordB.map j3)]:=by
 have hc : bkB[1 + s * 1]? = some (i64 (csI s)):=by rw [Nat.mul_one];exact zkj h1
 have h2 : (s : Int) ≤ 256:=by omega
 refine zc Tryz.func239 rfl Tryz.ntmps239 (by simp) (fun hsc=>?_);simp only [Lf.enter,Nat.reduceAdd];clear hsc
 have hU:=@hc
 repeat' (first|(refine goR ?_)|(guard_target =~ PWp _ _ _ _ _ _ _;refine zn (id:=3) [0,1,2,3,4,5,6,7,8,9] [] mixed (by kernel_rfl) (by kernel_rfl) ?_)|(refine za (fun K hK=>?_))|((refine zb (fun hcd=>?_) (fun hcd=>?_))<;>(try simp only [hcP] at hcd)<;>(try exact cdT))|(refine zd (f:=249) rfl Tryz.call249 (h:=AEq.sub' [0,1] (by refine ⟨?_,?_,trivial⟩<;>(first|exact yf|exact yZ (by rfl) (by rfl))) (by exact zlL _) (zAF _) (ho:=by exact zlM) (hq:=?_)))|((refine ze [0,1] (by rw [Tryz.results239,Lf.yb]) (zu ?_ ?_) ?_)<;>(try (first|exact zh|exact stT)))|(guard_target =~ dw _ _ _ _ _ _ _ _ _ _;first|(guard_target =~ dw _ _ _ _ _ (4 :: _) _ _ _ _;(refine zlK rfl rfl (h:=zQ (h:=zL rfl (hK:=zi ⟨rfl,rfl⟩))) (hk:=?_)))|(guard_target =~ dw _ _ _ _ _ (7 :: _) _ _ _ _;(refine vK rfl rfl (h:=(fun τ=>zQ (h:=zd (f:=247) rfl Tryz.call247 (h:=AEq.pure' agT (zkd _ aoT aoT) (hq:=zi ⟨rfl,rfl⟩))))) (hk:=?_))))|(refine hK _ _ ?_;clear hK K))
end Go.Proofs.YtdalcgfnlbofdaaGreatDoor
namespace Go.Proofs.YtdalcgfnlbofdaaGreatDoor
open Go Go.Lf Go.Proofs
attribute [local irreducible] Lf.rg Lf.ro Lf.PWp Lf.SOp Lf.ACall Lf.Scoped Lf.dg Lf.dw
set_option maxRecDepth 20000
set_option maxHeartbeats 4000000
def zuA (c n : Int) : Int:=if zhz c n = true then zf5 c n else 0
attribute [local irreducible] bkB cntN ordB znA zq8 csI
end Go.Proofs.YtdalcgfnlbofdaaGreatDoor
