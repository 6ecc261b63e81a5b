import Derived.Test.YtdalcgfnlbofdaaGreatDoorPg
import Derived.Test.YtdalcgfnlbofdaaGreatDoorY01
import Derived.Test.YtdalcgfnlbofdaaGreatDoorPc
set_option linter.unusedVariables false
set_option linter.unusedSimpArgs false
namespace Go.Proofs.YtdalcgfnlbofdaaGreatDoor
open Go Go.Lf Go.Proofs
attribute [local irreducible] Lf.rg Lf.ro Lf.PWp Lf.SOp Lf.ACall Lf.Scoped Lf.dg Lf.dw
set_option maxRecDepth 20000
set_option maxHeartbeats 4000000
structure Bk where
 (codes : List Int) (o : AV) (first count base : List Int)
def nA (n : Int) : AV:=i64 n
def bkA (b : Bk) : List AV:=bl true :: (b.codes.map nA ++ b.o :: (b.first.map nA ++ (b.count.map nA ++ b.base.map nA)))
structure WfB (b : Bk) : Prop where
 c : b.codes.length = 257
 f : b.first.length = 31
 n : b.count.length = 31
 b : b.base.length = 31
theorem zaY {b : Bk} (h : WfB b) : (bkA b).length = 352:=by
 obtain ⟨h1,h2,h3,h4⟩:=h
 unfold bkA;simp [h1,h2,h3,h4]
theorem zaZ {α : Type} (a c : List AV) (k : Nat) (v : AV) : putCells (a ++ c) (a.length + k) [v] = a ++ putCells c k [v]:=by
 unfold putCells
 rw [List.take_append,List.drop_append,List.take_of_length_le (by omega),show a.length + k - a.length = k from by omega,List.drop_of_length_le (by simp;omega),List.nil_append]
 simp only [List.append_assoc,List.length_cons,List.length_nil]
 congr 4;omega
theorem zci (l : List Int) (k : Nat) (r : List AV) (v : Int) (h : k < l.length) : putCells (l.map nA ++ r) k [nA v] = (l.set k v).map nA ++ r:=by
 unfold putCells
 rw [List.take_append_of_le_length (by simp;omega),List.drop_append_of_le_length (by simp;omega),List.map_set,List.set_eq_take_append_cons_drop,if_pos (by simpa using h)]
 simp
theorem zjR {b : Bk} (h : WfB b) {n : Nat} (hn : n < 31) (v : Int) : putCells (bkA b) (290 + n) [nA v] = bkA { b with count:=b.count.set n v }:=by
 obtain ⟨h1,h2,h3,h4⟩:=h
 have e : bkA b = (bl true :: (b.codes.map nA ++ b.o :: b.first.map nA)) ++ (b.count.map nA ++ b.base.map nA):=by unfold bkA;simp
 have hl : (bl true :: (b.codes.map nA ++ b.o :: b.first.map nA)).length = 290:=by simp [h1,h2]
 rw [e,← hl,zaZ (α:=Nat),zci _ _ _ _ (by omega)]
 unfold bkA;simp
theorem zd7 {b : Bk} (h : WfB b) {n : Nat} {v : Int} (hv : b.count[n]? = some v) : (bkA b)[290 + n]? = some (nA v):=by
 obtain ⟨h1,h2,h3,h4⟩:=h
 have e : bkA b = (bl true :: (b.codes.map nA ++ b.o :: b.first.map nA)) ++ (b.count.map nA ++ b.base.map nA):=by unfold bkA;simp
 have hl : (bl true :: (b.codes.map nA ++ b.o :: b.first.map nA)).length = 290:=by simp [h1,h2]
 have hn : n < b.count.length:=(List.getElem?_eq_some_iff.1 hv).1
 rw [e,← hl,List.getElem?_append_right (by omega),show ∀ m : Nat,m + n - m = n from fun m=>by omega,List.getElem?_append_left (by simpa using hn),List.getElem?_map,hv];rfl
def cntN (k : Nat) (n : Nat) : Int:=(((List.range k).filter (fun s : Nat=>decide (szI (s : Int) = (n : Int)))).length : Int)
theorem zhd {k n : Nat} (h : k ≤ 257) : 0 ≤ cntN k n ∧ cntN k n ≤ 257:=by
 unfold cntN
 have:=List.length_filter_le (fun s : Nat=>decide (szI (s : Int) = (n : Int))) (List.range k)
 rw [List.length_range] at this
 omega
def zd8 (k : Nat) : List Int:=(List.range 31).map (cntN k)
theorem jC (k n : Nat) : cntN (k + 1) n = cntN k n + if szI (k : Int) = n then 1 else 0:=by
 unfold cntN
 rw [List.range_succ,List.filter_append,List.length_append]
 by_cases h : szI (k : Int) = n
 ·simp [h]
 ·simp [h]
theorem zjS (k n : Nat) (hn : n < 31) (h : szI (k : Int) = n) : (zd8 k).set n (cntN k n + 1) = zd8 (k + 1):=by
 apply List.ext_getElem?
 intro i
 unfold zd8
 by_cases hi : i < 31
 ·by_cases e : i = n
  ·subst e
   rw [List.getElem?_set_self (by simpa using hi),List.getElem?_map,List.getElem?_range hi,Option.map_some,jC,if_pos h]
  ·rw [List.getElem?_set_ne (fun c=>e c.symm),List.getElem?_map,List.getElem?_map,List.getElem?_range hi,Option.map_some,Option.map_some,jC,if_neg (by rw [h];omega),Int.add_zero]
 ·rw [List.getElem?_eq_none (by simp;omega),List.getElem?_eq_none (by simp;omega)]
def zso : List Int:=List.replicate 257 0
def z31 : List Int:=List.replicate 31 0
def b1 (k : Nat) : Bk:=⟨zso,.sl true false [],z31,zd8 k,z31⟩
theorem zhe (k : Nat) : WfB (b1 k):=⟨by simp [b1,zso],by simp [b1,z31],by simp [b1,zd8],by simp [b1,z31]⟩
theorem zjT {b : Bk} (h : WfB b) {n : Nat} (hn : n < 257) (v : Int) : putCells (bkA b) (1 + n) [nA v] = bkA { b with codes:=b.codes.set n v }:=by
 obtain ⟨h1,h2,h3,h4⟩:=h
 have e : bkA b = [bl true] ++ (b.codes.map nA ++ (b.o :: (b.first.map nA ++ (b.count.map nA ++ b.base.map nA)))):=by unfold bkA;simp
 have hl : ([bl true] : List AV).length = 1:=rfl
 rw [e,← hl,zaZ (α:=Nat),zci _ _ _ _ (by omega)]
 unfold bkA;simp
theorem zy6 {b : Bk} (h : WfB b) (x : AV) : putCells (bkA b) 258 [x] = bkA { b with o:=x }:=by
 obtain ⟨h1,h2,h3,h4⟩:=h
 have e : bkA b = (bl true :: b.codes.map nA) ++ (b.o :: (b.first.map nA ++ (b.count.map nA ++ b.base.map nA))):=by unfold bkA;simp
 have hl : (bl true :: b.codes.map nA).length = 258:=by simp [h1]
 rw [e,show (258 : Nat) = (bl true :: b.codes.map nA).length + 0 from by rw [hl],zaZ (α:=Nat)]
 unfold bkA putCells;simp
theorem zd9 {b : Bk} (h : WfB b) : (bkA b)[258]? = some b.o:=by
 obtain ⟨h1,h2,h3,h4⟩:=h
 have e : bkA b = (bl true :: b.codes.map nA) ++ (b.o :: (b.first.map nA ++ (b.count.map nA ++ b.base.map nA))):=by unfold bkA;simp
 have hl : (bl true :: b.codes.map nA).length = 258:=by simp [h1]
 rw [e,List.getElem?_append_right (by omega),hl];rfl
theorem zjU {b : Bk} (h : WfB b) {x : AV} : (bkA b).set 258 x = bkA { b with o:=x }:=by
 have h1:=h.c
 have hl : (b.codes.map nA).length = 257:=by simp [h1]
 unfold bkA
 rw [List.set_cons_succ,List.set_append_right _ _ (by omega),hl];rfl
theorem zjV {b : Bk} (h : WfB b) {n : Nat} (hn : n < 31) (v : Int) : putCells (bkA b) (259 + n) [nA v] = bkA { b with first:=b.first.set n v }:=by
 obtain ⟨h1,h2,h3,h4⟩:=h
 have e : bkA b = (bl true :: (b.codes.map nA ++ [b.o])) ++ (b.first.map nA ++ (b.count.map nA ++ b.base.map nA)):=by unfold bkA;simp
 have hl : (bl true :: (b.codes.map nA ++ [b.o])).length = 259:=by simp [h1]
 rw [e,← hl,zaZ (α:=Nat),zci _ _ _ _ (by omega)]
 unfold bkA;simp
theorem zmH {b : Bk} (h : WfB b) {n : Nat} (hn : n < 31) (v : Int) : putCells (bkA b) (321 + n) [nA v] = bkA { b with base:=b.base.set n v }:=by
 obtain ⟨h1,h2,h3,h4⟩:=h
 have e : bkA b = (bl true :: (b.codes.map nA ++ b.o :: (b.first.map nA ++ b.count.map nA))) ++ (b.base.map nA ++ []):=by unfold bkA;simp
 have hl : (bl true :: (b.codes.map nA ++ b.o :: (b.first.map nA ++ b.count.map nA))).length = 321:=by simp [h1,h2,h3]
 rw [e,← hl,zaZ (α:=Nat),zci _ _ _ _ (by omega)]
 unfold bkA;simp
theorem ztp {N : Nat} {f g : Nat → Int} {n : Nat} {v : Int} (hn : n < N) (hv : g n = v) (hg : ∀ i : Nat,¬ i = n → f i = g i) : ((List.range N).map f).set n v = (List.range N).map g:=by
 apply List.ext_getElem?
 intro i
 by_cases hi : i < N
 ·by_cases e : i = n
  ·subst e
   rw [List.getElem?_set_self (by simpa using hi),List.getElem?_map,List.getElem?_range hi,Option.map_some,hv]
  ·rw [List.getElem?_set_ne (fun c=>e c.symm),List.getElem?_map,List.getElem?_map,List.getElem?_range hi,Option.map_some,Option.map_some,hg i e]
 ·rw [List.getElem?_eq_none (by simp;omega),List.getElem?_eq_none (by simp;omega)]
def codeN : Nat → Int
 | 0=>0
 | n + 1=>codeN n * 2 + cntN 257 n
theorem zeZ : ∀ n : Fin 32,0 ≤ codeN n.val ∧ codeN n.val ≤ 4294967296:=by decide +kernel
def zcO (n k : Nat) : List Nat:=(List.range k).filter (fun s : Nat=>decide (szI (s : Int) = (n : Int)))
def ordN : Nat → List Nat
 | 0=>[]
 | n + 1=>ordN n ++ zcO n 257
theorem zjW : ∀ n : Fin 32,(ordN n.val).length ≤ 257:=by decide +kernel
theorem za0 (n k : Nat) : zcO n (k + 1) = zcO n k ++ if szI (k : Int) = n then [k] else []:=by
 unfold zcO
 rw [List.range_succ,List.filter_append]
 by_cases h : szI (k : Int) = n
 ·simp [h]
 ·simp [h]
theorem zmI (n k : Nat) : (zcO n k).length ≤ k:=by
 unfold zcO
 have:=List.length_filter_le (fun s : Nat=>decide (szI (s : Int) = (n : Int))) (List.range k)
 rwa [List.length_range] at this
def csI (s : Nat) : Int:=codeN (szI (s : Int)).toNat * 2 + cntN s (szI (s : Int)).toNat
def yN (n k : Nat) : List Int:=(List.range 257).map fun s : Nat=>if szI (s : Int) < n ∨ (szI (s : Int) = n ∧ s < k) then csI s else 0
def kx (n : Nat) : List Int:=(List.range 31).map fun i : Nat=>if 1 ≤ i ∧ i < n then codeN i * 2 else 0
def za1 (n : Nat) : List Int:=(List.range 31).map fun i : Nat=>if 1 ≤ i ∧ i < n then ((ordN i).length : Int) else 0
@[go_sem] def zbC (s : Nat) : List AV:=[i64 (s : Int)]
theorem zqq (n : Nat) : zcO n 0 = []:=rfl
theorem zqr (n : Nat) : cntN 0 n = 0:=rfl
theorem zmJ {k n : Nat} (h : k ≤ 257) : 0 ≤ cntN k n ∧ cntN k n ≤ 257:=zhd h
@[go_sem] theorem ze0 (l : List Nat) : vn (l.map zbC).flatten = true:=yd (fun a=>by simp [zbC,vn,pur]) l
@[go_sem] theorem zqs {κ : List Nat} {σ : Sto} (l : List Nat) : List.map (fzl κ σ) (l.map zbC) = l.map zbC:=vG (fun _=>rfl) l
def b2 (n k st m m2 : Nat) : Bk:=⟨yN n k,.row 1 st,kx m,zd8 257,za1 m2⟩
theorem zbo (n k st m m2 : Nat) : WfB (b2 n k st m m2):=⟨by simp [b2,yN],by simp [b2,kx],by simp [b2,zd8],by simp [b2,za1]⟩
@[go_sem] theorem ztq {σ : Sto} (n k st m m2 : Nat) : fzl [0,1] σ (bkA (b2 n k st m m2)) = bkA (b2 n k st m m2):=by
 rw [ja]
 unfold bkA b2
 have h : ∀ l : List Int,(l.map nA).map (fz [0,1] σ) = l.map nA:=by
  intro l;rw [List.map_map];exact List.map_congr_left (fun _ _=>rfl)
 simp only [List.map_cons,List.map_append,h]
 rfl
theorem zfT {n : Nat} (h1 : 1 ≤ n) (h : n < 31) : (kx n).set n (codeN n * 2) = kx (n + 1):=by
 unfold kx
 refine ztp h (if_pos ⟨h1,by omega⟩) (fun i hi=>?_)
 by_cases c : 1 ≤ i ∧ i < n
 ·rw [if_pos c,if_pos ⟨c.1,by omega⟩]
 ·rw [if_neg c,if_neg (by omega)]
theorem zhf {n : Nat} (h1 : 1 ≤ n) (h : n < 31) : (za1 n).set n ((ordN n).length : Int) = za1 (n + 1):=by
 unfold za1
 refine ztp h (if_pos ⟨h1,by omega⟩) (fun i hi=>?_)
 by_cases c : 1 ≤ i ∧ i < n
 ·rw [if_pos c,if_pos ⟨c.1,by omega⟩]
 ·rw [if_neg c,if_neg (by omega)]
theorem zfU {n k : Nat} (hk : k < 257) (h : szI (k : Int) = n) : (yN n k).set k (codeN n * 2 + cntN k n) = yN n (k + 1):=by
 unfold yN
 refine ztp hk ?_ (fun i hi=>?_)
 ·rw [if_pos (.inr ⟨h, by omega⟩)]
  unfold csI
  rw [h];rfl
 ·by_cases c : szI (i : Int) < n ∨ (szI (i : Int) = n ∧ i < k)
  ·rw [if_pos c,if_pos (by omega)]
  ·rw [if_neg c,if_neg (by omega)]
theorem zfV {n k : Nat} (h : ¬ szI (k : Int) = n) : yN n (k + 1) = yN n k:=by
 unfold yN
 apply List.map_congr_left
 intro i _
 by_cases e : i = k
 ·subst e
  by_cases c : szI (i : Int) < n
  ·rw [if_pos (.inl c),if_pos (.inl c)]
  ·rw [if_neg (by omega),if_neg (by omega)]
 ·by_cases c : szI (i : Int) < n ∨ (szI (i : Int) = n ∧ i < k)
  ·rw [if_pos c,if_pos (by omega)]
  ·rw [if_neg c,if_neg (by omega)]
theorem zea (n : Nat) : yN n 257 = yN (n + 1) 0:=by
 unfold yN
 apply List.map_congr_left
 intro i hi
 have hi : i < 257:=by simpa using hi
 by_cases c : szI (i : Int) < n ∨ (szI (i : Int) = n ∧ i < 257)
 ·rw [if_pos c,if_pos (by omega)]
 ·rw [if_neg c,if_neg (by omega)]
theorem zfW : yN 1 0 = zso:=by decide +kernel
theorem zfX : kx 1 = z31:=by decide +kernel
theorem zhg : za1 1 = z31:=by decide +kernel
theorem ze1 : ordN 1 = []:=by decide +kernel
theorem zfY (n : Nat) : codeN (n + 1) = codeN n * 2 + cntN 257 n:=rfl
theorem zhh (n : Nat) : ordN (n + 1) = ordN n ++ zcO n 257:=rfl
theorem zmK : (ordN 31).length = 257:=by decide +kernel
theorem codeN_one : codeN 1 = 0:=by decide +kernel
attribute [local irreducible] bkA cntN codeN ordN zcO yN kx za1 zd8
set_option maxRecDepth 20000 in
set_option maxHeartbeats 40000000 in
theorem ztr : AEq Tryz.prog 237 [] [] (.ptr 0 0) [.box (bkA (b2 31 0 257 31 31)),.row 257 3 1 ((ordN 31).map zbC)]:=by
 refine zc Tryz.func237 rfl Tryz.ntmps237 (by simp) (fun hsc=>?_);simp only [Lf.enter,Nat.reduceAdd];clear hsc
 have hU:=True.intro
 repeat' (first|(refine goR ?_)|(refine za (fun K hK=>?_))|(refine hK _ _ ?_;clear hK K))
 refine zz [2,8,9,10,11,12,13,14,15,16,17,18,19,20,21,22] (fun k : Nat=>[(8,i64 k)]) (fun k=>[.box (bkA (b1 k))]) (fun k=>k ≤ 257) (fun k=>257 - k) 0 (Nat.zero_le _) ?_ (by with_unfolding_all rfl) ?_
 ·(refine ⟨⟨_,sT,?_⟩,trivial⟩<;>(try (first|exact zi)))
 ·rintro k hk
  simp only [vf,List.map_cons,List.map_nil,List.cons_append,List.nil_append]
  by_cases hlt : k < 257
  ·have hsb := zg7 (s := (k : Int)) (by omega) (by omega)
   obtain ⟨n,hn⟩ : ∃ n : Nat,szI (k : Int) = n:=⟨(szI (k : Int)).toNat,by omega⟩
   have hn31 : n < 31:=by omega
   have hcl : (zd8 k)[n]? = some (cntN k n):=by unfold zd8;rw [List.getElem?_map,List.getElem?_range hn31];rfl
   have hget : (bkA (b1 k))[290 + n * 1]? = some (i64 (cntN k n)):=by rw [Nat.mul_one];exact zd7 (zhe k) hcl
   have hput : List.take (290 + n * 1) (bkA (b1 k)) ++ [i64 (cntN k n + 1)] ++ List.drop (290 + n * 1 + 1) (bkA (b1 k)) = bkA (b1 (k + 1)):=by
    rw [Nat.mul_one]
    refine (show _ = putCells (bkA (b1 k)) (290 + n) [nA (cntN k n + 1)] from rfl).trans ((zjR (zhe k) hn31 (cntN k n + 1)).trans ?_)
    show bkA ⟨zso,.sl true false [],z31,(zd8 k).set n (cntN k n + 1),z31⟩ = _
    rw [zjS k n hn31 hn];rfl
   have hlen:=zaY (zhe k)
   have hcb : 0 ≤ cntN k n ∧ cntN k n ≤ 257:=zhd (by omega)
   have hle : (290 + n * 1 + 1 ≤ 352) = True:=by simp;omega
   have hle2 : (290 + n * 1 + (0 + 1) ≤ 352) = True:=by simp;omega
   have hU:=And.intro @hn ( And.intro @hget ( And.intro @hput ( And.intro @hlen ( And.intro @hle (@hle2)))))
   repeat' (first|(refine goR ?_)|(guard_target =~ PWp _ _ _ _ _ _ _;refine yp (id:=5) [0,1,2,3,4,5,6,7,8,9,10,11] [11] mixed (by kernel_rfl) (by kernel_rfl) ?_)|(refine za (fun K hK=>?_))|((refine zb (fun hcd=>?_) (fun hcd=>?_))<;>(try simp only [hcP] at hcd)<;>(try exact cdT))|(guard_target =~ dw _ _ _ _ _ _ _ _ _ _;first|(guard_target =~ dw _ _ _ _ _ (2 :: _) _ _ _ _;(refine z9 rfl rfl (h:=(fun τ=>yj (h:=zd (f:=247) rfl Tryz.call247 (h:=AEq.pure' agT (zjP _ (by omega) (by omega)) (hq:=ze ⟨rfl,rfl⟩))))) (hk:=?_)))|((first|guard_target =~ dw _ _ _ _ _ (5 :: _) _ _ _ _|guard_target =~ dw _ _ _ _ _ (9 :: _) _ _ _ _|guard_target =~ dw _ _ _ _ _ (10 :: _) _ _ _ _);(refine vX rfl rfl (h:=yj (h:=zP rfl (hK:=ze ⟨rfl,rfl⟩))) (hk:=?_)))|((first|guard_target =~ dw _ _ _ _ _ (10 :: _) _ _ _ _|guard_target =~ dw _ _ _ _ _ (11 :: _) _ _ _ _);(refine zbn rfl rfl (h:=ziN (h:=z6 rfl (hK:=ze ⟨rfl,rfl⟩))) (hk:=?_))))|(refine hK _ _ ?_;clear hK K))
   refine ⟨k + 1,by omega,by omega,?_,arT,srT⟩
   (refine ⟨⟨_,sT,?_⟩,trivial⟩<;>(try (first|exact zi)))
  ·have hk7 : k = 257 := by omega
   subst hk7
   repeat' (first|(refine goR ?_)|(refine za (fun K hK=>?_))|((refine zb (fun hcd=>?_) (fun hcd=>?_))<;>(try simp only [hcP] at hcd)<;>(try exact cdT))|(refine hK _ _ ?_;clear hK K)|(apply_assumption (exfalso:=false) (symm:=false)))
   refine vO (σ2:=[.box (bkA (b2 1 0 0 1 1)),.row 0 3 1 ((ordN 1).map zbC)]) 0 258 3 1 (by decide) rfl (zd9 (zhe 257)) ?_ ?_
   ·show [Ob.box ((bkA (b1 257)).set 258 (.row 1 0)), Ob.row 0 3 1 []] = _
    rw [zjU (zhe 257),ze1]
    unfold b2 b1
    rw [zfW,zfX,zhg]
    rfl
   refine zz [3,4,5,23,24,25,26,27,28,29,30,31,32,33,34,35,36,37,38,39,40,41,42,43,44,45,46,47,48,49,50,51,52,53,54,55,56,57,58,59,60,61,62,63,64,65,66,67,68,69,70] (fun n : Nat=>[(4,i64 n),(3,i64 (codeN n))]) (fun n=>[.box (bkA (b2 n 0 (ordN n).length n n)),.row (ordN n).length 3 1 ((ordN n).map zbC)]) (fun n=>1 ≤ n ∧ n ≤ 31) (fun n=>31 - n) 1 ⟨by decide,by decide⟩ ?_ (by rw [ze1];rfl) ?_
   ·(refine ⟨⟨_, sT, ?_⟩, ⟨_, sT, ?_⟩, trivial⟩ <;> (try (first | exact zi)))
    all_goals exact yG codeN_one.symm
   ·rintro n ⟨h1, h31⟩
    simp only [vf,List.map_cons,List.map_nil,List.cons_append,List.nil_append]
    by_cases hlt2 : n < 31
    ·have hcb := zeZ ⟨n, by omega⟩
     have hcb2:=zeZ ⟨n + 1,by omega⟩
     have hol:=zjW ⟨n,by omega⟩
     dsimp only at hcb hcb2 hol
     have hlen:=zaY (zbo n 0 (ordN n).length n n)
     have hlen1:=zaY (zbo n 0 (ordN n).length (n + 1) n)
     have hfst : List.take (259 + n * 1) (bkA (b2 n 0 (ordN n).length n n)) ++ [i64 (codeN n * 2)] ++ List.drop (259 + n * 1 + 1) (bkA (b2 n 0 (ordN n).length n n)) = bkA (b2 n 0 (ordN n).length (n + 1) n):=by
      rw [Nat.mul_one]
      refine (show _ = putCells (bkA (b2 n 0 (ordN n).length n n)) (259 + n) [nA (codeN n * 2)] from rfl).trans ((zjV (zbo n 0 (ordN n).length n n) hlt2 (codeN n * 2)).trans ?_)
      show bkA ⟨yN n 0,.row 1 (ordN n).length,(kx n).set n (codeN n * 2),zd8 257,za1 n⟩ = _
      rw [zfT h1 hlt2];rfl
     have hbse : List.take (321 + n * 1) (bkA (b2 n 0 (ordN n).length (n + 1) n)) ++ [i64 ((ordN n).length : Int)] ++ List.drop (321 + n * 1 + 1) (bkA (b2 n 0 (ordN n).length (n + 1) n)) = bkA (b2 n 0 (ordN n).length (n + 1) (n + 1)):=by
      rw [Nat.mul_one]
      refine (show _ = putCells (bkA (b2 n 0 (ordN n).length (n + 1) n)) (321 + n) [nA ((ordN n).length : Int)] from rfl).trans ((zmH (zbo n 0 (ordN n).length (n + 1) n) hlt2 ((ordN n).length : Int)).trans ?_)
      show bkA ⟨yN n 0,.row 1 (ordN n).length,kx (n + 1),zd8 257,(za1 n).set n ((ordN n).length : Int)⟩ = _
      rw [zhf h1 hlt2];rfl
     have hor:=zd9 (zbo n 0 (ordN n).length (n + 1) n)
     have hor1 : (bkA (b2 n 0 (ordN n).length (n + 1) n))[258]? = some (.row 1 (ordN n).length):=hor
     have hle1 : (259 + n * 1 + 1 ≤ 352) = True:=by simp;omega
     have hle2 : (259 + n * 1 + (0 + 1) ≤ 352) = True:=by simp;omega
     have hle3 : (321 + n * 1 + 1 ≤ 352) = True:=by simp;omega
     have hle4 : (321 + n * 1 + (0 + 1) ≤ 352) = True:=by simp;omega
     have hU:=And.intro @hlen ( And.intro @hlen1 ( And.intro @hfst ( And.intro @hbse ( And.intro @hor1 ( And.intro @hle1 ( And.intro @hle2 ( And.intro @hle3 (@hle4))))))))
     repeat' (first|(refine goR ?_)|(guard_target =~ PWp _ _ _ _ _ _ _;refine zp (id:=13) [0,1,2,3,4,5,6,7,8,9,10] [10] mixed (by kernel_rfl) (by kernel_rfl) ?_)|(refine za (fun K hK=>?_))|((refine zb (fun hcd=>?_) (fun hcd=>?_))<;>(try simp only [hcP] at hcd)<;>(try exact cdT))|(guard_target =~ dw _ _ _ _ _ _ _ _ _ _;first|((first|guard_target =~ dw _ _ _ _ _ (5 :: _) _ _ _ _|guard_target =~ dw _ _ _ _ _ (9 :: _) _ _ _ _|guard_target =~ dw _ _ _ _ _ (10 :: _) _ _ _ _);(refine vX rfl rfl (h:=yj (h:=zP rfl (hK:=ze ⟨rfl,rfl⟩))) (hk:=?_)))|((first|guard_target =~ dw _ _ _ _ _ (10 :: _) _ _ _ _|guard_target =~ dw _ _ _ _ _ (11 :: _) _ _ _ _);(refine zbn rfl rfl (h:=ziN (h:=z6 rfl (hK:=ze ⟨rfl,rfl⟩))) (hk:=?_))))|(refine hK _ _ ?_;clear hK K))
     refine zz [3,5,45,46,47,48,49,50,51,52,53,54,55,56,57,58,59,60,61,62,63,64,65,66,67,68,69,70] (fun k : Nat=>[(45,i64 k),(3,i64 (codeN n * 2 + cntN k n))]) (fun k=>[.box (bkA (b2 n k ((ordN n).length + (zcO n k).length) (n + 1) (n + 1))),.row ((ordN n).length + (zcO n k).length) 3 1 ((ordN n ++ zcO n k).map zbC)]) (fun k=>k ≤ 257) (fun k=>257 - k) 0 (Nat.zero_le _) ?_ (by rw [zqq,List.append_nil];rfl) ?_
     ·(refine ⟨⟨_, sT, ?_⟩, ⟨_, sT, ?_⟩, trivial⟩ <;> (try (first | exact zi)))
      all_goals exact yG (by rw [zqr,Int.add_zero])
     ·rintro k hk
      simp only [vf,List.map_cons,List.map_nil,List.cons_append,List.nil_append]
      by_cases hlt3 : k < 257
      ·have hsb := zg7 (s := (k : Int)) (by omega) (by omega)
       have hsl:=zmI n k
       have hck:=zmJ (k:=k) (n:=n) (by omega)
       by_cases hsz : szI (k : Int) = (n : Int)
       ·obtain ⟨st, hst⟩ : ∃ st, (ordN n).length + (zcO n k).length = st := ⟨_, rfl⟩
        rw [hst]
        have hlenk:=zaY (zbo n k st (n + 1) (n + 1))
        have hlenk1:=zaY (zbo n k (st + 1) (n + 1) (n + 1))
        have hork : (bkA (b2 n k st (n + 1) (n + 1)))[258]? = some (.row 1 st):=zd9 (zbo n k st (n + 1) (n + 1))
        have hap : List.map zbC (ordN n ++ zcO n k) ++ [[AV.lit (.int .i64 (k : Int))]] = List.map zbC (ordN n ++ zcO n (k + 1)):=by
         rw [za0,if_pos hsz,← List.append_assoc,List.map_append (l₁:=ordN n ++ zcO n k)];rfl
        have hpo : List.take 258 (bkA (b2 n k st (n + 1) (n + 1))) ++ [.row 1 (st + 1)] ++ List.drop 259 (bkA (b2 n k st (n + 1) (n + 1))) = bkA (b2 n k (st + 1) (n + 1) (n + 1)):=
         (show _ = putCells (bkA (b2 n k st (n + 1) (n + 1))) 258 [.row 1 (st + 1)] from rfl).trans (zy6 (zbo n k st (n + 1) (n + 1)) (.row 1 (st + 1)))
        have hpc : List.take (1 + k * 1) (bkA (b2 n k (st + 1) (n + 1) (n + 1))) ++ [i64 (codeN n * 2 + cntN k n)] ++ List.drop (1 + k * 1 + 1) (bkA (b2 n k (st + 1) (n + 1) (n + 1))) = bkA (b2 n (k + 1) (st + 1) (n + 1) (n + 1)):=by
         rw [Nat.mul_one]
         refine (show _ = putCells (bkA (b2 n k (st + 1) (n + 1) (n + 1))) (1 + k) [nA (codeN n * 2 + cntN k n)] from rfl).trans ((zjT (zbo n k (st + 1) (n + 1) (n + 1)) hlt3 (codeN n * 2 + cntN k n)).trans ?_)
         show bkA ⟨(yN n k).set k (codeN n * 2 + cntN k n),.row 1 (st + 1),kx (n + 1),zd8 257,za1 (n + 1)⟩ = _
         rw [zfU hlt3 hsz];rfl
        have hlk1 : (1 + k * 1 + 1 ≤ 352) = True:=by simp;omega
        have hlk2 : (1 + k * 1 + (0 + 1) ≤ 352) = True:=by simp;omega
        have hol2 : (ordN n ++ zcO n k).length = st:=by rw [List.length_append];exact hst
        have hU:=And.intro @hsz ( And.intro @hlenk ( And.intro @hlenk1 ( And.intro @hork ( And.intro @hap ( And.intro @hpo ( And.intro @hpc ( And.intro @hlk1 (@hlk2))))))))
        repeat' (first|(refine goS ?_)|(refine za (fun K hK=>?_))|((refine zb (fun hcd=>?_) (fun hcd=>?_))<;>(try simp only [hcP] at hcd)<;>(try exact cdT))|(refine zd (f:=247) rfl Tryz.call247 (h:=AEq.pure' agT (zjP _ (by omega) (by omega)) (hq:=?_)))|(refine hK _ _ ?_;clear hK K))
        refine ⟨k + 1,by omega,by omega,?_,arT,?_⟩
        ·(refine ⟨⟨_, sT, ?_⟩, ⟨_, sT, ?_⟩, trivial⟩ <;> (try (first | exact zi)))
         all_goals exact yG (by rw [jC,if_pos hsz,Int.add_assoc])
        ·rw [za0, if_pos hsz, List.length_append, ← Nat.add_assoc, hst]
         simp only [hap,hpo,hpc,go_sem]
       ·have hbn : ∀ st : Nat, b2 n (k + 1) st (n + 1) (n + 1) = b2 n k st (n + 1) (n + 1) := fun st => by unfold b2; rw [zfV hsz]
        have hU:=True.intro
        repeat' (first|(refine goR ?_)|(refine za (fun K hK=>?_))|((refine zb (fun hcd=>?_) (fun hcd=>?_))<;>(try simp only [hcP] at hcd)<;>(try exact cdT))|(refine zd (f:=247) rfl Tryz.call247 (h:=AEq.pure' agT (zjP _ (by omega) (by omega)) (hq:=?_)))|(refine hK _ _ ?_;clear hK K))
        refine ⟨k + 1,by omega,by omega,?_,arT,?_⟩
        ·(refine ⟨⟨_, sT, ?_⟩, ⟨_, sT, ?_⟩, trivial⟩ <;> (try (first | exact zi)))
         all_goals exact yG (by rw [jC,if_neg hsz,Int.add_zero])
        ·rw [za0,if_neg hsz,List.append_nil,hbn]
      ·have hk7 : k = 257 := by omega
       subst hk7
       have hU:=True.intro
       repeat' (first|(refine goR ?_)|(refine za (fun K hK=>?_))|((refine zb (fun hcd=>?_) (fun hcd=>?_))<;>(try simp only [hcP] at hcd)<;>(try exact cdT))|(refine hK _ _ ?_;clear hK K)|(apply_assumption (exfalso:=false) (symm:=false)))
       refine ⟨n + 1,⟨by omega,by omega⟩,by omega,?_,arT,?_⟩
       ·(refine ⟨⟨_, sT, ?_⟩, ⟨_, sT, ?_⟩, trivial⟩ <;> (try (first | exact zi)))
        all_goals exact yG (zfY n).symm
       ·have hb3 : ∀ st : Nat, b2 (n + 1) 0 st (n + 1) (n + 1) = b2 n 257 st (n + 1) (n + 1) := fun st => by unfold b2; rw [zea]
        rw [zhh,List.length_append,hb3]
    ·have hn31 : n = 31 := by omega
     subst hn31
     have hol31:=zmK
     have hU:=@hol31
     repeat' (first|(refine goR ?_)|(refine za (fun K hK=>?_))|((refine zb (fun hcd=>?_) (fun hcd=>?_))<;>(try simp only [hcP] at hcd)<;>(try exact cdT))|((refine zh [0,1] (by rw [Tryz.results237,Lf.zy]) (zj ?_) ?_)<;>(try (first|exact zi|exact stT)))|(refine hK _ _ ?_;clear hK K)|(apply_assumption (exfalso:=false) (symm:=false)))
end Go.Proofs.YtdalcgfnlbofdaaGreatDoor
namespace Go.Proofs.YtdalcgfnlbofdaaGreatDoor
open Go Go.Lf Go.Proofs
attribute [local irreducible] Lf.rg Lf.ro Lf.PWp Lf.SOp Lf.ACall Lf.Scoped Lf.dg Lf.dw
set_option maxRecDepth 20000
set_option maxHeartbeats 4000000
def bkB : List AV:=bkA (b2 31 0 257 31 31)
def ordB : List Nat:=ordN 31
def zmL (n : Nat) : Int:=codeN n * 2
def zqt (n : Nat) : Int:=((ordN n).length : Int)
theorem zts : bkB[0]? = some (bl true):=by unfold bkB bkA;rfl
theorem zjX {s : Nat} (hs : s < 257) : bkB[1 + s]? = some (i64 (csI s)):=by
 have hb:=zg7 (s:=(s : Int)) (by omega) (by omega)
 have e : bkB = [bl true] ++ ((yN 31 0).map nA ++ (.row 1 257 :: ((kx 31).map nA ++ ((zd8 257).map nA ++ (za1 31).map nA)))):=by unfold bkB bkA b2;simp
 rw [e,List.getElem?_append_right (by simp),show 1 + s - ([bl true] : List AV).length = s from by simp,List.getElem?_append_left (by simp [yN];omega),List.getElem?_map]
 have hc : (yN 31 0)[s]? = some (csI s):=by
  unfold yN
  rw [List.getElem?_map,List.getElem?_range hs,Option.map_some,if_pos (.inl (by omega))]
 rw [hc];rfl
@[go_sem] theorem zuy {σ : Sto} : fzl [0,1] σ bkB = bkB:=ztq 31 0 257 31 31
theorem ztt : AEq Tryz.prog 237 [] [] (.ptr 0 0) [.box bkB,.row 257 3 1 (ordB.map zbC)]:=ztr
def zhi (c n : Int) : Bool:=decide (1 ≤ n ∧ n ≤ 30 ∧ zmL n.toNat ≤ c ∧ c - zmL n.toNat < cntN 257 n.toNat)
def zfZ (c n : Int) : Int:=(ordB.getD (zqt n.toNat + (c - zmL n.toNat)).toNat 0 : Nat)
theorem zeb (f : Nat → Nat) : ∀ xs, rnl f xs = xs.map (rn f)
 | []=>rfl
 | x :: xs=>by rw [rnl,zeb f xs];rfl
theorem ze2 (n : Nat) : ∀ xs, jP n xs = xs.all (scp n)
 | []=>rfl
 | x :: xs=>by rw [jP,ze2 n xs];rfl
theorem zhj : ∀ xs, nbl xs = xs.all nb
 | []=>rfl
 | x :: xs=>by rw [nbl,zhj xs];rfl
@[go_sem] theorem zmM (L : Nat) : rnl (ix [0,1] L) bkB = bkB:=by
 rw [zeb]
 unfold bkB bkA b2
 have h : ∀ l : List Int,(l.map nA).map (rn (ix [0,1] L)) = l.map nA:=by
  intro l;rw [List.map_map];exact List.map_congr_left (fun _ _=>rfl)
 simp only [List.map_cons,List.map_append,h]
 rfl
theorem zjY : jP 2 bkB = true:=by
 rw [ze2]
 unfold bkB bkA b2
 have h : ∀ l : List Int,(l.map nA).all (scp 2) = true:=by
  intro l;rw [List.all_map];exact List.all_eq_true.2 (fun _ _=>rfl)
 simp only [List.all_cons,List.all_append,h]
 rfl
@[go_sem] theorem zhk : nbl bkB = true:=by
 rw [zhj]
 unfold bkB bkA b2
 have h : ∀ l : List Int,(l.map nA).all nb = true:=by
  intro l;rw [List.all_map];exact List.all_eq_true.2 (fun _ _=>rfl)
 simp only [List.all_cons,List.all_append,h]
 rfl
theorem zlf (σ : Sto) : SubOk [0,1] [.box bkB,.row 257 3 1 (ordB.map zbC)] (.box bkB :: .row 257 3 1 (ordB.map zbC) :: σ):=by
 refine SubOk.mk' (by decide) ⟨?_,zjY,rfl,ze0 ordB,trivial⟩
 show some (Ob.box bkB) = some (Ob.box (rnl _ bkB))
 rw [zmM]
theorem zlg : ([.box bkB,.row 257 3 1 (ordB.map zbC)] : Sto).all okP = true:=by
 have h1:=zhk
 have h2:=ze0 ordB
 simp only [List.all_cons,List.all_nil,okP,h1,h2,Bool.and_self]
attribute [local irreducible] bkB cntN ordB zmL zqt csI
theorem zy7 (s : Int) : AEq Tryz.prog 249 [.ptr 0 0,i64 s] [.box bkB,.row 257 3 1 (ordB.map zbC)] (bl (decide (0 ≤ s) && decide (s ≤ 256))) [.box bkB,.row 257 3 1 (ordB.map zbC)]:=by
 have h0:=zts
 refine zc Tryz.func249 rfl Tryz.ntmps249 (by simp) (fun hsc=>?_);simp only [Lf.enter,Nat.reduceAdd];clear hsc
 have hU:=@h0
 repeat' (first|(refine goR ?_)|(refine za (fun K hK=>?_))|((refine zh [0,1] (by rw [Tryz.results249,Lf.zy]) (zj ?_) ?_)<;>(try (first|exact zi|exact stT)))|(refine hK _ _ ?_;clear hK K))
theorem ztu (s : Nat) (h1 : s < 257) : AEq Tryz.prog 239 [.ptr 0 0,i64 (s : Int)] [.box bkB,.row 257 3 1 (ordB.map zbC)] (.tu [i64 (csI s),i64 (szI (s : Int))]) [.box bkB,.row 257 3 1 (ordB.map zbC)]:=by
 have hc : bkB[1 + s * 1]? = some (i64 (csI s)):=by rw [Nat.mul_one];exact zjX h1
 have h2 : (s : Int) ≤ 256:=by omega
 refine zc Tryz.func239 rfl Tryz.ntmps239 (by simp) (fun hsc=>?_);simp only [Lf.enter,Nat.reduceAdd];clear hsc
 have hU:=@hc
 repeat' (first|(refine goR ?_)|(guard_target =~ PWp _ _ _ _ _ _ _;refine zp (id:=3) [0,1,2,3,4,5,6,7,8,9] [] mixed (by kernel_rfl) (by kernel_rfl) ?_)|(refine za (fun K hK=>?_))|((refine zb (fun hcd=>?_) (fun hcd=>?_))<;>(try simp only [hcP] at hcd)<;>(try exact cdT))|(refine zd (f:=249) rfl Tryz.call249 (h:=AEq.sub' [0,1] (by refine ⟨?_,?_,trivial⟩<;>(first|exact z0|exact yT (by rfl) (by rfl))) (by exact zlf _) (zy7 _) (ho:=by exact zlg) (hq:=?_)))|((refine zh [0,1] (by rw [Tryz.results239,Lf.yE]) (zA ?_ ?_) ?_)<;>(try (first|exact zi|exact stT)))|(guard_target =~ dw _ _ _ _ _ _ _ _ _ _;first|(guard_target =~ dw _ _ _ _ _ (4 :: _) _ _ _ _;(refine vX rfl rfl (h:=yj (h:=zP rfl (hK:=ze ⟨rfl,rfl⟩))) (hk:=?_)))|(guard_target =~ dw _ _ _ _ _ (7 :: _) _ _ _ _;(refine z9 rfl rfl (h:=(fun τ=>yj (h:=zd (f:=247) rfl Tryz.call247 (h:=AEq.pure' agT (zjP _ aoT aoT) (hq:=ze ⟨rfl,rfl⟩))))) (hk:=?_))))|(refine hK _ _ ?_;clear hK K))
end Go.Proofs.YtdalcgfnlbofdaaGreatDoor
namespace Go.Proofs.YtdalcgfnlbofdaaGreatDoor
open Go Go.Lf Go.Proofs
attribute [local irreducible] Lf.rg Lf.ro Lf.PWp Lf.SOp Lf.ACall Lf.Scoped Lf.dg Lf.dw
set_option maxRecDepth 20000
set_option maxHeartbeats 4000000
def ztv (c n : Int) : Int:=if zhi c n = true then zfZ c n else 0
attribute [local irreducible] bkB cntN ordB zmL zqt csI
end Go.Proofs.YtdalcgfnlbofdaaGreatDoor
namespace Go.Proofs.YtdalcgfnlbofdaaGreatDoor
open Go Go.Lf Go.Proofs
attribute [local irreducible] Lf.rg Lf.ro Lf.PWp Lf.SOp Lf.ACall Lf.Scoped Lf.dg Lf.dw
set_option maxRecDepth 20000
set_option maxHeartbeats 4000000
def tR0 : List Int:=[13,23,28,28,28,28,28,28,28,24,30,28,28,30,28,28]
def tR1 : List Int:=[28,28,28,28,28,28,30,28,28,28,28,28,28,28,28,28]
def tR2 : List Int:=[6,10,10,12,13,6,8,11,10,10,8,11,8,6,6,6]
def tR3 : List Int:=[5,5,5,6,6,6,6,6,6,6,7,8,15,6,12,10]
def tR4 : List Int:=[13,6,7,7,7,7,7,7,7,7,7,7,7,7,7,7]
def tR5 : List Int:=[7,7,7,7,7,7,7,7,8,7,8,13,19,13,14,6]
def tR6 : List Int:=[15,5,6,5,6,5,6,6,6,5,7,7,6,6,6,5]
def tR7 : List Int:=[6,7,6,5,5,6,7,7,7,7,7,15,11,14,13,28]
def tR8 : List Int:=[20,22,20,20,22,22,22,23,22,23,23,23,23,23,24,23]
def tR9 : List Int:=[24,24,22,23,24,23,23,23,23,21,22,23,22,23,23,24]
def zy8 : List Int:=[22,21,20,22,22,23,23,21,23,22,22,24,21,22,23,23]
def zy9 : List Int:=[21,21,22,21,23,22,23,23,20,22,22,22,23,22,22,23]
def zza : List Int:=[26,26,20,19,22,23,22,25,26,26,26,27,27,26,24,25]
def zzb : List Int:=[19,21,26,27,27,26,27,24,21,21,26,26,28,27,27,27]
def zzc : List Int:=[20,24,20,21,22,21,21,23,22,22,25,25,24,24,26,23]
def zzd : List Int:=[26,27,26,26,27,27,27,27,27,28,27,27,27,27,27,26]
def zze : List Int:=[30]
def zzf : Nat → List Int
 | 0=>tR0
 | 1=>tR1
 | 2=>tR2
 | 3=>tR3
 | 4=>tR4
 | 5=>tR5
 | 6=>tR6
 | 7=>tR7
 | 8=>tR8
 | 9=>tR9
 | 10=>zy8
 | 11=>zy9
 | 12=>zza
 | 13=>zzb
 | 14=>zzc
 | 15=>zzd
 | _=>zze
def zjZ : List Int:=(List.range 257).map fun s : Nat=>szI (s : Int)
attribute [local irreducible] zzf szI zjZ zcO ordN cntN codeN
end Go.Proofs.YtdalcgfnlbofdaaGreatDoor
namespace Go.Proofs.YtdalcgfnlbofdaaGreatDoor
open Go Go.Lf Go.Proofs
attribute [local irreducible] Lf.rg Lf.ro Lf.PWp Lf.SOp Lf.ACall Lf.Scoped Lf.dg Lf.dw
set_option maxRecDepth 20000
set_option maxHeartbeats 4000000
def symT : List Nat:=[48,49,50,97,99,101,105,111,115,116,32,37,45,46,47,51,52,53,54,55,56,57,61,65,95,98,100,102,103,104,108,109,110,112,114,117,58,66,67,68,69,70,71,72,73,74,75,76,77,78,79,80,81,82,83,84,85,86,87,89,106,107,113,118,119,120,121,122,38,42,44,59,88,90,33,34,40,41,63,39,43,124,35,62,0,36,64,91,93,126,94,125,60,96,123,92,195,208,128,130,131,162,184,194,224,226,153,161,167,172,176,177,179,209,216,217,227,229,230,129,132,133,134,136,146,154,156,160,163,164,169,170,173,178,181,185,186,187,189,190,196,198,228,232,233,1,135,137,138,139,140,141,143,147,149,150,151,152,155,157,158,165,166,168,174,175,180,182,183,188,191,197,231,239,9,142,144,145,148,159,171,206,215,225,236,237,199,207,234,235,192,193,200,201,202,205,210,213,218,219,238,240,242,243,255,203,204,211,212,214,221,222,223,241,244,245,246,247,248,250,251,252,253,254,2,3,4,5,6,7,8,11,12,14,15,16,17,18,19,20,21,23,24,25,26,27,28,29,30,31,127,220,249,10,13,22,256]
def zzg : List Nat:=[5,5,5,5,5,5,5,5,5,5,6,6,6,6,6,6,6,6,6,6,6,6,6,6,6,6,6,6,6,6,6,6,6,6,6,6,7,7,7,7,7,7,7,7,7,7,7,7,7,7,7,7,7,7,7,7,7,7,7,7,7,7,7,7,7,7,7,7,8,8,8,8,8,8,10,10,10,10,10,11,11,11,12,12,13,13,13,13,13,13,14,14,15,15,15,19,19,19,20,20,20,20,20,20,20,20,21,21,21,21,21,21,21,21,21,21,21,21,21,22,22,22,22,22,22,22,22,22,22,22,22,22,22,22,22,22,22,22,22,22,22,22,22,22,22,23,23,23,23,23,23,23,23,23,23,23,23,23,23,23,23,23,23,23,23,23,23,23,23,23,23,23,23,23,24,24,24,24,24,24,24,24,24,24,24,24,25,25,25,25,26,26,26,26,26,26,26,26,26,26,26,26,26,26,26,27,27,27,27,27,27,27,27,27,27,27,27,27,27,27,27,27,27,27,28,28,28,28,28,28,28,28,28,28,28,28,28,28,28,28,28,28,28,28,28,28,28,28,28,28,28,28,28,30,30,30,30]
def codO : List Int:=[0,1,2,3,4,5,6,7,8,9,20,21,22,23,24,25,26,27,28,29,30,31,32,33,34,35,36,37,38,39,40,41,42,43,44,45,92,93,94,95,96,97,98,99,100,101,102,103,104,105,106,107,108,109,110,111,112,113,114,115,116,117,118,119,120,121,122,123,248,249,250,251,252,253,1016,1017,1018,1019,1020,2042,2043,2044,4090,4091,8184,8185,8186,8187,8188,8189,16380,16381,32764,32765,32766,524272,524273,524274,1048550,1048551,1048552,1048553,1048554,1048555,1048556,1048557,2097116,2097117,2097118,2097119,2097120,2097121,2097122,2097123,2097124,2097125,2097126,2097127,2097128,4194258,4194259,4194260,4194261,4194262,4194263,4194264,4194265,4194266,4194267,4194268,4194269,4194270,4194271,4194272,4194273,4194274,4194275,4194276,4194277,4194278,4194279,4194280,4194281,4194282,4194283,8388568,8388569,8388570,8388571,8388572,8388573,8388574,8388575,8388576,8388577,8388578,8388579,8388580,8388581,8388582,8388583,8388584,8388585,8388586,8388587,8388588,8388589,8388590,8388591,8388592,8388593,8388594,8388595,8388596,16777194,16777195,16777196,16777197,16777198,16777199,16777200,16777201,16777202,16777203,16777204,16777205,33554412,33554413,33554414,33554415,67108832,67108833,67108834,67108835,67108836,67108837,67108838,67108839,67108840,67108841,67108842,67108843,67108844,67108845,67108846,134217694,134217695,134217696,134217697,134217698,134217699,134217700,134217701,134217702,134217703,134217704,134217705,134217706,134217707,134217708,134217709,134217710,134217711,134217712,268435426,268435427,268435428,268435429,268435430,268435431,268435432,268435433,268435434,268435435,268435436,268435437,268435438,268435439,268435440,268435441,268435442,268435443,268435444,268435445,268435446,268435447,268435448,268435449,268435450,268435451,268435452,268435453,268435454,1073741820,1073741821,1073741822,1073741823]
def zuz : Nat → List Int
 | 0=>List.replicate 257 0
 | i + 1=>(zuz i).set (symT.getD i 0) (codO.getD i 0)
def cdB : Nat → Int
 | 0=>0
 | i + 1=>codO.getD i 0
def zhl : List Int:=(List.range 257).map csI
attribute [local irreducible] szI zjZ symT codO zzg zuz zhl csI cdB
end Go.Proofs.YtdalcgfnlbofdaaGreatDoor
namespace Go.Proofs.YtdalcgfnlbofdaaGreatDoor
open Go Go.Lf Go.Proofs
attribute [local irreducible] Lf.rg Lf.ro Lf.PWp Lf.SOp Lf.ACall Lf.Scoped Lf.dg Lf.dw
set_option maxRecDepth 20000
set_option maxHeartbeats 4000000
attribute [go_sem] zhk
@[go_sem] theorem zmN : rnl (ix [] 0) bkB = bkB:=by
 rw [zeb]
 unfold bkB bkA b2
 have h : ∀ l : List Int,(l.map nA).map (rn (ix [] 0)) = l.map nA:=by
  intro l;rw [List.map_map];exact List.map_congr_left (fun _ _=>rfl)
 simp only [List.map_cons,List.map_append,h]
 rfl
def zoI (L : List Int) (x : UInt8) : List Int:=rpL L (csI x.toNat) (szI (x.toNat : Int))
def zak (b : List UInt8) : List Int:=b.foldl zoI []
theorem zhm (b : List UInt8) (x : UInt8) : zak (b ++ [x]) = zoI (zak b) x:=by unfold zak;rw [List.foldl_append];rfl
theorem zmO (L : List Int) (v n : Int) : L.length ≤ (rpL L v n).length ∧ (rpL L v n).length ≤ L.length + 32:=by
 unfold rpL
 split
 ·rename_i h
  rw [List.length_append,zmE]
  unfold rpE at h
  split at h
  ·cases h
  ·omega
 ·omega
theorem zcj (b : List UInt8) : (zak b).length ≤ 32 * b.length:=by
 have key : ∀ (b : List UInt8) (L : List Int),(b.foldl zoI L).length ≤ L.length + 32 * b.length:=by
  intro b
  induction b with
  | nil=>intro L;simp
  | cons x b ih=>
   intro L
   have h1:=ih (zoI L x)
   have h2:=(zmO L (csI x.toNat) (szI (x.toNat : Int))).2
   rw [List.foldl_cons,List.length_cons]
   unfold zoI at h1 ⊢
   omega
 have:=key b []
 unfold zak
 simpa using this
theorem ztw {b : List UInt8} {i : Nat} {x : UInt8} (h : b[i]? = some x) : zak (b.take (i + 1)) = zoI (zak (b.take i)) x:=by
 rw [yH h];exact zhm _ _
def zzh (b : List UInt8) : Int:=b.foldl (fun n x=>n + szI (x.toNat : Int)) 0
theorem zqu : zak [] = []:=rfl
theorem zqv : vv [] = []:=rfl
attribute [local irreducible] bkB cntN ordB zmL zqt csI szI rpL vv zak zzh
theorem zmP (f q : Bool) (b : List UInt8) (hb : b.length ≤ 100000) : AEq Tryz.prog 222 [.sl f q (b.map zf)] [] (.sl false false ((vv (zak b)).map zf)) []:=by
 have hr0:=zmN
 refine zc Tryz.func222 rfl Tryz.ntmps222 (by simp) (fun hsc=>?_);simp only [Lf.enter,Nat.reduceAdd];clear hsc
 have hU:=@hr0
 repeat' (first|(refine goR ?_)|(refine za (fun K hK=>?_))|(refine zd (f:=237) rfl Tryz.call237 (h:=AEq.sub' [] (hc:=ztt) (hq:=?_)))|(refine hK _ _ ?_;clear hK K))
 refine vO (σ2:=[.box bkB,.row 257 3 1 (ordB.map zbC),.box [.row 3 0,i64 0],.row 0 5 1 []]) 2 0 5 1 (by decide) rfl rfl rfl ?_
 refine zz [6,10,11,12,13,14,15,16,17,18,19,20,21] (fun i : Nat=>[(10,i64 i)]) (fun i=>[.box bkB,.row 257 3 1 (ordB.map zbC),.box [.row 3 (vv (zak (b.take i))).length,i64 (zak (b.take i)).length],.row (vv (zak (b.take i))).length 5 1 ((vv (zak (b.take i))).map zf)]) (fun i=>i ≤ b.length) (fun i=>b.length - i) 0 (Nat.zero_le _) ?_ (by rw [List.take_zero,zqu,zqv];rfl) ?_
 ·have hU := True.intro
  (refine ⟨⟨_,sT,?_⟩,trivial⟩<;>(try (first|exact zi)))
 ·rintro i hi
  simp only [vf,List.map_cons,List.map_nil,List.cons_append,List.nil_append]
  by_cases hlt : i < b.length
  ·obtain ⟨x, hx⟩ := vS hlt
   have hbs : rpL (zak (b.take i)) (csI x.toNat) (szI (x.toNat : Int)) = zak (b.take (i + 1)):=(ztw hx).symm
   have hel:=zcj (b.take i)
   have htl : (b.take i).length = i:=by rw [List.length_take];omega
   have hxl:=x.toNat_lt
   have hU:=@hbs
   repeat' (first|(refine goR ?_)|(refine za (fun K hK=>?_))|((refine zb (fun hcd=>?_) (fun hcd=>?_))<;>(try simp only [hcP] at hcd)<;>(try exact cdT))|(refine zd (f:=238) rfl Tryz.call238 (h:=AEq.sub' [_,_] (hc:=zqp _ _ _ (by omega)) (hq:=?_)))|(refine zd (f:=239) rfl Tryz.call239 (h:=AEq.sub' [0,1] (by refine ⟨?_,?_,trivial⟩<;>(first|exact z0|exact yT (by rfl) (by rfl))) (by exact zlf _) (ztu _ (by omega)) (ho:=by exact zlg) (hq:=?_)))|(refine hK _ _ ?_;clear hK K))
   refine ⟨i + 1,by omega,by omega,?_,arT,srT⟩
   (refine ⟨⟨_,sT,?_⟩,trivial⟩<;>(try (first|exact zi)))
  ·have hib : i = b.length := by omega
   subst hib
   have hel:=zcj b
   have hrl:=zcf (zak b)
   have htk : b.take b.length = b:=List.take_length
   rw [htk]
   have hU:=True.intro
   repeat' (first|(refine goR ?_)|(refine za (fun K hK=>?_))|((refine zb (fun hcd=>?_) (fun hcd=>?_))<;>(try simp only [hcP] at hcd)<;>(try exact cdT))|(refine zd (f:=240) rfl Tryz.call240 (h:=AEq.sub' [_,_] (hc:=zjO _ _ (by omega)) (hq:=?_)))|((refine zh [] (by rw [Tryz.results222,Lf.zy]) (zj ?_) ?_)<;>(try (first|exact zi|exact stT)))|(refine hK _ _ ?_;clear hK K)|(apply_assumption (exfalso:=false) (symm:=false)))
end Go.Proofs.YtdalcgfnlbofdaaGreatDoor
namespace Go.Proofs.YtdalcgfnlbofdaaGreatDoor
open Go Go.Lf Go.Proofs
attribute [local irreducible] Lf.rg Lf.ro Lf.PWp Lf.SOp Lf.ACall Lf.Scoped Lf.dg
set_option maxRecDepth 20000
set_option maxHeartbeats 4000000
structure Way (c : Int) (n : Nat) : Prop where
 l : codeN (n + 1) ≤ c
 u : c < 2 ^ n
 n : n ≤ 29
 z : 0 ≤ c
def huM : List Int → Int → Nat → List UInt8 → List UInt8 × Int
 | [],c,n,o=>if 7 < n ∨ c ≠ 2 ^ n - 1 then ([],10) else (o,0)
 | x :: l,c,n,o=>if zhi (2 * c + x) ((n : Int) + 1) = true then (if zfZ (2 * c + x) ((n : Int) + 1) = 256 then ([],11) else huM l 0 0 (o ++ [UInt8.ofNat (zfZ (2 * c + x) ((n : Int) + 1)).toNat])) else huM l (2 * c + x) (n + 1) o
end Go.Proofs.YtdalcgfnlbofdaaGreatDoor
