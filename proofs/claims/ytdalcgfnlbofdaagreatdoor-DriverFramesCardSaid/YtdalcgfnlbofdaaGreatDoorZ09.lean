import Derived.Test.YtdalcgfnlbofdaaGreatDoorTg
import Derived.Test.YtdalcgfnlbofdaaGreatDoorTy
import Derived.Test.YtdalcgfnlbofdaaGreatDoorLc
import Derived.Shelf.RegionOpenPlain
import Derived.WalkKit
import Derived.Deep.RegionLaw
import Derived.Lib.SliceRun
import Derived.Test.YtdalcgfnlbofdaaGreatDoorZ05
set_option linter.unusedVariables false
set_option linter.unusedSimpArgs false
namespace Go.Proofs.YtdalcgfnlbofdaaGreatDoor
open Go Go.Lf Go.Proofs
attribute [local irreducible] Lf.rg Lf.ro Lf.PWp Lf.SOp Lf.ACall Lf.Scoped Lf.dg Lf.dw
set_option maxRecDepth 20000
set_option maxHeartbeats 4000000
structure Fl where
 (n v : ByteArray) (k : Bool)
deriving DecidableEq
@[go_sem] def flA (f : Fl) : List AV:=[.lit (.string f.n),.lit (.string f.v),bl f.k]
@[go_sem] theorem ztc (l : List Fl) : yT (l.map flA).flatten = true:=z7 (fun _=>rfl) l
@[go_sem] theorem ztd {κ : List Nat} {σ : Sto} (l : List Fl) : List.map (fzl κ σ) (l.map flA) = l.map flA:=vo (fun _=>rfl) l
def xsE : List Fl:=[]
def flN (f : Fl) : Fl:=⟨f.n,f.v,false⟩
def wt (f : Fl) : Int:=f.n.size + f.v.size + 32
theorem zuH (f : Fl) : wt (flN f) = wt f:=rfl
theorem j7 (f : Fl) : 32 ≤ wt f:=by unfold wt;omega
def zO : List Fl → Int
 | []=>0
 | f :: l=>wt f + zO l
theorem sumW_nil : zO [] = 0:=rfl
theorem jv : ∀ (a b : List Fl), zO (a ++ b) = zO a + zO b
 | [],b=>by rw [List.nil_append,sumW_nil];omega
 | f :: a,b=>by rw [List.cons_append,zO,zO,jv a b];omega
theorem vi : ∀ l, 0 ≤ zO l ∧ (l ≠ [] → 32 ≤ zO l)
 | []=>⟨by rw [sumW_nil];omega,fun h=>absurd rfl h⟩
 | f :: l=>by
  have:=vi l
  have:=j7 f
  rw [zO]
  exact ⟨by omega,fun _=>by omega⟩
theorem zav : ∀ l, zO l.reverse = zO l
 | []=>rfl
 | f :: l=>by rw [List.reverse_cons,jv,zav l];simp only [zO];omega
def keptL : List Fl → Int → List Fl
 | [],_=>[]
 | x :: xs,m=>if m < zO (x :: xs) then keptL xs m else x :: xs
def kP : List Fl → Int → Int → Nat
 | [],_,_=>0
 | x :: l,n,m=>if m < n + wt x then 0 else kP l (n + wt x) m + 1
theorem ko (m : Int) (h0 : 0 ≤ m) : ∀ l, zO (keptL l m) ≤ m
 | []=>h0
 | x :: xs=>by
  unfold keptL
  split
  ·exact ko m h0 xs
  ·omega
theorem jx (m : Int) : ∀ l, (keptL l m).length ≤ l.length
 | []=>Nat.le_refl _
 | x :: xs=>by
  unfold keptL
  have:=jx m xs
  split
  ·rw [List.length_cons];omega
  ·exact Nat.le_refl _
theorem za3 (m : Int) : ∀ l, ∀ f ∈ keptL l m, f ∈ l
 | []=>fun f h=>h
 | x :: xs=>by
  intro f h
  unfold keptL at h
  split at h
  ·exact List.mem_cons_of_mem _ (za3 m xs f h)
  ·exact h
theorem zhW {l : List Fl} {m : Int} (h : zO l ≤ m) : keptL l m = l:=by
 cases l with
 | nil=>rfl
 | cons x xs=>unfold keptL;rw [if_neg (by omega)]
theorem keptL_zero (l : List Fl) : keptL l 0 = []:=by
 have h:=ko 0 (by decide) l
 have:=vi (keptL l 0)
 by_cases he : keptL l 0 = []
 ·exact he
 ·have:=this.2 he;omega
theorem zaw (m : Int) : ∀ (l : List Fl) (n : Int), kP l n m ≤ l.length
 | [],_=>Nat.le_refl _
 | x :: l,n=>by
  unfold kP
  have:=zaw m l (n + wt x)
  split
  ·omega
  ·rw [List.length_cons];omega
theorem zdl (m : Int) (x : Fl) : ∀ (l : List Fl) (n : Int), kP (l ++ [x]) n m = if n + zO l ≤ m ∧ n + zO l + wt x ≤ m then l.length + 1 else kP l n m
 | [],n=>by
  rw [List.nil_append,kP,kP,sumW_nil]
  have:=j7 x
  by_cases h : m < n + wt x
  ·rw [if_pos h,if_neg (by omega)]
  ·rw [if_neg h,if_pos (by omega)];rfl
 | y :: l,n=>by
  rw [List.cons_append,kP,kP,zO,zdl m x l (n + wt y)]
  have:=j7 x
  have:=vi l
  by_cases h : m < n + wt y
  ·rw [if_pos h,if_pos h,if_neg (by omega)]
  ·rw [if_neg h, if_neg h]
   by_cases h2 : n + wt y + zO l ≤ m ∧ n + wt y + zO l + wt x ≤ m
   ·rw [if_pos h2,if_pos (by omega)];rfl
   ·rw [if_neg h2,if_neg (by omega)]
theorem zcq (m : Int) : ∀ l : List Fl, (keptL l m).reverse = l.reverse.take (kP l.reverse 0 m)
 | []=>rfl
 | x :: xs=>by
  rw [List.reverse_cons,zdl,zav,Int.zero_add]
  unfold keptL
  have:=j7 x
  rw [zO]
  by_cases h : m < wt x + zO xs
  ·rw [if_pos h,if_neg (by omega),zcq m xs,List.take_append_of_le_length (by rw [List.length_reverse];have:=zaw m xs.reverse 0;rw [List.length_reverse] at this;exact this)]
  ·rw [if_neg h,if_pos (by omega),List.take_of_length_le (by simp),List.reverse_cons]
theorem zkr (l : List UInt8) : ∀ (k i : Nat) (r : List UInt8),i + k = l.length → ByteArray.toList.loop ⟨l.toArray⟩ i r = r.reverse ++ l.drop i:=by
 intro k
 induction k with
 | zero=>
  intro i r h
  unfold ByteArray.toList.loop
  have hs : (ByteArray.mk l.toArray).size = l.length:=rfl
  rw [if_neg (by rw [hs];omega),List.drop_of_length_le (by omega),List.append_nil]
 | succ k ih=>
  intro i r h
  unfold ByteArray.toList.loop
  have hs : (ByteArray.mk l.toArray).size = l.length:=rfl
  rw [if_pos (by rw [hs];omega),ih (i + 1) _ (by omega)]
  have hg : (ByteArray.mk l.toArray).get! i = l[i]'(by omega):=by
   show (l.toArray)[i]! = _
   simp [show i < l.length by omega]
  rw [hg,List.reverse_cons,List.append_assoc]
  congr 1
  rw [List.drop_eq_getElem_cons (i:=i) (by omega)]
  rfl
theorem zbM (l : List UInt8) : ByteArray.toList ⟨l.toArray⟩ = l:=by
 unfold ByteArray.toList
 rw [zkr l l.length 0 [] (by omega)]
 simp
@[go_sem] theorem zAL (a b : ByteArray) : (a.toList == b.toList) = decide (a = b):=by
 obtain ⟨⟨a⟩⟩:=a;obtain ⟨⟨b⟩⟩:=b
 rw [zbM,zbM]
 by_cases h : a = b<;>simp [h]
theorem yJ {α : Type} {l : List α} {i : Nat} {x : α} (h : l[i]? = some x) : l.drop i = x :: l.drop (i + 1):=by
 obtain ⟨hi,rfl⟩:=List.getElem?_eq_some_iff.1 h
 exact List.drop_eq_getElem_cons hi
theorem zf9 {α : Type} {l : List α} {i : Nat} {x : α} (h : l[i]? = some x) : l.take (i + 1) = l.take i ++ [x]:=by
 rw [List.take_add_one,h];rfl
def v8 (n v : ByteArray) : List Fl → Int → Int
 | [],_=>0
 | f :: l,i=>if f.n = n ∧ f.v = v then i else v8 n v l (i + 1)
def yA (n : ByteArray) : List Fl → Int → Int
 | [],_=>0
 | f :: l,i=>if f.n = n then i else yA n l (i + 1)
def fnI (R : List Fl) (n v : ByteArray) : Int:=if v8 n v R 1 ≠ 0 then v8 n v R 1 else yA n R 1
def fnB (R : List Fl) (n v : ByteArray) : Bool:=decide (v8 n v R 1 ≠ 0)
theorem zlT {R : List Fl} {n v : ByteArray} {k : Int} (h : v8 n v R 1 = k) (hk : k ≠ 0) : fnI R n v = k ∧ fnB R n v = true:=by
 unfold fnI fnB
 rw [h,if_pos hk]
 exact ⟨rfl,by simp [hk]⟩
theorem zed {R : List Fl} {n v : ByteArray} {k : Int} (h : v8 n v R 1 = 0) (hk : yA n R 1 = k) : fnI R n v = k ∧ fnB R n v = false:=by
 unfold fnI fnB
 rw [h,if_neg (by simp)]
 exact ⟨hk,by simp⟩
theorem zff (n v : ByteArray) : ∀ (l : List Fl) (i : Int), 1 ≤ i → 0 ≤ v8 n v l i ∧ v8 n v l i < i + l.length
 | [],i,h=>by unfold v8;rw [List.length_nil];omega
 | f :: l,i,h=>by
  unfold v8
  have:=zff n v l (i + 1) (by omega)
  rw [List.length_cons]
  split<;>omega
theorem zcr (n : ByteArray) : ∀ (l : List Fl) (i : Int), 1 ≤ i → 0 ≤ yA n l i ∧ yA n l i < i + l.length
 | [],i,h=>by unfold yA;rw [List.length_nil];omega
 | f :: l,i,h=>by
  unfold yA
  have:=zcr n l (i + 1) (by omega)
  rw [List.length_cons]
  split<;>omega
theorem zks (R : List Fl) (n v : ByteArray) : 0 ≤ fnI R n v ∧ fnI R n v ≤ R.length:=by
 have a:=zff n v R 1 (by decide)
 have b:=zcr n R 1 (by decide)
 unfold fnI
 split<;>omega
theorem zrr {l : List Fl} {i : Nat} {f : Fl} (h : l.reverse[i]? = some f) : l[l.length - (i + 1)]? = some f:=by
 have hi:=(List.getElem?_eq_some_iff.1 h).1
 rw [List.length_reverse] at hi
 rw [List.getElem?_reverse hi] at h
 rw [← h];congr 1;omega
theorem jy {P : Program} {f : FuncId} {args : List AV} {σ τ τ2 : Sto} {r r2 : AV} (h : AEq P f args σ r τ) (hw : ∀ ρ w v,Rel τ ρ w → GV τ ρ w → VR τ ρ w r v → ∃ ρ',Rel τ2 ρ' w ∧ VR τ2 ρ' w r2 v ∧ Step τ.length τ ρ w τ2 ρ' w) : AEq P f args σ r2 τ2:=by
 unfold AEq ACall at *
 intro ρ w vs hr hG hv
 refine (h ρ w vs hr hG hv).mono ?_
 rintro e w' ⟨x,σ3,ρ3,v,h1,⟨rfl,rfl⟩,h3,h4,h5⟩
 obtain ⟨ρ4,k1,k2,k3⟩:=hw ρ3 w' v h3 (hG.carry h5) h4
 exact ⟨_,_,ρ4,v,h1,⟨rfl,rfl⟩,k1,k2,h5.trans (k3.mono h5.len')⟩
theorem zga {σ : Sto} {q : Bool} {cs : List AV} {r : AV} (o k e sz : Nat) (h00 : 0 < sz) (hob : σ[o]? = some (.box cs)) (hc : cs[k]? = some (.sl true q [])) (ρ : Rz) (w : World) (v : Value) (hr : Rel σ ρ w) (hG : GV σ ρ w) (hv : VR σ ρ w r v) :
    ∃ ρ',Rel ((σ ++ [Ob.row 0 e sz []]).set o (Ob.box (cs.set k (AV.row σ.length 0)))) ρ' w ∧ VR ((σ ++ [Ob.row 0 e sz []]).set o (Ob.box (cs.set k (AV.row σ.length 0)))) ρ' w r v ∧ Step σ.length σ ρ w ((σ ++ [Ob.row 0 e sz []]).set o (Ob.box (cs.set k (AV.row σ.length 0)))) ρ' w:=by
  obtain ⟨ρ',_,h2,h3⟩:=zhg (N:=0) (n:=σ.length) (Γ:=[]) o k e sz h00 hob hc ρ w { tmps:=#[],defers:=[] } (Nat.le_refl _) ⟨rfl,⟨rfl,hG⟩,fun i=>trivial⟩ hr
  exact ⟨ρ',h2,VR.carry h3 _ _ hv,h3⟩
theorem zcs (f : Fl) (h1 : f.n.size ≤ 1000000000) (h2 : f.v.size ≤ 1000000000) : AEq Tryz.prog 223 [.ag (flA f)] [] (i64 (wt f)) []:=by
 refine zc Tryz.func223 rfl Tryz.ntmps223 (by simp) (fun hsc=>?_);simp only [Lf.enter,Nat.reduceAdd];clear hsc
 have hU:=True.intro
 repeat' (first|(refine goR ?_)|(refine za (fun K hK=>?_))|((refine ze [] (by rw [Tryz.results223,Lf.zt]) (zj ?_) ?_)<;>(try (first|exact zh|exact stT)))|(refine hK _ _ ?_;clear hK K))
theorem zct (f : Fl) (h1 : f.n.size ≤ 1000000000) (h2 : f.v.size ≤ 1000000000) : AEq Tryz.prog 168 [.ag (flA f)] [] (i64 (wt f)) []:=by
 refine zc Tryz.func168 rfl Tryz.ntmps168 (by simp) (fun hsc=>?_);simp only [Lf.enter,Nat.reduceAdd];clear hsc
 have hU:=True.intro
 repeat' (first|(refine goR ?_)|(refine za (fun K hK=>?_))|((refine ze [] (by rw [Tryz.results168,Lf.zt]) (zj ?_) ?_)<;>(try (first|exact zh|exact stT)))|(refine hK _ _ ?_;clear hK K))
theorem zrs (m : Int) : AEq Tryz.prog 149 [i64 m] [] (bl (decide (0 ≤ m ∧ m ≤ 2147483647))) []:=by
 refine zc Tryz.func149 rfl Tryz.ntmps149 (by simp) (fun hsc=>?_);simp only [Lf.enter,Nat.reduceAdd];clear hsc
 have hU:=True.intro
 repeat' (first|(refine goR ?_)|(refine za (fun K hK=>?_))|((refine ze [] (by rw [Tryz.results149,Lf.zt]) (zj ?_) ?_)<;>(try (first|exact zh|exact stT)))|(refine hK _ _ ?_;clear hK K))
 exact zq (by simp)
theorem zuI (m : Int) : AEq Tryz.prog 136 [i64 m] [] (bl (decide (0 ≤ m ∧ m ≤ 2147483647))) []:=by
 refine zc Tryz.func136 rfl Tryz.ntmps136 (by simp) (fun hsc=>?_);simp only [Lf.enter,Nat.reduceAdd];clear hsc
 have hU:=True.intro
 repeat' (first|(refine goR ?_)|(refine za (fun K hK=>?_))|((refine ze [] (by rw [Tryz.results136,Lf.zt]) (zj ?_) ?_)<;>(try (first|exact zh|exact stT)))|(refine hK _ _ ?_;clear hK K))
 exact zq (by simp)
open Go Go.Lf Go.Proofs Go.RowKit
theorem zkt {P : Program} {ops : Array Oper} {o : Oper} {a : Act} {w : World} {K : Act → World → Prop} {Q : Exit → Act → World → Prop} {E : Prop}
    (hg : o.guard = none) (s x : Operand) (t : TypeId) (hop : o.op = Op.call { callee:=Callee.builtin Builtin.append,args:=#[s,x],argTypes:=#[t,t] })
    (e : TypeId) (i : TypeInfo) (size : Nat) (h1 : P.underlying t = some (.slice e)) (h2 : P.info? e = some i) (h4 : i.size = size)
    (b n cap : Nat) (cur : Array Value) (hb : w.heap[b]? = some (.cells cur e (0,0))) (hs : a.eval s = .slice (some ⟨b,0,none⟩) n cap)
    (ad : Addr) (m c : Nat) (news : List Value) (hx : a.eval x = .slice (some ad) m c) (hn : news.length = m * size) (hc : ∀ j u,news[j]? = some u → w.cell? (ad.add j) = some u) (h1c : ∀ u ∈ news,u.oneCell' = true)
    (hroom : n + m ≤ cap) (hfit : n * size + news.length ≤ cur.size)
    (hK : K (a.put o.dst (.slice (some ⟨b,0,none⟩) (n + m) cap)) (w.setRow b (cur.toList.take (n * size) ++ news ++ cur.toList.drop (n * size + news.length)).toArray)) :
    if Region.wanted o (yielded ops a.tmps) = true then Oper.wp P o a w K Q else E:=by
  have hw : Region.wanted o (yielded ops a.tmps) = true:=by simp [Region.wanted,hg]
  rw [if_pos hw]
  subst h4
  have hrun:=run_append_room (P:=P) w t o.type e i h1 h2 b n cap cur hb ad m c news hn hc h1c hroom hfit
  unfold Oper.wp
  simp [execOp,hop,resolve,invoke,builtin,hs,hx,hrun,Result.andThen]
  rw [List.append_assoc] at hK
  exact hK
theorem zee {P : Program} (w : World) (t e : TypeId) (z : Value) (sz : Nat) (ht : P.underlying t = some (.slice e)) (hv : ∀ w, (zeroValue e).run P w = .ok z w) (hz : z.cells.size = sz) (h1 : ∀ u ∈ z.cells.toList, u.oneCell' = true) (b o n c : Nat) (hn : 0 < n)
    (cur : Array Value) (hb : w.heap[b]? = some (.cells cur e (0,0))) (hfit : o + n * sz ≤ cur.size) :
    ∃ zs : List Value,zs.length = n * sz ∧ ∀ ty,(Builtin.clear_ #[t] ty #[.slice (some ⟨b,o,none⟩) n c]).run P w = .ok (.tuple #[]) (w.setRow b (cur.toList.take o ++ zs ++ cur.toList.drop (o + n * sz)).toArray):=by
  have hl : (Builtin.zeroCells z.cells n).toList.length = n * sz:=by rw [Array.length_toList,size_zeroCells,hz]
  refine ⟨(Builtin.zeroCells z.cells n).toList,hl,fun ty=>?_⟩
  have hst:=run_storeCells_at (P:=P) b o e (Builtin.zeroCells z.cells n).toList 0 cur w hb (by rw [hl];omega) (by
    intro v hv'
    simp only [Builtin.zeroCells,Array.toList_map,List.mem_map] at hv'
    obtain ⟨j,_,rfl⟩:=hv'
    by_cases hj : j % z.cells.size < z.cells.size
    · rw [getElem!_pos z.cells _ hj]
      exact h1 _ (by simp)
    · rw [getElem!_neg z.cells _ hj];rfl)
  rw [Nat.add_zero,hl] at hst
  obtain ⟨m,rfl⟩ : ∃ m,n = m + 1:=⟨n - 1,by omega⟩
  simp [Builtin.clear_,run_underlying ht,hv,hst]
theorem zku (w : World) (b : Nat) (cur : Array Value) (e : TypeId) (hb : w.drew.heap[b]? = some (.cells cur e (0,0))) (c X : Array Value) : ((w.drew.setRow b c).setRow b X).heap = (w.setRow b X).heap:=by
 have hb' : w.heap[b]? = some (.cells cur e (0,0)):=hb
 apply Array.ext_getElem?
 intro i
 by_cases h : b = i
 ·subst h
  rw [setRow_heap _ b c X e _ (setRow_heap w.drew b cur c e _ hb),setRow_heap w b cur X e _ hb']
 ·rw [setRow_other _ b i _ (Ne.symm h),setRow_other _ b i _ (Ne.symm h),setRow_other _ b i _ (Ne.symm h)];rfl
theorem zfg (v : Value) (b : Option Addr) (n cap : Nat) (w : World) (hv : v = .slice b n cap) (hn : n ≤ cap) (hm : cap ≤ 9223372036854775807) :
    Calls Tryz.prog 224 #[.slice b n cap,.int .i64 0,.int .i64 0] w fun e w'=>e = .returned (.slice b n cap) ∧ w' = w:=by
  go_enter Tryz.func224,Tryz.ntmps224
  go_wp2
  all_goals (go_ret;exact ⟨rfl,rfl⟩)
theorem zrt (b n cap k : Nat) (cur : Array Value) (w : World) (hb : w.heap[b]? = some (.cells cur 103 (0, 0))) (hn : n ≤ cap) (hm : cap ≤ 9223372036854775807) (hk : k ≤ n) (hk0 : 0 < k) (hsz : cur.size = cap * 3) (hone : ∀ u ∈ (cur.toList.take (n * 3)).drop (k * 3), u.oneCell' = true) :
    Calls Tryz.prog 224 #[.slice (some ⟨b, 0, none⟩) n cap, .int .i64 0, .int .i64 k] w fun e w' => e = .returned (.slice (some ⟨b, 0, none⟩) (n - k) cap) ∧ w'.os = w.os ∧ w'.tape = w.tape ∧ w'.output = w.output ∧
      ∃ rest : List Value,w'.heap = (w.setRow b ((cur.toList.take (n * 3)).drop (k * 3) ++ rest).toArray).heap ∧ ((cur.toList.take (n * 3)).drop (k * 3) ++ rest).length = cap * 3:=by
  obtain ⟨i0,hi0,hz1⟩ : ∃ i,Tryz.prog.info? 103 = some i ∧ i.size = 3:=⟨_,rfl,rfl⟩
  obtain ⟨news,hnews⟩ : ∃ news,news = (cur.toList.take (n * 3)).drop (k * 3):=⟨_,rfl⟩
  rw [← hnews] at hone ⊢
  have hlen : news.length = (n - k) * 3:=by rw [hnews,List.length_drop,List.length_take,Array.length_toList,hsz];omega
  have hget : ∀ j u,news[j]? = some u → cur[k * 3 + j]? = some u:=by
    intro j u hu
    rw [hnews,List.getElem?_drop,List.getElem?_take] at hu
    split at hu
    · rw [← Array.getElem?_toList];exact hu
    · cases hu
  obtain ⟨A,hA,hsrc⟩ : ∃ A : Addr,(if cap = k then some (⟨b,0,none⟩ : Addr) else some ⟨b,k * 3,none⟩) = some A ∧ Hid (∀ j u,news[j]? = some u → w.drew.cell? (A.add j) = some u):=by
    by_cases h : cap = k
    · refine ⟨⟨b, 0, none⟩, by simp [h], fun j u hu => ?_⟩
      have h0 : news.length = 0:=by rw [hlen];omega
      rw [List.length_eq_zero_iff.1 h0] at hu
      simp at hu
    · refine ⟨⟨b, k * 3, none⟩, by simp [h], fun j u hu => ?_⟩
      rw [Addr.add_lit]
      show (w.cell? ⟨b,k * 3 + j,none⟩) = some u
      have:=hget j u hu
      simp [World.cell?,hb,this]
  have s1 : Hid (news.length = (n - k) * 3):=hlen
  have s2 : Hid (∀ u ∈ news,u.oneCell' = true):=hone
  have s3 : Hid (w.drew.heap[b]? = some (.cells cur 103 (0,0))):=hb
  have s4 : Hid (0 * 3 + news.length ≤ cur.size):=by show 0 * 3 + news.length ≤ cur.size;rw [hlen,hsz];omega
  obtain ⟨c1,hc1⟩ : ∃ c1,c1 = cur.toList.take (0 * 3) ++ news ++ cur.toList.drop (0 * 3 + news.length):=⟨_,rfl⟩
  have hc1l : c1.length = cap * 3:=by rw [hc1];simp [hlen,hsz];omega
  obtain ⟨W1,hW1⟩ : ∃ W1,W1 = w.drew.setRow b c1.toArray:=⟨_,rfl⟩
  have hH1 : W1.heap[b]? = some (.cells c1.toArray 103 (0,0)):=by rw [hW1];exact setRow_heap w.drew b cur c1.toArray _ _ hb
  have hcl : ∃ zs : List Value,zs.length = k * 3 ∧ ∀ ty,(Builtin.clear_ #[22] ty #[.slice (some ⟨b,(n - k) * 3,none⟩) k (cap - (n - k))]).run Tryz.prog W1 = .ok (.tuple #[]) (W1.setRow b (c1.take ((n - k) * 3) ++ zs ++ c1.drop ((n - k) * 3 + k * 3)).toArray):=by
    exact zee (P:=Tryz.prog) W1 22 103 _ 3 Tryz.underlying22 Tryz.zeroValue103 rfl (by decide) b ((n - k) * 3) k (cap - (n - k)) hk0 c1.toArray hH1 (by simp [hc1l];omega)
  obtain ⟨zs,hzl,hcl0⟩:=hcl
  have hcl : ∀ ty,(Builtin.clear_ #[22] ty #[.slice (some ⟨b,(n - k) * 3,none⟩) (n - (n - k)) (cap - (n - k))]).run Tryz.prog W1 = .ok (.tuple #[]) (W1.setRow b (c1.take ((n - k) * 3) ++ zs ++ c1.drop ((n - k) * 3 + k * 3)).toArray):=by
    intro ty
    rw [show n - (n - k) = k by omega]
    exact hcl0 ty
  clear hcl0
  have hW : Hid (W1 = w.drew.setRow b c1.toArray):=hW1
  have C1 : Hid (c1 = cur.toList.take (0 * 3) ++ news ++ cur.toList.drop (0 * 3 + news.length)):=hc1
  have H1 : Hid (W1.heap[b]? = some (.cells c1.toArray 103 (0,0))):=hH1
  have L1 : Hid (c1.length = cap * 3):=hc1l
  have hkc : k ≤ cap:=by omega
  have hk0' : ¬ (0 = k):=by omega
  have hkn : n - k ≤ n:=by omega
  have hkn2 : n - k ≤ cap:=by omega
  have Z : Hid (zs.length = k * 3):=hzl
  clear hW1 hc1 hH1 hc1l hzl hget hnews hlen hone hb hsz
  go_enter Tryz.func224,Tryz.ntmps224
  go_wp2_with fail
  go_region_law (refine zkt rfl (.tmp 22) (.tmp 25) 22 rfl 103 i0 3 Tryz.underlying22 hi0 hz1 b 0 cap cur s3.out (by simp [Act.eval,Act.put]) A (n - k) (cap - k) news (by simp [Act.eval,Act.put]) s1.out hsrc.out s2.out (by omega) s4.out ?_;rw [← C1.out,← hW.out])
  go_wp2
  go_ret
  have ht : c1.take ((n - k) * 3) = news:=by
    rw [C1.out,Nat.zero_mul,List.take_zero,List.nil_append,← s1.out,List.take_left]
  rw [ht,hW.out]
  refine ⟨rfl,rfl,rfl,rfl,zs ++ c1.drop ((n - k) * 3 + k * 3),zku w b cur _ s3.out _ _,?_⟩
  rw [List.length_append,List.length_append,List.length_drop,L1.out,Z.out,s1.out]
  omega
theorem zfh (cap n : Nat) (vs sp : List Value) (h : vs.length = n * 3) (k : Nat) : ((vs ++ sp).toArray.toList.take (n * 3)).drop (k * 3) = vs.drop (k * 3):=by
 rw [← h,List.take_left]
theorem zru (xs : List Fl) (s k : Nat) (h : k ≤ xs.length) : AEq Tryz.prog 224 [.row 0 s,i64 0,i64 k] [.row s 103 3 (xs.map flA)] (.row 0 (s + 1)) [.row (s + 1) 103 3 ((xs.drop k).map flA)]:=by
  unfold AEq ACall
  intro ρ w vs hr hG hv
  match vs,hv with
  | [v0,v1,v2],hv=>
  simp only [VRl,VR,and_true] at hv
  obtain ⟨⟨_,hv0⟩,rfl,rfl⟩:=hv
  have hv0:=(hv0 s 103 3 (xs.map flA) rfl).2 rfl
  subst hv0
  obtain ⟨h0,h00,hO⟩:=hr.obj 0 _ rfl
  have hll:=h0
  have all : ∀ q ∈ (xs.drop k).map flA,q.length = 3:=by intro q hq;simp only [List.mem_map] at hq;obtain ⟨_,_,rfl⟩:=hq;rfl
  have fin : ∀ (v' : Value) (w' : World), w'.os = w.os → w'.tape = w.tape → w'.output = w.output → w.heap.size ≤ w'.heap.size →
      (∀ b,b < w.heap.size → blk (ρ 0) ≠ some b → w'.heap[b]? = w.heap[b]?) → (∀ b,blk v' = some b → blk (ρ 0) = some b ∨ w.heap.size ≤ b) →
      (((∃ ad,v' = .slice ad 0 0) ∧ (xs.drop k).map flA = []) ∨ ∃ b cap,∃ us sp : List Value,v' = .slice (some ⟨b,0,none⟩) ((xs.drop k).map flA).length cap ∧ w'.heap[b]? = some (.cells (us ++ sp).toArray 103 (0,0)) ∧ ((xs.drop k).map flA).length ≤ cap ∧ (0 < cap ∧ cap ≤ maxLen) ∧ (us ++ sp).length = cap * 3 ∧ (∀ u ∈ us,u.oneCell' = true) ∧ VRl [.row s 103 3 (xs.map flA)] ρ w ((xs.drop k).map flA).flatten us) →
      ∃ r σ' ρ' v,Ending.returned v' = .returned v ∧ (r = AV.row 0 (s + 1) ∧ σ' = [Ob.row (s + 1) 103 3 ((xs.drop k).map flA)]) ∧ Rel σ' ρ' w' ∧ VR σ' ρ' w' r v ∧ Step 1 [.row s 103 3 (xs.map flA)] ρ w σ' ρ' w':=by
    intro v' w' os tp ou hsz hk hbl hrow
    have hs : [Ob.row s 103 3 (xs.map flA)][0]? = some (Ob.row s 103 3 (xs.map flA)):=rfl
    have hobj : ObjStep (some (Ob.row s 103 3 (xs.map flA))) (some (Ob.row (s + 1) 103 3 ((xs.drop k).map flA))) (ρ 0) v':=by simp only [ObjStep,true_and];omega
    have st:=vd (σ:=[Ob.row s 103 3 (xs.map flA)]) (ρ:=ρ) (w:=w) (w':=w') (r:=v') hs rfl hobj os tp ou hsz hk (fun b _=>hbl b)
    refine ⟨_,_,upd ρ 0 v',v',rfl,⟨rfl,rfl⟩,kg (σ:=[Ob.row s 103 3 (xs.map flA)]) hr hs rfl hobj os tp ou hsz hk (fun b _=>hbl b) ⟨all,h00,?_⟩,?_,st⟩
    · rcases hrow with h | ⟨b, cap, us, sp, k1, k2, k3, k4, k5, k6, k7⟩
      · exact .inl h
      · exact .inr ⟨b,cap,us,sp,k1,k2,k3,k4,k5,k6,VRl.carry st _ _ k7⟩
    · simp only [VR]
      refine ⟨by simp,fun s' e' sz' xs' hs'=>?_⟩
      simp at hs'
      obtain ⟨rfl,_⟩:=hs'
      exact ⟨Nat.le_refl _,fun _=>by rw [z6]⟩
  rcases hO with ⟨⟨ad,hO⟩,hx⟩|⟨b,cap,us,sp,hb',hh,hle,hm,hc,hone,hl⟩
  · have hx : xs = [] := by simpa using hx
    subst hx
    obtain rfl : k = 0:=by simpa using h
    rw [hO]
    refine (zfg _ ad 0 0 w rfl (Nat.le_refl _) (by omega)).mono ?_
    rintro e w' ⟨rfl,rfl⟩
    exact fin _ _ rfl rfl rfl (Nat.le_refl _) (fun _ _ _=>rfl) (fun b hb=>by cases ad<;>simp [blk] at hb) (.inl ⟨⟨ad,rfl⟩,rfl⟩)
  · have hlu := zP _ _ hl
    rw [yF h0,List.length_map] at hlu
    rw [List.length_map] at hb' hle
    have hmx : cap ≤ 9223372036854775807:=by have:=hm.2;unfold maxLen at this;omega
    have hflat : ((xs.drop k).map flA).flatten = ((xs.map flA).flatten).drop (k * 3):=by
      have:=List.take_append_drop k xs
      conv=>rhs;rw [← this]
      rw [List.map_append,List.flatten_append]
      have hlt : ((xs.take k).map flA).flatten.length = k * 3:=by rw [yF (sz:=3) (by intro q hq;simp only [List.mem_map] at hq;obtain ⟨_,_,rfl⟩:=hq;rfl),List.length_map,List.length_take];congr 1;omega
      rw [← hlt,List.drop_left]
    by_cases hk0 : k = 0
    · subst hk0
      rw [hb']
      refine (zfg _ (some ⟨b,0,none⟩) xs.length cap w rfl hle hmx).mono ?_
      rintro e w' ⟨rfl,rfl⟩
      exact fin _ _ rfl rfl rfl (Nat.le_refl _) (fun _ _ _=>rfl) (fun c hc=>.inl (by rw [hb'];exact hc)) (.inr ⟨b,cap,us,sp,by rw [List.length_map,List.drop_zero],hh,by rw [List.length_map,List.drop_zero];exact hle,hm,hc,hone,by rw [List.drop_zero];exact hl⟩)
    · rw [hb']
      refine (zrt b xs.length cap k (us ++ sp).toArray w hh hle hmx h (by omega) (by simpa using hc) (by rw [zfh cap xs.length us sp hlu.symm];intro u hu;exact hone u (List.mem_of_mem_drop hu))).mono ?_
      rintro e w' ⟨rfl,os,tp,ou,rest,hhp,hrl⟩
      rw [zfh cap xs.length us sp hlu.symm] at hhp hrl
      have hsz : w'.heap.size = w.heap.size:=by rw [hhp];simp
      refine fin _ _ os tp ou (by omega) (fun c _ hne=>?_) (fun c hc=>.inl (by rw [hb'];exact hc)) (.inr ⟨b,cap,us.drop (k * 3),rest,by rw [List.length_map,List.length_drop],?_,by rw [List.length_map,List.length_drop];omega,hm,hrl,fun u hu=>hone u (List.mem_of_mem_drop hu),by rw [hflat];exact yD _ _ _ hl⟩)
      · rw [hhp]
        exact setRow_other w b c _ (fun e=>hne (by rw [hb',e];simp [blk];omega))
      · rw [hhp]
        exact setRow_heap w b _ _ _ _ hh
theorem zgb {xs : List Fl} {g : Nat} {x : Fl} {m : Int} (hx : xs[g]? = some x) (h : m < zO (xs.drop g)) : keptL (xs.drop g) m = keptL (xs.drop (g + 1)) m ∧ zO (xs.drop g) = wt x + zO (xs.drop (g + 1)):=by
 have hd:=yJ hx
 rw [hd] at h ⊢
 exact ⟨by rw [keptL,if_pos h],rfl⟩
theorem za4 : ∀ (l : List Fl) (g : Nat), zO (l.drop g) ≤ zO l
 | [],g=>by rw [List.drop_nil];exact Int.le_refl _
 | x :: l,0=>Int.le_refl _
 | x :: l,g + 1=>by
  have:=za4 l g
  have:=j7 x
  rw [List.drop_succ_cons,zO];omega
theorem zbN {xs : List Fl} {g : Nat} {m : Int} (h : g = xs.length ∨ zO (xs.drop g) ≤ m) : keptL (xs.drop g) m = xs.drop g:=by
 rcases h with rfl|h
 ·rw [List.drop_length];rfl
 ·exact zhW h
theorem zcu (xs : List Fl) (s : Nat) (z m : Int) : AEq Tryz.prog 228 [.ptr 0 0] [.box [.row 1 s,i64 z,i64 m],.row s 103 3 (xs.map flA)] (i64 xs.length) [.box [.row 1 s,i64 z,i64 m],.row s 103 3 (xs.map flA)]:=by
 refine zc Tryz.func228 rfl Tryz.ntmps228 (by simp) (fun hsc=>?_);simp only [Lf.enter,Nat.reduceAdd];clear hsc
 have hU:=True.intro
 repeat' (first|(refine goR ?_)|(refine za (fun K hK=>?_))|((refine zb (fun hcd=>?_) (fun hcd=>?_))<;>(try simp only [hcP] at hcd)<;>(try exact cdT))|((refine ze [0,1] (by rw [Tryz.results228,Lf.zt]) (zj ?_) ?_)<;>(try (first|exact zh|exact stT)))|(refine hK _ _ ?_;clear hK K))
theorem zuJ (m : Int) (h : 0 ≤ m) (h2 : m ≤ 2147483647) : AEq Tryz.prog 101 [i64 m] [] (.tu [.ptr 0 0,i64 0]) [.box [.sl true false [],i64 0,i64 m]]:=by
 have hd : decide (0 ≤ m ∧ m ≤ 2147483647) = true:=by rw [decide_eq_true_eq];omega
 refine zc Tryz.func101 rfl Tryz.ntmps101 (by simp) (fun hsc=>?_);simp only [Lf.enter,Nat.reduceAdd];clear hsc
 have hU:=@hd
 repeat' (first|(refine goR ?_)|(refine za (fun K hK=>?_))|((refine zb (fun hcd=>?_) (fun hcd=>?_))<;>(try simp only [hcP] at hcd)<;>(try exact cdT))|(refine zd (f:=149) rfl Tryz.call149 (h:=AEq.pure' agT (zrs _) (hq:=?_)))|((refine ze [0] (by rw [Tryz.results101,Lf.yb]) (zu ?_ ?_) ?_)<;>(try (first|exact zh|exact stT)))|(refine hK _ _ ?_;clear hK K))
theorem znU (m : Int) (h : 0 ≤ m) (h2 : m ≤ 2147483647) : AEq Tryz.prog 101 [i64 m] [] (.tu [.ptr 0 0,i64 0]) [.box [.row 1 0,i64 (zO xsE),i64 m],.row 0 103 3 (xsE.map flA)]:=
 jy (zuJ m h h2) (fun ρ w v hr hG hv=>zga (q:=false) (cs:=[.sl true false [],i64 0,i64 m]) 0 0 103 3 (by decide) rfl rfl ρ w v hr hG hv)
theorem zpo (xs : List Fl) (s : Nat) (z m i : Int) (f : Fl) (h1 : 1 ≤ i) (h2 : i ≤ xs.length) (h3 : xs.length ≤ 100000) (hf : xs.reverse[i.toNat - 1]? = some f) : AEq Tryz.prog 229 [.ptr 0 0,i64 i] [.box [.row 1 s,i64 z,i64 m],.row s 103 3 (xs.map flA)] (.tu [.ag (flA f),bl true]) [.box [.row 1 s,i64 z,i64 m],.row s 103 3 (xs.map flA)]:=by
 have hg:=zrr hf
 have hr : (xs.map flA)[((xs.length : Int) - i).toNat]? = some (flA f):=by
  rw [List.getElem?_map,show ((xs.length : Int) - i).toNat = xs.length - (i.toNat - 1 + 1) from by omega,hg];rfl
 refine zc Tryz.func229 rfl Tryz.ntmps229 (by simp) (fun hsc=>?_);simp only [Lf.enter,Nat.reduceAdd];clear hsc
 have hU:=@hr
 repeat' (first|(refine goR ?_)|(guard_target =~ PWp _ _ _ _ _ _ _;refine yI (id:=3) 13 mixed (by kernel_rfl) (by kernel_rfl) (by kernel_rfl) rfl rfl ?_)|(refine za (fun K hK=>?_))|((refine zb (fun hcd=>?_) (fun hcd=>?_))<;>(try simp only [hcP] at hcd)<;>(try exact cdT))|(guard_target =~ rg _ _ _ (⟨_,_,_,_,_,some _⟩ :: _) _ _ _;(first|refine zv gT (fun hcd=>?_) (fun hcd=>?_)|refine zp gT (fun hcd=>?_) (fun hcd=>?_))<;>(try simp only [hcd])<;>(try (simp only [Bool.not_eq_true',Bool.not_eq_false'] at hcd;try simp only [hcd]))<;>(refine vC (Γ2:=_) ewT ?_)<;>(try simp only [hcP] at hcd)<;>(try exact cdT))|(refine zd (f:=228) rfl Tryz.call228 (h:=AEq.sub' [_,_] (hc:=zcu _ _ _ _) (hq:=?_)))|((refine zY [0,1] exT (by rfl) (by rw [Tryz.results229];exact Lf.jP roT roT) sT sT (zu ?_ ?_) ?_)<;>(try (first|exact zh|exact stT)))|(guard_target =~ dg _ _ _ _ _ _ _;first|(guard_target =~ dg _ _ _ (⟨_,.indexAddr _ _ _,_,_,_,none⟩ :: _) _ _ _;(refine yY (x:=_) (h:=zQ (h:=yQ rfl (hK:=zi ⟨rfl,rfl⟩))) (hk:=?_))))|(refine hK _ _ ?_;clear hK K))
theorem zcv (xs : List Fl) (s : Nat) (m most : Int) (h : xs.length ≤ 100000) (hS : zO xs ≤ 4000000000) (hb : ∀ f ∈ xs,f.n.size ≤ 1000000000 ∧ f.v.size ≤ 1000000000) : AEq Tryz.prog 200 [.ptr 0 0,i64 most] [.box [.row 1 s,i64 (zO xs),i64 m],.row s 103 3 (xs.map flA)] (.tu []) [.box [.row 1 (s + 1),i64 (zO (keptL xs most)),i64 m],.row (s + 1) 103 3 ((keptL xs most).map flA)]:=by
 refine zc Tryz.func200 rfl Tryz.ntmps200 (by simp) (fun hsc=>?_);simp only [Lf.enter,Nat.reduceAdd];clear hsc
 have hU:=True.intro
 repeat' (first|(refine goR ?_)|(refine za (fun K hK=>?_))|(refine hK _ _ ?_;clear hK K))
 refine zo [4,5,6,7,8,9,10,11,12,13,14,15,16,17,18,19,20,21,22,23,24,25,26,27,28,29,30,31,32,33,34,35,36] (fun g : Nat=>[(4,i64 g)]) (fun g=>[.box [.row 1 s,i64 (zO (xs.drop g)),i64 m],.row s 103 3 (xs.map flA)]) (fun g=>g ≤ xs.length ∧ keptL xs most = keptL (xs.drop g) most) (fun g=>xs.length - g) 0 ⟨Nat.zero_le _,rfl⟩ ?_ rfl ?_
 ·(refine ⟨⟨_,sT,?_⟩,trivial⟩<;>(try (first|exact zh)))
 ·rintro g ⟨hg, hk⟩
  simp only [yn,List.map_cons,List.map_nil,List.cons_append,List.nil_append]
  have hp:=(vi (xs.drop g)).1
  by_cases hlt : g < xs.length
  ·obtain ⟨x, hx⟩ := yy hlt
   have hxb:=hb x (List.mem_of_getElem? hx)
   by_cases hm : most < zO (xs.drop g)
   ·obtain ⟨e1, e2⟩ := zgb hx hm
    have hp2:=(vi (xs.drop (g + 1))).1
    have hxA : (xs.map flA)[g]? = some (flA x):=by rw [List.getElem?_map,hx];rfl
    have hz:=za4 xs (g + 1)
    have hz2:=za4 xs g
    have e3 : zO (xs.drop g) - wt x = zO (xs.drop (g + 1)):=by omega
    have hU:=And.intro @hxA (@e3)
    repeat' (first|(refine goR ?_)|(guard_target =~ PWp _ _ _ _ _ _ _;refine yI (id:=2) 15 mixed (by kernel_rfl) (by kernel_rfl) (by kernel_rfl) rfl rfl ?_)|(refine za (fun K hK=>?_))|((refine zb (fun hcd=>?_) (fun hcd=>?_))<;>(try simp only [hcP] at hcd)<;>(try exact cdT))|(refine hK _ _ ?_;clear hK K)|(guard_target =~ dg _ _ _ _ _ _ _;first|(guard_target =~ dg _ _ _ (⟨_,.indexAddr _ _ _,_,_,_,none⟩ :: _) _ _ _;(refine yY (x:=_) (h:=zQ (h:=yQ rfl (hK:=zi ⟨rfl,rfl⟩))) (hk:=?_)))|(guard_target =~ dg _ _ _ (⟨_,.call ⟨.value (.func 223),_,_⟩,_,_,_,none⟩ :: _) _ _ _;(refine yY (x:=_) (h:=zQ (h:=zd (f:=223) rfl Tryz.call223 (h:=AEq.pure' agT (zcs _ (by omega) (by omega)) (hq:=zi ⟨rfl,rfl⟩)))) (hk:=?_))))|(dsimp only [Lf.yW,Lf.kf]))
    refine ⟨g + 1,⟨by omega,by rw [hk,e1]⟩,by omega,?_,arT,srT⟩
    (refine ⟨⟨_,sT,?_⟩,trivial⟩<;>(try (first|exact zh)))
   ·have hs : keptL xs most = xs.drop g := by rw [hk]; exact zbN (.inr (by omega))
    repeat' (first|(refine goR ?_)|(refine za (fun K hK=>?_))|((refine zb (fun hcd=>?_) (fun hcd=>?_))<;>(try simp only [hcP] at hcd)<;>(try exact cdT))|(refine zd (f:=224) rfl Tryz.call224 (h:=AEq.sub' [_] (hc:=zru _ _ _ (by assumption)) (hq:=?_)))|((refine ze [0,1] (by rw [Tryz.results200,Lf.vJ]) z5 ?_)<;>(try (first|exact zh|exact stT)))|(refine hK _ _ ?_;clear hK K)|(apply_assumption (exfalso:=false) (symm:=false)))
    all_goals exact stq (by rw [hs])
  ·have hs : keptL xs most = xs.drop g := by rw [hk]; exact zbN (.inl (by omega))
   repeat' (first|(refine goR ?_)|(refine za (fun K hK=>?_))|((refine zb (fun hcd=>?_) (fun hcd=>?_))<;>(try simp only [hcP] at hcd)<;>(try exact cdT))|(refine zd (f:=224) rfl Tryz.call224 (h:=AEq.sub' [_] (hc:=zru _ _ _ (by assumption)) (hq:=?_)))|((refine ze [0,1] (by rw [Tryz.results200,Lf.vJ]) z5 ?_)<;>(try (first|exact zh|exact stT)))|(refine hK _ _ ?_;clear hK K)|(apply_assumption (exfalso:=false) (symm:=false)))
   all_goals exact stq (by rw [hs])
attribute [local irreducible] wt
theorem fl_join {l : List Fl} {f : Fl} : List.map flA l ++ [[AV.lit (Value.string f.n),AV.lit (Value.string f.v),AV.lit (Value.bool false)]] = List.map flA (l ++ [flN f]):=by rw [List.map_append];rfl
set_option maxRecDepth 20000 in
theorem zef (xs : List Fl) (s : Nat) (m : Int) (f : Fl) (h : xs.length ≤ 100000) (hS : zO xs ≤ 4000000000) (hb : ∀ f ∈ xs,f.n.size ≤ 1000000000 ∧ f.v.size ≤ 1000000000) (h1 : f.n.size ≤ 1000000000) (h2 : f.v.size ≤ 1000000000) (h3 : 0 ≤ m) (h4 : m < wt f) : AEq Tryz.prog 204 [.ptr 0 0,.ag (flA f)] [.box [.row 1 s,i64 (zO xs),i64 m],.row s 103 3 (xs.map flA)] (.tu []) [.box [.row 1 (s + 1),i64 0,i64 m],.row (s + 1) 103 3 (List.map flA [])]:=by
 have hw : wt f ≤ 2000000032:=by unfold wt;omega
 refine zc Tryz.func204 rfl Tryz.ntmps204 (by simp) (fun hsc=>?_);simp only [Lf.enter,Nat.reduceAdd];clear hsc
 have hU:=And.intro @keptL_zero (@sumW_nil)
 repeat' (first|(refine goR ?_)|(refine za (fun K hK=>?_))|((refine zb (fun hcd=>?_) (fun hcd=>?_))<;>(try simp only [hcP] at hcd)<;>(try exact cdT))|(guard_target =~ SOp _ _ ⟨_,.call ⟨.builtin .max,_,_⟩,_,_,_,none⟩ _ _ _;refine zd7 rfl sT sT lmT ?_)|(refine zd (f:=200) rfl Tryz.call200 (h:=AEq.sub' [_,_] (hc:=zcv _ _ _ _ (by assumption) (by assumption) (by assumption)) (hq:=?_)))|(refine zd (f:=223) rfl Tryz.call223 (h:=AEq.pure' agT (zcs _ (by assumption) (by assumption)) (hq:=?_)))|((refine ze [0,1] (by rw [Tryz.results204,Lf.vJ]) z5 ?_)<;>(try (first|exact zh|exact stT)))|(refine hK _ _ ?_;clear hK K))
theorem zhX (xs : List Fl) (s : Nat) (m : Int) (f : Fl) (h : xs.length ≤ 100000) (hS : zO xs ≤ 4000000000) (hb : ∀ f ∈ xs,f.n.size ≤ 1000000000 ∧ f.v.size ≤ 1000000000) (h1 : f.n.size ≤ 1000000000) (h2 : f.v.size ≤ 1000000000) (h3 : 0 ≤ m) (h4 : m < wt f) : AEq Tryz.prog 204 [.ptr 0 0,.ag (flA f)] [.box [.row 1 s,i64 (zO xs),i64 m],.row s 103 3 (xs.map flA)] (.tu []) [.box [.row 1 (s + 1),i64 (zO xsE),i64 m],.row (s + 1) 103 3 (xsE.map flA)]:=zef xs s m f h hS hb h1 h2 h3 h4
theorem zuK (xs : List Fl) (s : Nat) (m : Int) (f : Fl) (h : xs.length ≤ 100000) (hS : zO xs ≤ 4000000000) (hb : ∀ f ∈ xs,f.n.size ≤ 1000000000 ∧ f.v.size ≤ 1000000000) (h1 : f.n.size ≤ 1000000000) (h2 : f.v.size ≤ 1000000000) (h3 : m ≤ 4000000000) (h4 : wt f ≤ m) : AEq Tryz.prog 204 [.ptr 0 0,.ag (flA f)] [.box [.row 1 s,i64 (zO xs),i64 m],.row s 103 3 (xs.map flA)] (.tu []) [.box [.row 1 (s + 2),i64 (zO (keptL xs (m - wt f) ++ [flN f])),i64 m],.row (s + 2) 103 3 ((keptL xs (m - wt f) ++ [flN f]).map flA)]:=by
 have hp:=j7 f
 have hkl:=jx (m - wt f) xs
 have hks:=ko (m - wt f) (by omega) xs
 have hkp:=(vi (keptL xs (m - wt f))).1
 have hsa : zO (keptL xs (m - wt f) ++ [flN f]) = zO (keptL xs (m - wt f)) + wt f:=by rw [jv];simp only [zO,zuH];omega
 refine zc Tryz.func204 rfl Tryz.ntmps204 (by simp) (fun hsc=>?_);simp only [Lf.enter,Nat.reduceAdd];clear hsc
 have hU:=And.intro @hsa (@fl_join)
 repeat' (first|(refine goR ?_)|(guard_target =~ PWp _ _ _ _ _ _ _;refine zn (id:=5) [5,6,7,8,9,10,1,2,3,4,11,0,12,13,14] [10,11,14] mixed (by kernel_rfl) (by kernel_rfl) ?_)|(refine za (fun K hK=>?_))|((refine zb (fun hcd=>?_) (fun hcd=>?_))<;>(try simp only [hcP] at hcd)<;>(try exact cdT))|(guard_target =~ SOp _ _ ⟨_,.call ⟨.builtin .max,_,_⟩,_,_,_,none⟩ _ _ _;refine zd6 rfl sT sT lmT ?_)|(refine zd (f:=200) rfl Tryz.call200 (h:=AEq.sub' [_,_] (hc:=zcv _ _ _ _ (by assumption) (by assumption) (by assumption)) (hq:=?_)))|(refine zd (f:=223) rfl Tryz.call223 (h:=AEq.pure' agT (zcs _ (by assumption) (by assumption)) (hq:=?_)))|((refine ze [0,1] (by rw [Tryz.results204,Lf.vJ]) z5 ?_)<;>(try (first|exact zh|exact stT)))|(guard_target =~ dw _ _ _ _ _ _ _ _ _ _;first|(guard_target =~ dw _ _ _ _ _ (9 :: _) _ _ _ _;(refine vK rfl rfl (h:=(fun τ=>zQ (h:=vH rfl (by first|exact zdf|exact zj8|fail) (hK:=zi ⟨rfl,rfl⟩)))) (hk:=?_)))|(guard_target =~ dw _ _ _ _ _ (10 :: _) _ _ _ _;(refine zaq rfl rfl (h:=zQ (h:=zF rfl (he:=eoT) (hK:=zi ⟨rfl,rfl⟩))) (hk:=?_)))|(guard_target =~ dw _ _ _ _ _ (11 :: _) _ _ _ _;(refine zaq rfl rfl (h:=zQ (h:=zC rfl (he:=eoT) (hK:=zi ⟨rfl,rfl⟩))) (hk:=?_)))|(guard_target =~ dw _ _ _ _ _ (14 :: _) _ _ _ _;(refine kO rfl rfl (h:=zcT (h:=z0 rfl (hK:=zi ⟨rfl,rfl⟩))) (hk:=?_))))|(refine hK _ _ ?_;clear hK K))
theorem znV (xs : List Fl) (s : Nat) (m : Int) (n v : ByteArray) (k : Bool) (h : xs.length ≤ 100000) (hS : zO xs ≤ 4000000000) (hb : ∀ f ∈ xs,f.n.size ≤ 1000000000 ∧ f.v.size ≤ 1000000000) (h1 : n.size ≤ 1000000000) (h2 : v.size ≤ 1000000000) (h3 : m ≤ 4000000000) (h4 : wt ⟨n,v,k⟩ ≤ m) : AEq Tryz.prog 204 [.ptr 0 0,.ag [.lit (.string n),.lit (.string v),.lit (.bool k)]] [.box [.row 1 s,i64 (zO xs),i64 m],.row s 103 3 (xs.map flA)] (.tu []) [.box [.row 1 (s + 2),i64 (zO (keptL xs (m - wt ⟨n,v,k⟩) ++ [flN ⟨n,v,k⟩])),i64 m],.row (s + 2) 103 3 ((keptL xs (m - wt ⟨n,v,k⟩) ++ [flN ⟨n,v,k⟩]).map flA)]:=zuK xs s m ⟨n,v,k⟩ h hS hb h1 h2 h3 h4
end Go.Proofs.YtdalcgfnlbofdaaGreatDoor
