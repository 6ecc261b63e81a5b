import Derived.Test.YtdalcgfnlbofdaaGreatDoorPg
import Derived.Test.YtdalcgfnlbofdaaGreatDoorPy
import Derived.Test.YtdalcgfnlbofdaaGreatDoorPc
import Derived.Shelf.RegionOpenPlain
import Derived.WalkKit
import Derived.Deep.RegionLaw
import Derived.Lib.SliceRun
import Derived.Lib.AppendZerosOnto
import Derived.Test.YtdalcgfnlbofdaaGreatDoorPb
import Derived.Test.YtdalcgfnlbofdaaGreatDoorRows
import Derived.ProofKit
import Derived.LaidMore
import Derived.OpenShut
import Derived.Stop.Joined
set_option linter.unusedVariables false
set_option linter.unusedSimpArgs false
namespace Go.Proofs.YtdalcgfnlbofdaaGreatDoor
open Go Go.Lf Go.Proofs
attribute [local irreducible] Lf.rg Lf.ro Lf.PWp Lf.SOp Lf.ACall Lf.Scoped Lf.dg Lf.dw
set_option maxRecDepth 20000
set_option maxHeartbeats 4000000
structure Fl where
 (n v : ByteArray) (k : Bool)
deriving DecidableEq
@[go_sem] def flA (f : Fl) : List AV:=[.lit (.string f.n),.lit (.string f.v),bl f.k]
@[go_sem] theorem zsq (l : List Fl) : vn (l.map flA).flatten = true:=yd (fun _=>rfl) l
@[go_sem] theorem zsr {κ : List Nat} {σ : Sto} (l : List Fl) : List.map (fzl κ σ) (l.map flA) = l.map flA:=vG (fun _=>rfl) l
def xsE : List Fl:=[]
def flN (f : Fl) : Fl:=⟨f.n,f.v,false⟩
def wt (f : Fl) : Int:=f.n.size + f.v.size + 32
theorem zuC (f : Fl) : wt (flN f) = wt f:=rfl
theorem zhx (f : Fl) : 32 ≤ wt f:=by unfold wt;omega
def yn : List Fl → Int
 | []=>0
 | f :: l=>wt f + yn l
theorem sumW_nil : yn [] = 0:=rfl
theorem zck : ∀ (a b : List Fl), yn (a ++ b) = yn a + yn b
 | [],b=>by rw [List.nil_append,sumW_nil];omega
 | f :: a,b=>by rw [List.cons_append,yn,yn,zck a b];omega
theorem jD : ∀ l, 0 ≤ yn l ∧ (l ≠ [] → 32 ≤ yn l)
 | []=>⟨by rw [sumW_nil];omega,fun h=>absurd rfl h⟩
 | f :: l=>by
  have:=jD l
  have:=zhx f
  rw [yn]
  exact ⟨by omega,fun _=>by omega⟩
def keptL : List Fl → Int → List Fl
 | [],_=>[]
 | x :: xs,m=>if m < yn (x :: xs) then keptL xs m else x :: xs
def zoL : List Fl → Int → Int → Nat
 | [],_,_=>0
 | x :: l,n,m=>if m < n + wt x then 0 else zoL l (n + wt x) m + 1
theorem ky (m : Int) (h0 : 0 ≤ m) : ∀ l, yn (keptL l m) ≤ m
 | []=>h0
 | x :: xs=>by
  unfold keptL
  split
  ·exact ky m h0 xs
  ·omega
theorem jE (m : Int) : ∀ l, (keptL l m).length ≤ l.length
 | []=>Nat.le_refl _
 | x :: xs=>by
  unfold keptL
  have:=jE m xs
  split
  ·rw [List.length_cons];omega
  ·exact Nat.le_refl _
theorem za3 (m : Int) : ∀ l, ∀ f ∈ keptL l m, f ∈ l
 | []=>fun f h=>h
 | x :: xs=>by
  intro f h
  unfold keptL at h
  split at h
  ·exact List.mem_cons_of_mem _ (za3 m xs f h)
  ·exact h
theorem zhy {l : List Fl} {m : Int} (h : yn l ≤ m) : keptL l m = l:=by
 cases l with
 | nil=>rfl
 | cons x xs=>unfold keptL;rw [if_neg (by omega)]
theorem keptL_zero (l : List Fl) : keptL l 0 = []:=by
 have h:=ky 0 (by decide) l
 have:=jD (keptL l 0)
 by_cases he : keptL l 0 = []
 ·exact he
 ·have:=this.2 he;omega
theorem zj6 (l : List UInt8) : ∀ (k i : Nat) (r : List UInt8),i + k = l.length → ByteArray.toList.loop ⟨l.toArray⟩ i r = r.reverse ++ l.drop i:=by
 intro k
 induction k with
 | zero=>
  intro i r h
  unfold ByteArray.toList.loop
  have hs : (ByteArray.mk l.toArray).size = l.length:=rfl
  rw [if_neg (by rw [hs];omega),List.drop_of_length_le (by omega),List.append_nil]
 | succ k ih=>
  intro i r h
  unfold ByteArray.toList.loop
  have hs : (ByteArray.mk l.toArray).size = l.length:=rfl
  rw [if_pos (by rw [hs];omega),ih (i + 1) _ (by omega)]
  have hg : (ByteArray.mk l.toArray).get! i = l[i]'(by omega):=by
   show (l.toArray)[i]! = _
   simp [show i < l.length by omega]
  rw [hg,List.reverse_cons,List.append_assoc]
  congr 1
  rw [List.drop_eq_getElem_cons (i:=i) (by omega)]
  rfl
theorem zbE (l : List UInt8) : ByteArray.toList ⟨l.toArray⟩ = l:=by
 unfold ByteArray.toList
 rw [zj6 l l.length 0 [] (by omega)]
 simp
@[go_sem] theorem zzl (a b : ByteArray) : (a.toList == b.toList) = decide (a = b):=by
 obtain ⟨⟨a⟩⟩:=a;obtain ⟨⟨b⟩⟩:=b
 rw [zbE,zbE]
 by_cases h : a = b<;>simp [h]
theorem ki {α : Type} {l : List α} {i : Nat} {x : α} (h : l[i]? = some x) : l.drop i = x :: l.drop (i + 1):=by
 obtain ⟨hi,rfl⟩:=List.getElem?_eq_some_iff.1 h
 exact List.drop_eq_getElem_cons hi
def jF (n v : ByteArray) : List Fl → Int → Int
 | [],_=>0
 | f :: l,i=>if f.n = n ∧ f.v = v then i else jF n v l (i + 1)
def vT (n : ByteArray) : List Fl → Int → Int
 | [],_=>0
 | f :: l,i=>if f.n = n then i else vT n l (i + 1)
def fnI (R : List Fl) (n v : ByteArray) : Int:=if jF n v R 1 ≠ 0 then jF n v R 1 else vT n R 1
def fnB (R : List Fl) (n v : ByteArray) : Bool:=decide (jF n v R 1 ≠ 0)
theorem zqB {R : List Fl} {n v : ByteArray} {k : Int} (h : jF n v R 1 = k) (hk : k ≠ 0) : fnI R n v = k ∧ fnB R n v = true:=by
 unfold fnI fnB
 rw [h,if_pos hk]
 exact ⟨rfl,by simp [hk]⟩
theorem zmZ {R : List Fl} {n v : ByteArray} {k : Int} (h : jF n v R 1 = 0) (hk : vT n R 1 = k) : fnI R n v = k ∧ fnB R n v = false:=by
 unfold fnI fnB
 rw [h,if_neg (by simp)]
 exact ⟨hk,by simp⟩
theorem ze8 (n v : ByteArray) : ∀ (l : List Fl) (i : Int), 1 ≤ i → 0 ≤ jF n v l i ∧ jF n v l i < i + l.length
 | [],i,h=>by unfold jF;rw [List.length_nil];omega
 | f :: l,i,h=>by
  unfold jF
  have:=ze8 n v l (i + 1) (by omega)
  rw [List.length_cons]
  split<;>omega
theorem zcl (n : ByteArray) : ∀ (l : List Fl) (i : Int), 1 ≤ i → 0 ≤ vT n l i ∧ vT n l i < i + l.length
 | [],i,h=>by unfold vT;rw [List.length_nil];omega
 | f :: l,i,h=>by
  unfold vT
  have:=zcl n l (i + 1) (by omega)
  rw [List.length_cons]
  split<;>omega
theorem zm0 (R : List Fl) (n v : ByteArray) : 0 ≤ fnI R n v ∧ fnI R n v ≤ R.length:=by
 have a:=ze8 n v R 1 (by decide)
 have b:=zcl n R 1 (by decide)
 unfold fnI
 split<;>omega
theorem zqC {l : List Fl} {i : Nat} {f : Fl} (h : l.reverse[i]? = some f) : l[l.length - (i + 1)]? = some f:=by
 have hi:=(List.getElem?_eq_some_iff.1 h).1
 rw [List.length_reverse] at hi
 rw [List.getElem?_reverse hi] at h
 rw [← h];congr 1;omega
theorem zhz {P : Program} {f : FuncId} {args : List AV} {σ τ τ2 : Sto} {r r2 : AV} (h : AEq P f args σ r τ) (hw : ∀ ρ w v,Rel τ ρ w → GV τ ρ w → VR τ ρ w r v → ∃ ρ',Rel τ2 ρ' w ∧ VR τ2 ρ' w r2 v ∧ Step τ.length τ ρ w τ2 ρ' w) : AEq P f args σ r2 τ2:=by
 unfold AEq ACall at *
 intro ρ w vs hr hG hv
 refine (h ρ w vs hr hG hv).mono ?_
 rintro e w' ⟨x,σ3,ρ3,v,h1,⟨rfl,rfl⟩,h3,h4,h5⟩
 obtain ⟨ρ4,k1,k2,k3⟩:=hw ρ3 w' v h3 (hG.carry h5) h4
 exact ⟨_,_,ρ4,v,h1,⟨rfl,rfl⟩,k1,k2,h5.trans (k3.mono h5.len')⟩
theorem zf0 {σ : Sto} {q : Bool} {cs : List AV} {r : AV} (o k e sz : Nat) (h00 : 0 < sz) (hob : σ[o]? = some (.box cs)) (hc : cs[k]? = some (.sl true q [])) (ρ : Rz) (w : World) (v : Value) (hr : Rel σ ρ w) (hG : GV σ ρ w) (hv : VR σ ρ w r v) :
    ∃ ρ',Rel ((σ ++ [Ob.row 0 e sz []]).set o (Ob.box (cs.set k (AV.row σ.length 0)))) ρ' w ∧ VR ((σ ++ [Ob.row 0 e sz []]).set o (Ob.box (cs.set k (AV.row σ.length 0)))) ρ' w r v ∧ Step σ.length σ ρ w ((σ ++ [Ob.row 0 e sz []]).set o (Ob.box (cs.set k (AV.row σ.length 0)))) ρ' w:=by
  obtain ⟨ρ',_,h2,h3⟩:=zg1 (N:=0) (n:=σ.length) (Γ:=[]) o k e sz h00 hob hc ρ w { tmps:=#[],defers:=[] } (Nat.le_refl _) ⟨rfl,⟨rfl,hG⟩,fun i=>trivial⟩ hr
  exact ⟨ρ',h2,VR.carry h3 _ _ hv,h3⟩
theorem zcm (f : Fl) (h1 : f.n.size ≤ 1000000000) (h2 : f.v.size ≤ 1000000000) : AEq Tryz.prog 223 [.ag (flA f)] [] (i64 (wt f)) []:=by
 refine zc Tryz.func223 rfl Tryz.ntmps223 (by simp) (fun hsc=>?_);simp only [Lf.enter,Nat.reduceAdd];clear hsc
 have hU:=True.intro
 repeat' (first|(refine goR ?_)|(refine za (fun K hK=>?_))|((refine zh [] (by rw [Tryz.results223,Lf.zy]) (zj ?_) ?_)<;>(try (first|exact zi|exact stT)))|(refine hK _ _ ?_;clear hK K))
theorem zqD (m : Int) : AEq Tryz.prog 149 [i64 m] [] (bl (decide (0 ≤ m ∧ m ≤ 2147483647))) []:=by
 refine zc Tryz.func149 rfl Tryz.ntmps149 (by simp) (fun hsc=>?_);simp only [Lf.enter,Nat.reduceAdd];clear hsc
 have hU:=True.intro
 repeat' (first|(refine goR ?_)|(refine za (fun K hK=>?_))|((refine zh [] (by rw [Tryz.results149,Lf.zy]) (zj ?_) ?_)<;>(try (first|exact zi|exact stT)))|(refine hK _ _ ?_;clear hK K))
 exact zt (by simp)
open Go Go.Lf Go.Proofs Go.RowKit
theorem zj7 {P : Program} {ops : Array Oper} {o : Oper} {a : Act} {w : World} {K : Act → World → Prop} {Q : Exit → Act → World → Prop} {E : Prop}
    (hg : o.guard = none) (s x : Operand) (t : TypeId) (hop : o.op = Op.call { callee:=Callee.builtin Builtin.append,args:=#[s,x],argTypes:=#[t,t] })
    (e : TypeId) (i : TypeInfo) (size : Nat) (h1 : P.underlying t = some (.slice e)) (h2 : P.info? e = some i) (h4 : i.size = size)
    (b n cap : Nat) (cur : Array Value) (hb : w.heap[b]? = some (.cells cur e (0,0))) (hs : a.eval s = .slice (some ⟨b,0,none⟩) n cap)
    (ad : Addr) (m c : Nat) (news : List Value) (hx : a.eval x = .slice (some ad) m c) (hn : news.length = m * size) (hc : ∀ j u,news[j]? = some u → w.cell? (ad.add j) = some u) (h1c : ∀ u ∈ news,u.oneCell' = true)
    (hroom : n + m ≤ cap) (hfit : n * size + news.length ≤ cur.size)
    (hK : K (a.put o.dst (.slice (some ⟨b,0,none⟩) (n + m) cap)) (w.setRow b (cur.toList.take (n * size) ++ news ++ cur.toList.drop (n * size + news.length)).toArray)) :
    if Region.wanted o (yielded ops a.tmps) = true then Oper.wp P o a w K Q else E:=by
  have hw : Region.wanted o (yielded ops a.tmps) = true:=by simp [Region.wanted,hg]
  rw [if_pos hw]
  subst h4
  have hrun:=run_append_room (P:=P) w t o.type e i h1 h2 b n cap cur hb ad m c news hn hc h1c hroom hfit
  unfold Oper.wp
  simp [execOp,hop,resolve,invoke,builtin,hs,hx,hrun,Result.andThen]
  rw [List.append_assoc] at hK
  exact hK
theorem zef {P : Program} (w : World) (t e : TypeId) (z : Value) (sz : Nat) (ht : P.underlying t = some (.slice e)) (hv : ∀ w, (zeroValue e).run P w = .ok z w) (hz : z.cells.size = sz) (h1 : ∀ u ∈ z.cells.toList, u.oneCell' = true) (b o n c : Nat) (hn : 0 < n)
    (cur : Array Value) (hb : w.heap[b]? = some (.cells cur e (0,0))) (hfit : o + n * sz ≤ cur.size) :
    ∃ zs : List Value,zs.length = n * sz ∧ ∀ ty,(Builtin.clear_ #[t] ty #[.slice (some ⟨b,o,none⟩) n c]).run P w = .ok (.tuple #[]) (w.setRow b (cur.toList.take o ++ zs ++ cur.toList.drop (o + n * sz)).toArray):=by
  have hl : (Builtin.zeroCells z.cells n).toList.length = n * sz:=by rw [Array.length_toList,size_zeroCells,hz]
  refine ⟨(Builtin.zeroCells z.cells n).toList,hl,fun ty=>?_⟩
  have hst:=run_storeCells_at (P:=P) b o e (Builtin.zeroCells z.cells n).toList 0 cur w hb (by rw [hl];omega) (by
    intro v hv'
    simp only [Builtin.zeroCells,Array.toList_map,List.mem_map] at hv'
    obtain ⟨j,_,rfl⟩:=hv'
    by_cases hj : j % z.cells.size < z.cells.size
    · rw [getElem!_pos z.cells _ hj]
      exact h1 _ (by simp)
    · rw [getElem!_neg z.cells _ hj];rfl)
  rw [Nat.add_zero,hl] at hst
  obtain ⟨m,rfl⟩ : ∃ m,n = m + 1:=⟨n - 1,by omega⟩
  simp [Builtin.clear_,run_underlying ht,hv,hst]
theorem zj8 (w : World) (b : Nat) (cur : Array Value) (e : TypeId) (hb : w.drew.heap[b]? = some (.cells cur e (0,0))) (c X : Array Value) : ((w.drew.setRow b c).setRow b X).heap = (w.setRow b X).heap:=by
 have hb' : w.heap[b]? = some (.cells cur e (0,0)):=hb
 apply Array.ext_getElem?
 intro i
 by_cases h : b = i
 ·subst h
  rw [setRow_heap _ b c X e _ (setRow_heap w.drew b cur c e _ hb),setRow_heap w b cur X e _ hb']
 ·rw [setRow_other _ b i _ (Ne.symm h),setRow_other _ b i _ (Ne.symm h),setRow_other _ b i _ (Ne.symm h)];rfl
theorem ze9 (v : Value) (b : Option Addr) (n cap : Nat) (w : World) (hv : v = .slice b n cap) (hn : n ≤ cap) (hm : cap ≤ 9223372036854775807) :
    Calls Tryz.prog 224 #[.slice b n cap,.int .i64 0,.int .i64 0] w fun e w'=>e = .returned (.slice b n cap) ∧ w' = w:=by
  go_enter Tryz.func224,Tryz.ntmps224
  go_wp2
  all_goals (go_ret;exact ⟨rfl,rfl⟩)
theorem zqE (b n cap k : Nat) (cur : Array Value) (w : World) (hb : w.heap[b]? = some (.cells cur 103 (0, 0))) (hn : n ≤ cap) (hm : cap ≤ 9223372036854775807) (hk : k ≤ n) (hk0 : 0 < k) (hsz : cur.size = cap * 3) (hone : ∀ u ∈ (cur.toList.take (n * 3)).drop (k * 3), u.oneCell' = true) :
    Calls Tryz.prog 224 #[.slice (some ⟨b, 0, none⟩) n cap, .int .i64 0, .int .i64 k] w fun e w' => e = .returned (.slice (some ⟨b, 0, none⟩) (n - k) cap) ∧ w'.os = w.os ∧ w'.tape = w.tape ∧ w'.output = w.output ∧
      ∃ rest : List Value,w'.heap = (w.setRow b ((cur.toList.take (n * 3)).drop (k * 3) ++ rest).toArray).heap ∧ ((cur.toList.take (n * 3)).drop (k * 3) ++ rest).length = cap * 3:=by
  obtain ⟨i0,hi0,hz1⟩ : ∃ i,Tryz.prog.info? 103 = some i ∧ i.size = 3:=⟨_,rfl,rfl⟩
  obtain ⟨news,hnews⟩ : ∃ news,news = (cur.toList.take (n * 3)).drop (k * 3):=⟨_,rfl⟩
  rw [← hnews] at hone ⊢
  have hlen : news.length = (n - k) * 3:=by rw [hnews,List.length_drop,List.length_take,Array.length_toList,hsz];omega
  have hget : ∀ j u,news[j]? = some u → cur[k * 3 + j]? = some u:=by
    intro j u hu
    rw [hnews,List.getElem?_drop,List.getElem?_take] at hu
    split at hu
    · rw [← Array.getElem?_toList];exact hu
    · cases hu
  obtain ⟨A,hA,hsrc⟩ : ∃ A : Addr,(if cap = k then some (⟨b,0,none⟩ : Addr) else some ⟨b,k * 3,none⟩) = some A ∧ Hid (∀ j u,news[j]? = some u → w.drew.cell? (A.add j) = some u):=by
    by_cases h : cap = k
    · refine ⟨⟨b, 0, none⟩, by simp [h], fun j u hu => ?_⟩
      have h0 : news.length = 0:=by rw [hlen];omega
      rw [List.length_eq_zero_iff.1 h0] at hu
      simp at hu
    · refine ⟨⟨b, k * 3, none⟩, by simp [h], fun j u hu => ?_⟩
      rw [Addr.add_lit]
      show (w.cell? ⟨b,k * 3 + j,none⟩) = some u
      have:=hget j u hu
      simp [World.cell?,hb,this]
  have s1 : Hid (news.length = (n - k) * 3):=hlen
  have s2 : Hid (∀ u ∈ news,u.oneCell' = true):=hone
  have s3 : Hid (w.drew.heap[b]? = some (.cells cur 103 (0,0))):=hb
  have s4 : Hid (0 * 3 + news.length ≤ cur.size):=by show 0 * 3 + news.length ≤ cur.size;rw [hlen,hsz];omega
  obtain ⟨c1,hc1⟩ : ∃ c1,c1 = cur.toList.take (0 * 3) ++ news ++ cur.toList.drop (0 * 3 + news.length):=⟨_,rfl⟩
  have hc1l : c1.length = cap * 3:=by rw [hc1];simp [hlen,hsz];omega
  obtain ⟨W1,hW1⟩ : ∃ W1,W1 = w.drew.setRow b c1.toArray:=⟨_,rfl⟩
  have hH1 : W1.heap[b]? = some (.cells c1.toArray 103 (0,0)):=by rw [hW1];exact setRow_heap w.drew b cur c1.toArray _ _ hb
  have hcl : ∃ zs : List Value,zs.length = k * 3 ∧ ∀ ty,(Builtin.clear_ #[22] ty #[.slice (some ⟨b,(n - k) * 3,none⟩) k (cap - (n - k))]).run Tryz.prog W1 = .ok (.tuple #[]) (W1.setRow b (c1.take ((n - k) * 3) ++ zs ++ c1.drop ((n - k) * 3 + k * 3)).toArray):=by
    exact zef (P:=Tryz.prog) W1 22 103 _ 3 Tryz.underlying22 Tryz.zeroValue103 rfl (by decide) b ((n - k) * 3) k (cap - (n - k)) hk0 c1.toArray hH1 (by simp [hc1l];omega)
  obtain ⟨zs,hzl,hcl0⟩:=hcl
  have hcl : ∀ ty,(Builtin.clear_ #[22] ty #[.slice (some ⟨b,(n - k) * 3,none⟩) (n - (n - k)) (cap - (n - k))]).run Tryz.prog W1 = .ok (.tuple #[]) (W1.setRow b (c1.take ((n - k) * 3) ++ zs ++ c1.drop ((n - k) * 3 + k * 3)).toArray):=by
    intro ty
    rw [show n - (n - k) = k by omega]
    exact hcl0 ty
  clear hcl0
  have hW : Hid (W1 = w.drew.setRow b c1.toArray):=hW1
  have C1 : Hid (c1 = cur.toList.take (0 * 3) ++ news ++ cur.toList.drop (0 * 3 + news.length)):=hc1
  have H1 : Hid (W1.heap[b]? = some (.cells c1.toArray 103 (0,0))):=hH1
  have L1 : Hid (c1.length = cap * 3):=hc1l
  have hkc : k ≤ cap:=by omega
  have hk0' : ¬ (0 = k):=by omega
  have hkn : n - k ≤ n:=by omega
  have hkn2 : n - k ≤ cap:=by omega
  have Z : Hid (zs.length = k * 3):=hzl
  clear hW1 hc1 hH1 hc1l hzl hget hnews hlen hone hb hsz
  go_enter Tryz.func224,Tryz.ntmps224
  go_wp2_with fail
  go_region_law (refine zj7 rfl (.tmp 22) (.tmp 25) 22 rfl 103 i0 3 Tryz.underlying22 hi0 hz1 b 0 cap cur s3.out (by simp [Act.eval,Act.put]) A (n - k) (cap - k) news (by simp [Act.eval,Act.put]) s1.out hsrc.out s2.out (by omega) s4.out ?_;rw [← C1.out,← hW.out])
  go_wp2
  go_ret
  have ht : c1.take ((n - k) * 3) = news:=by
    rw [C1.out,Nat.zero_mul,List.take_zero,List.nil_append,← s1.out,List.take_left]
  rw [ht,hW.out]
  refine ⟨rfl,rfl,rfl,rfl,zs ++ c1.drop ((n - k) * 3 + k * 3),zj8 w b cur _ s3.out _ _,?_⟩
  rw [List.length_append,List.length_append,List.length_drop,L1.out,Z.out,s1.out]
  omega
theorem zfa (cap n : Nat) (vs sp : List Value) (h : vs.length = n * 3) (k : Nat) : ((vs ++ sp).toArray.toList.take (n * 3)).drop (k * 3) = vs.drop (k * 3):=by
 rw [← h,List.take_left]
theorem zqF (xs : List Fl) (s k : Nat) (h : k ≤ xs.length) : AEq Tryz.prog 224 [.row 0 s,i64 0,i64 k] [.row s 103 3 (xs.map flA)] (.row 0 (s + 1)) [.row (s + 1) 103 3 ((xs.drop k).map flA)]:=by
  unfold AEq ACall
  intro ρ w vs hr hG hv
  match vs,hv with
  | [v0,v1,v2],hv=>
  simp only [VRl,VR,and_true] at hv
  obtain ⟨⟨_,hv0⟩,rfl,rfl⟩:=hv
  have hv0:=(hv0 s 103 3 (xs.map flA) rfl).2 rfl
  subst hv0
  obtain ⟨h0,h00,hO⟩:=hr.obj 0 _ rfl
  have hll:=h0
  have all : ∀ q ∈ (xs.drop k).map flA,q.length = 3:=by intro q hq;simp only [List.mem_map] at hq;obtain ⟨_,_,rfl⟩:=hq;rfl
  have fin : ∀ (v' : Value) (w' : World), w'.os = w.os → w'.tape = w.tape → w'.output = w.output → w.heap.size ≤ w'.heap.size →
      (∀ b,b < w.heap.size → blk (ρ 0) ≠ some b → w'.heap[b]? = w.heap[b]?) → (∀ b,blk v' = some b → blk (ρ 0) = some b ∨ w.heap.size ≤ b) →
      (((∃ ad,v' = .slice ad 0 0) ∧ (xs.drop k).map flA = []) ∨ ∃ b cap,∃ us sp : List Value,v' = .slice (some ⟨b,0,none⟩) ((xs.drop k).map flA).length cap ∧ w'.heap[b]? = some (.cells (us ++ sp).toArray 103 (0,0)) ∧ ((xs.drop k).map flA).length ≤ cap ∧ (0 < cap ∧ cap ≤ maxLen) ∧ (us ++ sp).length = cap * 3 ∧ (∀ u ∈ us,u.oneCell' = true) ∧ VRl [.row s 103 3 (xs.map flA)] ρ w ((xs.drop k).map flA).flatten us) →
      ∃ r σ' ρ' v,Ending.returned v' = .returned v ∧ (r = AV.row 0 (s + 1) ∧ σ' = [Ob.row (s + 1) 103 3 ((xs.drop k).map flA)]) ∧ Rel σ' ρ' w' ∧ VR σ' ρ' w' r v ∧ Step 1 [.row s 103 3 (xs.map flA)] ρ w σ' ρ' w':=by
    intro v' w' os tp ou hsz hk hbl hrow
    have hs : [Ob.row s 103 3 (xs.map flA)][0]? = some (Ob.row s 103 3 (xs.map flA)):=rfl
    have hobj : ObjStep (some (Ob.row s 103 3 (xs.map flA))) (some (Ob.row (s + 1) 103 3 ((xs.drop k).map flA))) (ρ 0) v':=by simp only [ObjStep,true_and];omega
    have st:=vr (σ:=[Ob.row s 103 3 (xs.map flA)]) (ρ:=ρ) (w:=w) (w':=w') (r:=v') hs rfl hobj os tp ou hsz hk (fun b _=>hbl b)
    refine ⟨_,_,upd ρ 0 v',v',rfl,⟨rfl,rfl⟩,kt (σ:=[Ob.row s 103 3 (xs.map flA)]) hr hs rfl hobj os tp ou hsz hk (fun b _=>hbl b) ⟨all,h00,?_⟩,?_,st⟩
    · rcases hrow with h | ⟨b, cap, us, sp, k1, k2, k3, k4, k5, k6, k7⟩
      · exact .inl h
      · exact .inr ⟨b,cap,us,sp,k1,k2,k3,k4,k5,k6,VRl.carry st _ _ k7⟩
    · simp only [VR]
      refine ⟨by simp,fun s' e' sz' xs' hs'=>?_⟩
      simp at hs'
      obtain ⟨rfl,_⟩:=hs'
      exact ⟨Nat.le_refl _,fun _=>by rw [yf]⟩
  rcases hO with ⟨⟨ad,hO⟩,hx⟩|⟨b,cap,us,sp,hb',hh,hle,hm,hc,hone,hl⟩
  · have hx : xs = [] := by simpa using hx
    subst hx
    obtain rfl : k = 0:=by simpa using h
    rw [hO]
    refine (ze9 _ ad 0 0 w rfl (Nat.le_refl _) (by omega)).mono ?_
    rintro e w' ⟨rfl,rfl⟩
    exact fin _ _ rfl rfl rfl (Nat.le_refl _) (fun _ _ _=>rfl) (fun b hb=>by cases ad<;>simp [blk] at hb) (.inl ⟨⟨ad,rfl⟩,rfl⟩)
  · have hlu := zO _ _ hl
    rw [yA h0,List.length_map] at hlu
    rw [List.length_map] at hb' hle
    have hmx : cap ≤ 9223372036854775807:=by have:=hm.2;unfold maxLen at this;omega
    have hflat : ((xs.drop k).map flA).flatten = ((xs.map flA).flatten).drop (k * 3):=by
      have:=List.take_append_drop k xs
      conv=>rhs;rw [← this]
      rw [List.map_append,List.flatten_append]
      have hlt : ((xs.take k).map flA).flatten.length = k * 3:=by rw [yA (sz:=3) (by intro q hq;simp only [List.mem_map] at hq;obtain ⟨_,_,rfl⟩:=hq;rfl),List.length_map,List.length_take];congr 1;omega
      rw [← hlt,List.drop_left]
    by_cases hk0 : k = 0
    · subst hk0
      rw [hb']
      refine (ze9 _ (some ⟨b,0,none⟩) xs.length cap w rfl hle hmx).mono ?_
      rintro e w' ⟨rfl,rfl⟩
      exact fin _ _ rfl rfl rfl (Nat.le_refl _) (fun _ _ _=>rfl) (fun c hc=>.inl (by rw [hb'];exact hc)) (.inr ⟨b,cap,us,sp,by rw [List.length_map,List.drop_zero],hh,by rw [List.length_map,List.drop_zero];exact hle,hm,hc,hone,by rw [List.drop_zero];exact hl⟩)
    · rw [hb']
      refine (zqE b xs.length cap k (us ++ sp).toArray w hh hle hmx h (by omega) (by simpa using hc) (by rw [zfa cap xs.length us sp hlu.symm];intro u hu;exact hone u (List.mem_of_mem_drop hu))).mono ?_
      rintro e w' ⟨rfl,os,tp,ou,rest,hhp,hrl⟩
      rw [zfa cap xs.length us sp hlu.symm] at hhp hrl
      have hsz : w'.heap.size = w.heap.size:=by rw [hhp];simp
      refine fin _ _ os tp ou (by omega) (fun c _ hne=>?_) (fun c hc=>.inl (by rw [hb'];exact hc)) (.inr ⟨b,cap,us.drop (k * 3),rest,by rw [List.length_map,List.length_drop],?_,by rw [List.length_map,List.length_drop];omega,hm,hrl,fun u hu=>hone u (List.mem_of_mem_drop hu),by rw [hflat];exact yJ _ _ _ hl⟩)
      · rw [hhp]
        exact setRow_other w b c _ (fun e=>hne (by rw [hb',e];simp [blk];omega))
      · rw [hhp]
        exact setRow_heap w b _ _ _ _ hh
end Go.Proofs.YtdalcgfnlbofdaaGreatDoor
namespace Go.Lf
open Go
mutual
def nol : AV → Bool
 | .sl _ q _=>!q
 | .ip q _=>!q
 | .ag xs=>ziR xs
 | .tu xs=>ziR xs
 | .gd _ x=>nol x
 | .fn _ xs=>ziR xs
 | _=>true
def ziR : List AV → Bool
 | []=>true
 | x :: xs=>nol x && ziR xs
end
def nlx (x : AV) : AV:=if nol x = true then x else .junk
def nlE (Γ : Env) : Env:=Γ.map fun p=>(p.1,nlx p.2)
mutual
theorem zm1 : ∀ x : AV, pur x = true → nol x = true
 | .junk,_=>rfl
 | .lit _,_=>rfl
 | .sl _ q _,h=>by simpa [pur,nol] using h
 | .ip q _,h=>by simpa [pur,nol] using h
 | .row _ _,_=>rfl
 | .vw _ _ _ _,_=>rfl
 | .ptr _ _,_=>rfl
 | .ep _ _ _ _,_=>rfl
 | .ag xs,h=>by simp only [pur] at h;simp only [nol];exact zcn xs h
 | .tu xs,h=>by simp only [pur] at h;simp only [nol];exact zcn xs h
 | .gd _ _,h=>by simp [pur] at h
 | .fn _ _,h=>by simp [pur] at h
 | .mref _,h=>by simp [pur] at h
theorem zcn : ∀ xs : List AV, vn xs = true → ziR xs = true
 | [],_=>rfl
 | x :: xs,h=>by simp only [vn,Bool.and_eq_true] at h;simp only [ziR,Bool.and_eq_true];exact ⟨zm1 x h.1,zcn xs h.2⟩
end
def zzm : Ob → Bool
 | .gone=>true
 | .mp _=>true
 | .box cs=>ziR cs
 | .row _ _ _ xs=>ziR xs.flatten
structure GenH (c : Bool) (σ : Sto) (ρ : Rz) (w : World) (σ' : Sto) (ρ' : Rz) (w' : World) : Prop where
 hz : w.heap.size ≤ w'.heap.size
 hk : ∀ b,b < w.heap.size → ¬ Own σ ρ b → w'.heap[b]? = w.heap[b]?
 hm : ∀ b,jS σ' ρ' b → jS σ ρ b ∨ w.heap.size ≤ b
 ho : c = true → ∀ b,Own σ' ρ' b → Own σ ρ b ∨ w.heap.size ≤ b
 hl : σ.length ≤ σ'.length
 hobj : ∀ o,o < σ.length → σ'[o]? = σ[o]? ∧ ρ' o = ρ o
section gen
variable {c : Bool} {σ σ' : Sto} {ρ ρ' : Rz} {w w' : World}
theorem zfb (H : GenH c σ ρ w σ' ρ' w') {q : Bool} (hq : c = true ∨ (!q) = true) : ∀ b,Bset q σ' ρ' b → Bset q σ ρ b ∨ w.heap.size ≤ b:=by
 intro b h
 cases q with
 | false=>exact H.hm b h
 | true=>exact H.ho (by simpa using hq) b h
mutual
theorem VR.gen (H : GenH c σ ρ w σ' ρ' w') : ∀ (x : AV) (v : Value), (c = true ∨ nol x = true) → VR σ ρ w x v → VR σ' ρ' w' x v
 | .junk,_,_,_=>by simp [VR]
 | .lit _,_,_,h=>by simpa [VR] using h
 | .sl full q xs,v,hc,h=>by
  simp only [VR] at h ⊢
  obtain ⟨a,cap,sz,h1,h2,h3,h4,h5,h6,h7⟩:=h
  refine ⟨a,cap,sz,h1,h2,h3,h4,h5,h6,fun hx=>?_⟩
  obtain ⟨b,o,ha,hbs,hb,hp⟩:=h7 hx
  have:=H.hz;exact ⟨b,o,ha,by omega,fun hmb=>(zfb H (by simpa [nol] using hc) b hmb).elim hb (fun hle=>absurd hle (by omega)),PVss.carry H.hz (fun b hb hm=>H.hk b hb fun ho=>hm (.inl ho)) H.hm xs b o (H.hk b hbs fun ho=>hb ho.bset) hp⟩
 | .ip q xs,v,hc,h=>by
  simp only [VR] at h ⊢
  obtain ⟨b,o,ha,hbs,hb,hp⟩:=h
  have:=H.hz;exact ⟨b,o,ha,by omega,fun hmb=>(zfb H (by simpa [nol] using hc) b hmb).elim hb (fun hle=>absurd hle (by omega)),PVs.carry H.hz (fun b hb hm=>H.hk b hb fun ho=>hm (.inl ho)) H.hm xs b o (H.hk b hbs fun ho=>hb ho.bset) hp⟩
 | .vw o s i n,v,hc,h=>by
  simp only [VR] at h ⊢
  obtain ⟨h1,h2⟩:=h
  obtain ⟨e1,e2⟩:=H.hobj o h1
  exact ⟨Nat.lt_of_lt_of_le h1 H.hl,fun s' e sz xs hs=>by rw [e1] at hs;rw [e2];exact h2 _ _ _ _ hs⟩
 | .row o s,v,hc,h=>by
  simp only [VR] at h ⊢
  obtain ⟨h1,h2⟩:=h
  obtain ⟨e1,e2⟩:=H.hobj o h1
  exact ⟨Nat.lt_of_lt_of_le h1 H.hl,fun s' e sz xs hs=>by rw [e1] at hs;rw [e2];exact h2 _ _ _ _ hs⟩
 | .ptr o k,v,hc,h=>by
  simp only [VR] at h ⊢
  obtain ⟨h1,h2⟩:=h
  obtain ⟨e1,e2⟩:=H.hobj o h1
  exact ⟨Nat.lt_of_lt_of_le h1 H.hl,fun cs hs=>by rw [e1] at hs;rw [e2];exact h2 _ hs⟩
 | .ep o s i k,v,hc,h=>by
  simp only [VR] at h ⊢
  obtain ⟨h1,h2⟩:=h
  obtain ⟨e1,e2⟩:=H.hobj o h1
  exact ⟨Nat.lt_of_lt_of_le h1 H.hl,fun s' e sz xs hs=>by rw [e1] at hs;rw [e2];exact h2 _ _ _ _ hs⟩
 | .ag xs,v,hc,h=>by
  simp only [VR] at h ⊢
  obtain ⟨vs,h1,h2⟩:=h
  exact ⟨vs,h1,VRl.gen H xs vs (by simpa [nol] using hc) h2⟩
 | .tu xs,v,hc,h=>by
  simp only [VR] at h ⊢
  obtain ⟨vs,h1,h2⟩:=h
  exact ⟨vs,h1,VRl.gen H xs vs (by simpa [nol] using hc) h2⟩
 | .mref o,v,hc,h=>by
  simp only [VR] at h ⊢
  obtain ⟨h1,h2⟩:=h
  obtain ⟨e1,e2⟩:=H.hobj o h1
  exact ⟨Nat.lt_of_lt_of_le h1 H.hl,fun I hs=>by rw [e1] at hs;rw [e2];exact h2 _ hs⟩
 | .fn _ xs,v,hc,h=>by
  simp only [VR] at h ⊢
  obtain ⟨vs,h1,h2⟩:=h
  exact ⟨vs,h1,VRl.gen H xs vs (by simpa [nol] using hc) h2⟩
 | .gd g x,v,hc,h=>by
  simp only [VR] at h ⊢
  exact ⟨zan H.hl x h.1,fun e=>VR.gen H x v (by simpa [nol] using hc) (h.2.1 e),h.2.2⟩
theorem VRl.gen (H : GenH c σ ρ w σ' ρ' w') : ∀ (xs : List AV) (vs : List Value), (c = true ∨ ziR xs = true) → VRl σ ρ w xs vs → VRl σ' ρ' w' xs vs
 | [],[],_,_=>by simp [VRl]
 | [],_ :: _,_,h=>by simp [VRl] at h
 | _ :: _,[],_,h=>by simp [VRl] at h
 | x :: xs,v :: vs,hc,h=>by
  simp only [VRl] at h ⊢
  simp only [ziR,Bool.and_eq_true] at hc
  exact ⟨VR.gen H x v (hc.imp id And.left) h.1,VRl.gen H xs vs (hc.imp id And.right) h.2⟩
end
theorem RelO.gen (H : GenH c σ ρ w σ' ρ' w') {r : Value} {ob : Ob} (hc : c = true ∨ zzm ob = true) (hb : ∀ b,blk r = some b → w'.heap[b]? = w.heap[b]?) (h : RelO σ ρ w r ob) : RelO σ' ρ' w' r ob:=by
 cases ob with
 | gone=>trivial
 | mp I=>
  obtain ⟨b,x,rfl,h2,h3⟩:=h
  exact ⟨b,x,rfl,by rw [hb b rfl];exact h2,h3⟩
 | box cs=>
  obtain ⟨b,ty,vs,rfl,h2,h3,h4⟩:=h
  exact ⟨b,ty,vs,rfl,by rw [hb b rfl];exact h2,h3,VRl.gen H _ _ hc h4⟩
 | row s e sz xs=>
  obtain ⟨h0,h00,h⟩:=h
  refine ⟨h0,h00,?_⟩
  rcases h with h|⟨b,cap,vs,sp,rfl,h2,h3,h4,h5,h6,h7⟩
  ·exact .inl h
  ·exact .inr ⟨b,cap,vs,sp,rfl,by rw [hb b (by simp [blk];omega)];exact h2,h3,h4,h5,h6,VRl.gen H _ _ hc h7⟩
end gen
theorem zhA {σ : Sto} {ρ ρ' : Rz} (h : ρ'.val = ρ.val) {b : Nat} : Own σ ρ' b ↔ Own σ ρ b:=by
 unfold Own
 simp only [h]
def ad2 (ρ : Rz) (F : Nat → Prop) (L bA bB : Nat) : Rz:=⟨fun o=>if o = L then .pointer (some ⟨bA,0,none⟩) else if o = L + 1 then .pointer (some ⟨bB,0,none⟩) else ρ.val o,F⟩
section ad2
variable {σ : Sto} {ρ : Rz} {w : World} {F : Nat → Prop} {bA bB : Nat} {csA csB : List Value}
end ad2
section al2
variable {P : Program} {N : Nat}
structure AlV (σ : Sto) (ρ' : Rz) (w w' : World) (a' : Act) (d t b : Nat) (cs : List Value) : Prop where
 at_ : a'.tmps.getD d undef = .pointer (some ⟨b,0,none⟩)
 fo : ρ'.fo b
 ge : w.heap.size ≤ b
 lt : b < w'.heap.size
 he : w'.heap[b]? = some (.cells cs.toArray t (0,0))
structure AlI (n : Nat) (σ : Sto) (ρ : Rz) (w : World) (lA lB : Bool) (dA dB tA tB : Nat) (csA csB : List Value) (ρ' : Rz) (w' : World) (a' : Act) : Prop where
 st : Step n σ ρ w σ ⟨ρ'.val,ρ.fo⟩ w'
 fo : ∀ b,ρ.fo b → ρ'.fo b
 vA : lA = true → ∃ b,AlV σ ρ' w w' a' dA tA b csA
 vB : lB = true → ∃ b,AlV σ ρ' w w' a' dB tB b csB
 ne : lA = true → lB = true → a'.tmps.getD dA undef ≠ a'.tmps.getD dB undef
theorem AlV.step {σ : Sto} {ρ1 ρ2 : Rz} {w w1 w2 : World} {a1 a2 : Act} {d t b : Nat} {cs : List Value} (h : AlV σ ρ1 w w1 a1 d t b cs) (hr : Rel σ ρ1 w1) (st : Step σ.length σ ρ1 w1 σ ρ2 w2) (ha : a2.tmps.getD d undef = a1.tmps.getD d undef) : AlV σ ρ2 w w2 a2 d t b cs:=
 ⟨by rw [ha];exact h.at_,by rw [st.fo];exact h.fo,h.ge,Nat.lt_of_lt_of_le h.lt st.size,by rw [st.kept b h.lt (fun ho=>hr.dis b ho h.fo)];exact h.he⟩
theorem AlI.step {n : Nat} {σ : Sto} {ρ : Rz} {w : World} {lA lB : Bool} {dA dB tA tB : Nat} {csA csB : List Value} {ρ1 ρ2 : Rz} {w1 w2 : World} {a1 a2 : Act} (h : AlI n σ ρ w lA lB dA dB tA tB csA csB ρ1 w1 a1) (hr : Rel σ ρ1 w1) (st : Step σ.length σ ρ1 w1 σ ρ2 w2)
    (hA : a2.tmps.getD dA undef = a1.tmps.getD dA undef) (hB : a2.tmps.getD dB undef = a1.tmps.getD dB undef) : AlI n σ ρ w lA lB dA dB tA tB csA csB ρ2 w2 a2:=by
  have st2 : Step n σ ⟨ρ1.val,ρ.fo⟩ w1 σ ⟨ρ2.val,ρ.fo⟩ w2:=
    ⟨st.os,st.tape,st.output,st.size,fun b hb ho=>st.kept b hb (fun h=>ho ((zhA rfl).2 h)),fun b hb=>(st.own b ((zhA rfl).1 hb)).imp (zhA rfl).2 id,h.st.len,h.st.len',fun o ho=>st.obj o (Nat.lt_of_lt_of_le ho h.st.len),rfl⟩
  exact ⟨h.st.trans st2,fun b hb=>by rw [st.fo];exact h.fo b hb,fun e=>(h.vA e).imp fun b k=>k.step hr st hA,fun e=>(h.vB e).imp fun b k=>k.step hr st hB,fun e1 e2=>by rw [hA,hB];exact h.ne e1 e2⟩
structure al3K (P : Program) (N : Nat) (ops : Array Oper) (ok oS : Oper) (l2 : List Oper) (dA dB L L2 : Nat) (σ2 : Sto) (K : Env → Sto → Prop) (Γ : Env) : Prop where
 p_ : ∃ x σ3, (∀ τ, ro P N ops [ok] (rst ops ok Γ) τ (fun Γ1 τ' => Γ1 = put (rst ops ok Γ) ok.dst x ∧ τ' = τ)) ∧ (rst ops ok Γ).all (fun p => nol p.2) = true ∧
  ro P N ops [oS] (rst ops oS ((dB,.ptr L2 0) :: (dA,.ptr L 0) :: nlE (put Γ ok.dst x))) σ2 (fun Γ1 τ=>Γ1 = put (rst ops oS ((dB,.ptr L2 0) :: (dA,.ptr L 0) :: nlE (put Γ ok.dst x))) oS.dst .junk ∧ τ = σ3) ∧
  rg P N ops l2 ((dB,.ptr L2 0) :: (dA,.ptr L 0) :: nlE (put Γ ok.dst x)) σ3 K
end al2
end Go.Lf
namespace Go.Lf
open Go
theorem zqG {P : Program} {N : Nat} {o : Oper} {Γ : Env} {σ : Sto} {K K' : AV → Sto → Prop} (h : SOp P N o Γ σ K') (hK : ∀ x σ',K' x σ' → K (fz (List.range σ.length) σ' x) (gcS (List.range σ.length) σ')) : SOp P N o Γ σ K:=by
 intro ρ w a next Q hf hr hn
 refine h ρ w a next Q hf hr ?_
 intro x σ' ρ' w' v hx hr' hv hs
 refine hn _ _ (gcR (List.range σ.length) ρ') w' v (hK x σ' hx) (zgA List.nodup_range hr') (zfJ hr' x v hv) ?_
 exact hs.trans (zdH (by simp) hs.len' (by rw [List.take_of_length_le (by simp)]))
theorem zfc {P : Program} {N : Nat} {o : Oper} {Γ : Env} {σ σ2 : Sto} {K : AV → Sto → Prop} {t e sz bt n : Nat} {z : Value} {x y : Operand} {k k' : IntKind} {l c : Int} {zs : List AV} {x2 : AV} (ho : o.op = .makeSlice t x y) (ht : P.underlying t = some (.slice e)) (he : EO P e sz bt z)
    (hx : ev Γ x = .lit (.int k l)) (hy : ev Γ y = .lit (.int k' c)) (h0 : 0 ≤ l) (hlc : l ≤ c) (hb : bt * c ≤ 281474976710656) (h63 : c ≤ 9223372036854775807)
    (h1 : z.cells.toList.all (fun v=>v.oneCell') = true) (hn : l.toNat = n) (hz : z.cells.toList.map alit = zs)
    (hf : fz (List.range σ.length) (σ ++ [.row 0 e sz (List.replicate n zs)]) (.row σ.length 0) = x2) (hg : gcS (List.range σ.length) (σ ++ [.row 0 e sz (List.replicate n zs)]) = σ2) (hK : K x2 σ2) : SOp P N o Γ σ K:=by
  subst hn;subst hz;subst hf;subst hg
  refine zqG (K':=fun x σ'=>x = .row σ.length 0 ∧ σ' = σ ++ [.row 0 e sz (List.replicate l.toNat (z.cells.toList.map alit))]) (zeL ho ht he hx hy h0 hlc hb h63 h1 ⟨rfl,rfl⟩) ?_
  rintro _ _ ⟨rfl,rfl⟩
  exact hK
end Go.Lf
namespace Go.Lf
open Go
section az
variable {P : Program} {w : World}
theorem kZ (z : Array Value) (hz : 0 < z.size) (n : Nat) : (Builtin.zeroCells z n).toList = (List.replicate n z.toList).flatten:=vb z hz n
theorem kz (t tn ty e : TypeId) (i : TypeInfo) (kq kn : IntKind) (ht : P.underlying t = some (.slice e)) (htn : P.underlying tn = some (.int kn)) (hi : P.info? e = some i)
    (base : Option Addr) (sLen sCap : Nat) (hle : sLen ≤ sCap) :
    (Builtin.append_ #[t,tn] ty #[.slice base sLen sCap,.int kq 0]).run P w = .ok (.slice base sLen sCap) w:=by
  have hw : IntKind.i64.wrap (0 : Int) = 0:=by rw [IntKind.wrap_i64];omega
  cases base<;>simp [Builtin.append_,run_underlying ht,run_underlying htn,sizeOf,typeInfo,hi,asInt,asIntOf,hw,hle,storeCells]
theorem kA (t tn ty e : TypeId) (i : TypeInfo) (z : Value) (kq kn : IntKind) (ht : P.underlying t = some (.slice e)) (htn : P.underlying tn = some (.int kn)) (hi : P.info? e = some i) (hz : i.zero = some z)
    (g sLen sCap : Nat) (cur : Array Value) (hg : w.heap[g]? = some (.cells cur e (0,0)))
    (k : Nat) (h0 : 0 < k) (hs : 0 < i.size) (hzp : 0 < z.cells.size) (h63 : (k : Int) ≤ 9223372036854775807) (h48 : k * i.bytes ≤ 281474976710656) (h1 : ∀ u ∈ (List.replicate k z.cells.toList).flatten,u.oneCell' = true)
    (hroom : sLen + k ≤ sCap) (hfit : sLen * i.size + ((List.replicate k z.cells.toList).flatten).length ≤ cur.size) :
    (Builtin.append_ #[t, tn] ty #[.slice (some ⟨g, 0, none⟩) sLen sCap, .int kq k]).run P w =
      .ok (.slice (some ⟨g,0,none⟩) (sLen + k) sCap) (w.setRow g (cur.toList.take (sLen * i.size) ++ (List.replicate k z.cells.toList).flatten ++ cur.toList.drop (sLen * i.size + ((List.replicate k z.cells.toList).flatten).length)).toArray):=by
  have hk : k ≠ 0:=by omega
  have hw : IntKind.i64.wrap (k : Int) = k:=by rw [IntKind.wrap_i64];omega
  have h48i : ¬ (281474976710656 < (k : Int) * (i.bytes : Int)):=by
    rw [← Int.natCast_mul]
    omega
  have hneg : ¬ ((k : Int) < 0):=by omega
  have hns : ¬ (k * i.size = 0):=Nat.mul_ne_zero hk (by omega)
  have hst:=run_storeCells_at P g (sLen * i.size) e ((List.replicate k z.cells.toList).flatten) 0 cur w hg (by simpa using hfit) h1
  simp only [Nat.add_zero] at hst
  simp [Builtin.append_,run_underlying ht,run_underlying htn,sizeOf,typeInfo,zeroValue,hi,hz,asInt,asIntOf,hw,hneg,hns,h48i,hroom,kZ _ hzp,Addr.add_lit,hst]
end az
theorem zco {P : Program} {o : Oper} {a : Act} {w w' : World} {x y : Operand} {t tn : TypeId} {v : Value} (ho : o.op = .call { callee := .builtin .append, args := #[x, y], argTypes := #[t, tn] })
    (h : (Builtin.append_ #[t,tn] o.type #[a.eval x,a.eval y]).run P w = .ok v w') : (execOp a.eval o).run P w = .ok (.value v) w':=by
  simp [execOp,ho,resolve,invoke,builtin,h]
theorem zal {P : Program} {N : Nat} {o : Oper} {Γ : Env} {σ : Sto} {K : AV → Sto → Prop} {x y : Operand} {t tn e sz bt : Nat} {z : Value} {oo s : Nat} {xs : List (List AV)} {k kn : IntKind} {c : Int}
    (ho : o.op = .call { callee:=.builtin .append,args:=#[x,y],argTypes:=#[t,tn] }) (ht : P.underlying t = some (.slice e)) (htn : P.underlying tn = some (.int kn)) (he : EO P e sz bt z)
    (hx : ev Γ x = .row oo s) (hs : σ[oo]? = some (.row s e sz xs)) (hy : ev Γ y = .lit (.int k c)) (h0c : 0 ≤ c) (hz1 : z.cells.toList.all (fun v=>v.oneCell') = true) (hb : (xs.length + c.toNat) * bt ≤ 140737488355328) (h63 : xs.length + c.toNat ≤ maxLen)
    (hK : K (.row oo (s + 1)) (σ.set oo (.row (s + 1) e sz (xs ++ List.replicate c.toNat (z.cells.toList.map alit))))) : SOp P N o Γ σ K:=by
  obtain ⟨n,rfl⟩ : ∃ n : Nat,c = n:=⟨c.toNat,by omega⟩
  simp only [Int.toNat_natCast] at hb h63 hK
  obtain ⟨ys,hyse⟩ : ∃ ys,ys = List.replicate n (z.cells.toList.map alit):=⟨_,rfl⟩
  obtain ⟨vy,hvy⟩ : ∃ vy,vy = (List.replicate n z.cells.toList).flatten:=⟨_,rfl⟩
  rw [← hyse] at hK
  intro ρ w a next Q hf hr hn
  have ey : a.eval y = .int k n:=hf.lit hy
  obtain ⟨i,hi,hz,hi1,hi2⟩:=he.parts
  have hzs:=he.2.1
  have hpos:=he.2.2
  have hyl : ys.length = n:=by rw [hyse,List.length_replicate]
  have hys : ∀ y ∈ ys,y.length = sz:=by
    intro y hy;rw [hyse,List.mem_replicate] at hy;rw [hy.2];simpa using hzs
  have hly:=yA hys
  have Vy : VRl σ ρ w ys.flatten vy:=by rw [hyse,hvy];exact zaL _ _
  have hlv:=zO _ _ Vy
  have oy : ∀ u ∈ vy,u.oneCell' = true:=by
    intro v hv
    rw [hvy] at hv
    simp only [List.mem_flatten,List.mem_replicate] at hv
    obtain ⟨q,⟨_,rfl⟩,hv⟩:=hv
    exact (List.all_eq_true.1 hz1) v hv
  have hX:=hf.ev x
  rw [hx] at hX
  simp only [VR] at hX
  have hv:=(hX.2 _ _ _ _ hs).2 rfl
  have hlt:=hX.1
  obtain ⟨h0,h00,hO⟩:=hr.obj _ _ hs
  have hlx:=yA h0
  have all : ∀ q ∈ xs ++ ys,q.length = sz:=by intro q hq;simp only [List.mem_append] at hq;exact hq.elim (h0 q) (hys q)
  have fin : ∀ (v' : Value) (w' : World), (Builtin.append_ #[t, tn] o.type #[a.eval x, a.eval y]).run P w = .ok v' w' → w'.os = w.os → w'.tape = w.tape → w'.output = w.output → w.heap.size ≤ w'.heap.size →
      (∀ b,b < w.heap.size → blk (ρ oo) ≠ some b → w'.heap[b]? = w.heap[b]?) → (∀ b,blk v' = some b → blk (ρ oo) = some b ∨ w.heap.size ≤ b) →
      (((∃ ad,v' = .slice ad 0 0) ∧ xs ++ ys = []) ∨ ∃ b cap,∃ vs sp : List Value,v' = .slice (some ⟨b,0,none⟩) (xs ++ ys).length cap ∧ w'.heap[b]? = some (.cells (vs ++ sp).toArray e (0,0)) ∧ (xs ++ ys).length ≤ cap ∧ (0 < cap ∧ cap ≤ maxLen) ∧ (vs ++ sp).length = cap * sz ∧ (∀ v ∈ vs,v.oneCell' = true) ∧ VRl σ ρ w (xs ++ ys).flatten vs) →
      (execOp a.eval o).run P w = .ok (.value v') w' ∧ ∃ ρ',Rel (σ.set oo (.row (s + 1) e sz (xs ++ ys))) ρ' w' ∧ VR (σ.set oo (.row (s + 1) e sz (xs ++ ys))) ρ' w' (.row oo (s + 1)) v' ∧ Step σ.length σ ρ w (σ.set oo (.row (s + 1) e sz (xs ++ ys))) ρ' w':=by
    intro v' w' hrun os tp ou hsz hk hbl hrow
    refine ⟨zco ho hrun,upd ρ oo v',?_⟩
    have hobj : ObjStep (some (.row s e sz xs)) (some (.row (s + 1) e sz (xs ++ ys))) (ρ oo) v':=by simp only [ObjStep,true_and];omega
    have st:=vr (σ:=σ) (ρ:=ρ) (w:=w) (w':=w') (r:=v') hs rfl hobj os tp ou hsz hk (fun b _=>hbl b)
    refine ⟨kt hr hs rfl hobj os tp ou hsz hk (fun b _=>hbl b) ⟨all,h00,?_⟩,?_,st⟩
    · rcases hrow with h | ⟨b, cap, vs, sp, k1, k2, k3, k4, k5, k6, k7⟩
      · exact .inl h
      · exact .inr ⟨b,cap,vs,sp,k1,k2,k3,k4,k5,k6,VRl.carry st _ _ k7⟩
    · simp only [VR, List.length_set]
      refine ⟨hlt,fun s' e' sz' xs' hs'=>?_⟩
      rw [List.getElem?_set_self hlt] at hs'
      simp at hs'
      obtain ⟨rfl,_⟩:=hs'
      exact ⟨Nat.le_refl _,fun _=>by rw [yf]⟩
  have done : ∀ v' w',((execOp a.eval o).run P w = .ok (.value v') w' ∧ ∃ ρ',Rel (σ.set oo (.row (s + 1) e sz (xs ++ ys))) ρ' w' ∧ VR (σ.set oo (.row (s + 1) e sz (xs ++ ys))) ρ' w' (.row oo (s + 1)) v' ∧ Step σ.length σ ρ w (σ.set oo (.row (s + 1) e sz (xs ++ ys))) ρ' w') → o.wp P a w next Q:=by
    rintro v' w' ⟨h1,ρ',h2,h3,h4⟩
    unfold Oper.wp
    rw [h1,Oper.upon_value]
    exact hn _ _ _ _ _ hK h2 h3 h4
  by_cases hn0 : n = 0
  · subst hn0
    have hy0 : ys = []:=List.eq_nil_of_length_eq_zero hyl
    subst hy0
    rcases hO with ⟨⟨ad,hO⟩,rfl⟩|⟨b,cap,vs,sp,hb',hh,hle,hm,hc,hone,hl⟩
    · refine done _ _ (fin (.slice ad 0 0) w ?_ rfl rfl rfl (Nat.le_refl _) (fun _ _ _ => rfl) (by cases ad <;> simp [blk]) (.inl ⟨⟨ad, rfl⟩, rfl⟩))
      rw [hv,hO,ey]
      exact kz t tn _ e i k kn ht htn hi ad 0 0 (Nat.le_refl _)
    · refine done _ _ (fin (.slice (some ⟨b, 0, none⟩) xs.length cap) w ?_ rfl rfl rfl (Nat.le_refl _) (fun _ _ _ => rfl) (fun c hc => .inl (by rw [hb']; exact hc)) (.inr ⟨b, cap, vs, sp, by simp, hh, by simpa using hle, hm, hc, hone, by simpa using hl⟩))
      rw [hv,hb',ey]
      exact kz t tn _ e i k kn ht htn hi _ _ _ hle
  · have hp : 0 < n := by omega
    have hbn : n * i.bytes ≤ 140737488355328:=by
      rw [hi2];exact Nat.le_trans (Nat.mul_le_mul_right _ (Nat.le_add_left _ _)) hb
    have hb2 : (xs.length + n) * i.bytes ≤ 140737488355328:=by rw [hi2];exact hb
    have hspos : 0 < i.size:=by rw [hi1];exact hpos
    have grow : ∀ ax cx (vx : List Value),a.eval x = .slice ax xs.length cx → xs.length ≤ cx → vx.length = xs.length * sz → (Builtin.firstCells i.size xs.length (.slice ax xs.length cx)).run P w.drew = .ok vx.toArray w.drew → (∀ u ∈ vx,u.oneCell' = true) → VRl σ ρ w xs.flatten vx → cx < xs.length + n → o.wp P a w next Q:=by
      intro ax cx vx ex lx hl1 hfc ox Vx gx
      have hlvx:=zO _ _ Vx
      have h63' : ((xs.length + n : Nat) : Int) ≤ 9223372036854775807:=by simp only [maxLen] at h63;omega
      have hrun:=Go.Lib.run_append_grow_zeros (P:=P) w t tn o.type e i z k kn ht htn hi hz ax xs.length cx vx hfc n hp hspos gx h63' (by omega) (growslice_fits gx hb2)
      have hg1:=grownCap_ge w (xs.length + n) cx e
      have hg2:=grownCap_le_maxLen w (xs.length + n) cx e h63
      have hcl : (vx.toArray ++ Builtin.zeroCells z.cells n ++ Builtin.zeroCells z.cells (grownCap w (xs.length + n) cx e - (xs.length + n))) = (vx ++ vy ++ (Builtin.zeroCells z.cells (grownCap w (xs.length + n) cx e - (xs.length + n))).toList).toArray:=by
        apply Array.ext'
        simp [kZ _ (show 0 < z.cells.size by rw [hzs];exact hpos),hvy]
      rw [hcl] at hrun
      refine done _ _ (fin (.slice (some ⟨w.heap.size, 0, none⟩) (xs.length + n) (grownCap w (xs.length + n) cx e)) (w.drew.alloc (.cells (vx ++ vy ++ (Builtin.zeroCells z.cells (grownCap w (xs.length + n) cx e - (xs.length + n))).toList).toArray e)) (by rw [ex, ey]; exact hrun) rfl rfl rfl (by simp) (fun c hc _ => (by first|exact heap_alloc_old w.drew _ c hc|exact heap_alloc_old w.drew _ hc)) (fun c hc => .inr (by simp [blk] at hc; omega))
        (.inr ⟨w.heap.size,grownCap w (xs.length + n) cx e,vx ++ vy,(Builtin.zeroCells z.cells (grownCap w (xs.length + n) cx e - (xs.length + n))).toList,by simp [hyl],heap_alloc_new w.drew _,by simpa [hyl] using hg1,⟨by omega,hg2⟩,?_,(by intro u hu;simp only [List.mem_append] at hu;exact hu.elim (ox u) (oy u)),by rw [List.flatten_append];exact yD _ _ _ _ Vx Vy⟩))
      have hz3 : (Builtin.zeroCells z.cells (grownCap w (xs.length + n) cx e - (xs.length + n))).toList.length = (grownCap w (xs.length + n) cx e - (xs.length + n)) * sz:=by rw [Array.length_toList,size_zeroCells,hzs]
      rw [List.length_append,List.length_append,hl1,← hlv,hly,hyl,hz3,← Nat.add_mul,← Nat.add_mul]
      congr 1;omega
    rcases hO with ⟨⟨ad,hO⟩,rfl⟩|⟨b,cap,vs,sp,hb',hh,hle,hm,hc,hone,hl⟩
    · refine grow ad 0 [] (by rw [hv, hO]; rfl) (by simp) (by simp) ?_ (by simp) (by simp [VRl]) (by simpa using hp)
      cases ad<;>simp [Builtin.firstCells,loadCells,loadCellsFrom]
    · by_cases hroom : xs.length + n ≤ cap
      · have hlvs := zO _ _ hl
        have hfit : xs.length * i.size + vy.length ≤ (vs ++ sp).toArray.size:=by
          rw [hi1]
          simp only [List.size_toArray,hc]
          rw [← hlv,hly,hyl,← Nat.add_mul]
          exact Nat.mul_le_mul_right _ hroom
        have hrun:=kA (P:=P) (w:=w) t tn o.type e i z k kn ht htn hi hz b xs.length cap (vs ++ sp).toArray hh n hp hspos (by rw [hzs];exact hpos) (by simp only [maxLen] at h63;omega) (by omega) (by rw [← hvy];exact oy) hroom (by rw [← hvy];exact hfit)
        rw [← hvy] at hrun
        refine done _ _ (fin (.slice (some ⟨b, 0, none⟩) (xs.length + n) cap) (w.setRow b ((vs ++ sp).toArray.toList.take (xs.length * i.size) ++ vy ++ (vs ++ sp).toArray.toList.drop (xs.length * i.size + vy.length)).toArray) (by rw [hv, hb', ey]; exact hrun) rfl rfl rfl (by simp) (fun c hc hne => setRow_other w b c _ (fun e => hne (by rw [hb', e]; simp [blk]; omega))) (fun c hc => .inl (by rw [hb']; simp [blk] at hc ⊢; omega))
          (.inr ⟨b,cap,vs ++ vy,(sp.drop vy.length),by simp [hyl],?_,by simpa [hyl] using hroom,hm,?_,(by intro u hu;simp only [List.mem_append] at hu;exact hu.elim (hone u) (oy u)),by rw [List.flatten_append];exact yD _ _ _ _ hl Vy⟩))
        · rw [setRow_heap w b _ _ e _ hh]
          have e1 : xs.length * i.size = vs.length:=by rw [hi1];omega
          simp only [e1,List.take_left]
          congr 3
          rw [List.drop_append]
          simp
        · have := hc
          simp only [List.length_append,List.length_drop] at this ⊢
          have : ys.length * sz + vs.length ≤ cap * sz:=by
            rw [← hlvs,hlx,← Nat.add_mul];exact Nat.mul_le_mul_right _ (by omega)
          omega
      · refine grow (some ⟨b, 0, none⟩) cap vs (by rw [hv, hb']) hle (by rw [← zO _ _ hl, hlx]) ?_ hone hl (by omega)
        exact run_firstCells_some (P:=P) w.drew i.size xs.length ⟨b,0,none⟩ xs.length cap vs (by rw [hi1,← zO _ _ hl,hlx]) (fun j u hj=>by
          have:=zK hh j u (by rw [List.getElem?_append_left (List.getElem?_eq_some_iff.1 hj).1];exact hj)
          simpa using this)
theorem yI {P : Program} {N : Nat} {o : Oper} {Γ : Env} {σ σ2 : Sto} {K : AV → Sto → Prop} {x y : Operand} {t tn e sz bt : Nat} {z : Value} {oo s : Nat} {xs xs2 : List (List AV)} {zs : List AV} {k kn : IntKind} {c : Int}
    (ho : o.op = .call { callee:=.builtin .append,args:=#[x,y],argTypes:=#[t,tn] }) (ht : P.underlying t = some (.slice e)) (htn : P.underlying tn = some (.int kn)) (he : EO P e sz bt z)
    (hx : ev Γ x = .row oo s) (hs : σ[oo]? = some (.row s e sz xs)) (hy : ev Γ y = .lit (.int k c)) (h0c : 0 ≤ c) (hz1 : z.cells.toList.all (fun v=>v.oneCell') = true) (hb : (xs.length + c.toNat) * bt ≤ 140737488355328) (h63 : xs.length + c.toNat ≤ 9223372036854775807)
    (hz : z.cells.toList.map alit = zs) (hxs : xs ++ List.replicate c.toNat zs = xs2) (hσ : σ.set oo (.row (s + 1) e sz xs2) = σ2) (hK : K (.row oo (s + 1)) σ2) : SOp P N o Γ σ K:=by
  subst hz;subst hxs;subst hσ
  exact zal ho ht htn he hx hs hy h0c hz1 hb h63 hK
end Go.Lf
namespace Go.Lf
open Go
theorem zae {σ : Sto} {ρ : Rz} {w : World} : ∀ (l : List UInt8), VRl σ ρ w (l.map zf).flatten (l.map fun x => Value.int .u8 x.toNat)
 | []=>by simp [VRl]
 | x :: l=>by
  simp only [List.map_cons,List.flatten_cons,zf,List.cons_append,List.nil_append,VRl,VR]
  exact ⟨trivial,zae l⟩
theorem zbp {P : Program} {N : Nat} {o : Oper} {Γ : Env} {σ : Sto} {K : AV → Sto → Prop} {y : Operand} {t u e bt : Nat} {z : Value} {l : List UInt8}
    (ho : o.op = .call { callee:=.builtin .append,args:=#[.const (.slice none 0 0),y],argTypes:=#[t,u] }) (ht : P.underlying t = some (.slice e)) (hu : P.underlying u = some .string) (he : EO P e 1 bt z)
    (hy : ev Γ y = .lit (.string ⟨l.toArray⟩)) (h0 : 0 < l.length) (hb : l.length * bt ≤ 140737488355328) (h63 : l.length ≤ maxLen)
    (hK : K (.row σ.length 0) (σ ++ [.row 0 e 1 (l.map zf)])) : SOp P N o Γ σ K:=by
  intro ρ w a next Q hf hr hn
  have hv:=hf.ev y
  rw [hy] at hv
  simp only [VR] at hv
  obtain ⟨i,hi,hz,h1,h2⟩:=he.parts
  have hzs:=he.2.1
  subst h2
  have hls : (⟨l.toArray⟩ : ByteArray).size = l.length:=rfl
  have h63' : (l.length : Int) ≤ 9223372036854775807:=by simp only [maxLen] at h63;omega
  have hrun:=run_append_nil_string (P:=P) (w:=w) t u o.type e i z ht hu hi hz ⟨l.toArray⟩ (by rw [hls];exact h0) (by rw [hls];exact h63') (by rw [hls];omega)
  rw [hls] at hrun
  obtain ⟨cap,hcap⟩ : ∃ c,grownCap w l.length 0 e = c:=⟨_,rfl⟩
  have hge : l.length ≤ cap:=by rw [← hcap];exact grownCap_ge w _ _ _
  have hle : cap ≤ maxLen:=by rw [← hcap];exact grownCap_le_maxLen w _ _ _ h63
  rw [hcap] at hrun
  obtain ⟨sp,hsp⟩ : ∃ s,(Builtin.zeroCells z.cells (cap - l.length)).toList = s:=⟨_,rfl⟩
  have hcells : ((⟨l.toArray⟩ : ByteArray).data.map (fun b=>Value.int .u8 b.toNat) ++ Builtin.zeroCells z.cells (cap - l.length)) = ((l.map fun x=>Value.int .u8 x.toNat) ++ sp).toArray:=by
    rw [← hsp];exact Array.ext' (by simp)
  rw [hcells] at hrun
  have hlen : ((l.map fun x=>Value.int .u8 x.toNat) ++ sp).length = cap * 1:=by
    rw [← hsp]
    simp only [List.length_append,List.length_map,Array.length_toList,size_zeroCells,hzs]
    omega
  have hk : ∀ c,c < w.heap.size → (w.drew.alloc (.cells ((l.map fun x=>Value.int .u8 x.toNat) ++ sp).toArray e)).heap[c]? = w.heap[c]?:=fun c hc=>(by first|exact heap_alloc_old w.drew _ c hc|exact heap_alloc_old w.drew _ hc)
  obtain ⟨ρ', h2, h3, h4⟩ := zbU (w' := w.drew.alloc (.cells ((l.map fun x => Value.int .u8 x.toNat) ++ sp).toArray e)) (xs := l.map zf) (sz := 1) (e := e) (vs := l.map fun x => Value.int .u8 x.toNat) (sp := sp) (b := w.heap.size) (cap := cap) hr rfl rfl rfl (by simp) hk (Nat.le_refl _) (heap_alloc_new w.drew _)
    (by intro q hq;simp only [List.mem_map] at hq;obtain ⟨_,_,rfl⟩:=hq;rfl) (by decide) (by rw [List.length_map];exact hge) ⟨by omega,hle⟩ hlen
    (by intro u hu;simp only [List.mem_map] at hu;obtain ⟨_,_,rfl⟩:=hu;rfl) (zae l)
  unfold Oper.wp
  have hex : (execOp a.eval o).run P w = .ok (.value (.slice (some ⟨w.heap.size,0,none⟩) l.length cap)) (w.drew.alloc (.cells ((l.map fun x=>Value.int .u8 x.toNat) ++ sp).toArray e)):=by
    have e1 : a.eval (.const (.slice none 0 0)) = .slice none 0 0:=rfl
    simp [execOp,ho,resolve,invoke,builtin,hv,e1,hrun]
  rw [hex,Oper.upon_value]
  exact hn _ _ _ _ _ hK h2 (by simpa using h3) h4
theorem zdi {P : Program} {N : Nat} {o : Oper} {Γ : Env} {σ σ2 : Sto} {K : AV → Sto → Prop} {y : Operand} {t u e bt L : Nat} {z : Value} {l : List UInt8}
    (ho : o.op = .call { callee:=.builtin .append,args:=#[.const (.slice none 0 0),y],argTypes:=#[t,u] }) (ht : P.underlying t = some (.slice e)) (hu : P.underlying u = some .string) (he : EO P e 1 bt z)
    (hy : ev Γ y = .lit (.string ⟨l.toArray⟩)) (h0 : 0 < l.length) (hb : l.length * bt ≤ 140737488355328) (h63 : l.length ≤ maxLen)
    (hL : σ.length = L) (hσ : σ ++ [.row 0 e 1 (l.map zf)] = σ2) (hK : K (.row L 0) σ2) : SOp P N o Γ σ K:=by
  subst hL;subst hσ
  exact zbp ho ht hu he hy h0 hb h63 hK
end Go.Lf
namespace Go.Proofs.YtdalcgfnlbofdaaGreatDoor
open Go Go.Lf Go.Proofs Go.ChangeShapes Go.WideShapes Go.ChangeAt Go.RowKit
attribute [local irreducible] Lf.rg Lf.ro Lf.PWp Lf.SOp Lf.ACall Lf.Scoped Lf.dg
set_option maxRecDepth 20000
set_option maxHeartbeats 4000000
abbrev zhB : List (String × DataW Unit) := [("stickler/repr.forms", Rows.laid_stickler_repr_forms)]
theorem gForms : Tryz.prog.globalNamed "stickler/repr.forms" = some 0 := by kernel_rfl
theorem tForms : (Tryz.prog.globals[0]?).map (·.type) = some 288:=by kernel_rfl
theorem vZ {W : World} {base : Nat} {spare : Nat → Bool} {held : Bool} {n : Nat} {cs : List Value} {a b : Int} {x : DataW Unit × List MemPlace} {enc : TypeId × Value → Unit}
    (h : DataW.trod enc Tryz.prog W base spare held n 287 cs = some x) (hx : x.1 = .agg [.lit (.int .i64 a),.lit (.int .i64 b)]) : cs = [.int .i64 a,.int .i64 b]:=by
  obtain ⟨y0,y1,m,rfl,hl,h0,h1⟩:=trod_struct2 Tryz.underlying287 h
  obtain ⟨k0,e0,f0,_⟩:=DataW.trod_int Tryz.underlying3 h0
  obtain ⟨k1,e1,f1,_⟩:=DataW.trod_int Tryz.underlying3 h1
  simp only [DataW.agg.injEq,List.cons.injEq] at hx
  have c3 : Tryz.prog.cellsOf 3 = 1:=ce3
  have c93 : Tryz.prog.cellsOf 287 = 2:=zqd
  rw [c93] at hl
  match cs,hl with
  | [c0,c1],_=>
    simp [c3] at e0 e1
    rw [f0,f1] at hx
    simp at hx
    obtain ⟨rfl,rfl⟩:=hx
    rw [e0,e1]
theorem zqH {α : Type} (cs : List α) (h : cs.length = 12) : cs = (cs.drop 0).take 2 ++ ((cs.drop 2).take 2 ++ ((cs.drop 4).take 2 ++ ((cs.drop 6).take 2 ++ ((cs.drop 8).take 2 ++ (cs.drop 10).take 2)))):=by
 match cs,h with
 | [a,b,c,d,e,f,g,h,i,j,k,l],_=>rfl
theorem zf1 {W : World} (h : laidMetH Tryz.prog zhB W) : GV [] rz0 W:=by
 rw [MakeChecks.laidMetH_plain _ _ _ (by kernel_rfl)] at h
 obtain ⟨ps,⟨g0,t0,cs0,f0,p0,q0,hg0,ht0,hv0,hd0,_,_⟩,_,_⟩:=h
 obtain rfl:=Option.some.inj (gForms.symm.trans hg0)
 obtain rfl:=Option.some.inj (tForms.symm.trans ht0)
 obtain ⟨xs,m1,rfl,hx1,hlen,hn6,hel⟩:=DataW.trod_array Tryz.underlying288 hd0
 have c93 : Tryz.prog.cellsOf 287 = 2:=zqd
 have c94 : Tryz.prog.cellsOf 288 = 12:=ztd
 rw [c94] at hlen
 simp only [c93] at hel
 have hcs : cs0.toList = [.int .i64 0,.int .i64 0,.int .i64 128,.int .i64 7,.int .i64 64,.int .i64 6,.int .i64 0,.int .i64 4,.int .i64 16,.int .i64 4,.int .i64 32,.int .i64 5]:=by
  match xs,hn6 with
  | [x0,x1,x2,x3,x4,x5],_=>
   simp only [Prod.mk.injEq,Rows.laid_stickler_repr_forms,List.map_cons,List.map_nil,DataW.agg.injEq,List.cons.injEq,and_true] at hx1
   obtain ⟨⟨y0,y1,y2,y3,y4,y5⟩,_⟩:=hx1
   have e0:=vZ (hel 0 (by decide)) y0.symm
   have e1:=vZ (hel 1 (by decide)) y1.symm
   have e2:=vZ (hel 2 (by decide)) y2.symm
   have e3:=vZ (hel 3 (by decide)) y3.symm
   have e4:=vZ (hel 4 (by decide)) y4.symm
   have e5:=vZ (hel 5 (by decide)) y5.symm
   rw [zqH cs0.toList hlen]
   simp only [Nat.reduceMul] at e0 e1 e2 e3 e4 e5
   rw [e0,e1,e2,e3,e4,e5]
   rfl
 have hc : ∀ i v,cs0.toList[i]? = some v → W.cell? ⟨0,i,none⟩ = some v:=by
  intro i v hv
  have:=World.var?_cell hg0 hv0 i
  rw [this,← Array.getElem?_toList]
  exact hv
 intro g
 cases g with
 | succ g=>exact trivial
 | zero=>
  show VR [] rz0 W (.ip false _) _
  simp only [VR]
  have h0:=hc 0 (.int .i64 0) (by rw [hcs];rfl)
  refine ⟨0,0,rfl,?_,?_,?_⟩
  ·have h1 := h0
   unfold World.cell? at h1
   cases hh : W.heap[0]? with
   | none=>simp [hh] at h1
   | some o=>exact (Array.getElem?_eq_some_iff.1 hh).1
  ·intro h
   rcases (Bset.mset h) with ⟨o,ob,q,_⟩|h
   ·simp at q
   ·exact h
  ·simp only [List.map_cons, List.map_nil, PVs, PV]
   repeat' (first|exact trivial|refine ⟨⟨_,hc _ _ (by rw [hcs];rfl),rfl,rfl⟩,?_⟩)
end Go.Proofs.YtdalcgfnlbofdaaGreatDoor
