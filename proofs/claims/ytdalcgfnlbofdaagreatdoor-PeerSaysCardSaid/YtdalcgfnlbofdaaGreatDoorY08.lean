import Derived.Test.YtdalcgfnlbofdaaGreatDoorPg
import Derived.Test.YtdalcgfnlbofdaaGreatDoorY05
import Derived.Test.YtdalcgfnlbofdaaGreatDoorY04
import Derived.Test.YtdalcgfnlbofdaaGreatDoorY07
import Derived.Test.YtdalcgfnlbofdaaGreatDoorPc
import Derived.KernelRfl
import Derived.Test.YtdalcgfnlbofdaaGreatDoorY01
set_option linter.unusedVariables false
set_option linter.unusedSimpArgs false
namespace Go.Proofs.YtdalcgfnlbofdaaGreatDoor
open Go Go.Lf Go.Proofs
attribute [local irreducible] Lf.rg Lf.ro Lf.PWp Lf.SOp Lf.ACall Lf.Scoped Lf.dg Lf.dw
set_option maxRecDepth 20000
set_option maxHeartbeats 4000000
def addX (xs : List Fl) (m : Int) (f : Fl) : List Fl:=keptL xs (m - wt f) ++ [flN f]
theorem zm4 (xs : List Fl) (m : Int) (f : Fl) : keptL xs (m - wt f) ++ [flN f] = addX xs m f:=rfl
theorem zj9 (xs : List Fl) (m : Int) (f : Fl) : (addX xs m f).length ≤ xs.length + 1:=by
 have:=jE (m - wt f) xs
 unfold addX
 rw [List.length_append,List.length_singleton];omega
theorem zka {xs : List Fl} {m : Int} {f : Fl} (h : wt f ≤ m) : yn (addX xs m f) ≤ m:=by
 have:=ky (m - wt f) (by omega) xs
 unfold addX
 rw [zck]
 simp only [yn,zuC];omega
def snI (S : List Int) (n : Int) : List Int:=S ++ [n]
def snF (F : List Fl) (f : Fl) : List Fl:=F ++ [f]
def zm5 (f : Fl) : List Fl:=[f]
def stF (i : Int) : Fl:=⟨(kh i).1,(kh i).2,false⟩
def dAt (xs : List Fl) (i : Int) : Option Fl:=if i ≤ 61 then (if 1 ≤ i then some (stF i) else none) else xs.reverse[(i - 61).toNat - 1]?
attribute [local irreducible] wt yn keptL flN addX kh zm5 snI snF
theorem zf3 (xs : List Fl) (s : Nat) (m : Int) (n v : ByteArray) (k : Bool) (h : xs.length ≤ 100000) (hS : yn xs ≤ 4000000000) (hb : ∀ f ∈ xs,f.n.size ≤ 1000000000 ∧ f.v.size ≤ 1000000000) (h1 : n.size ≤ 1000000000) (h2 : v.size ≤ 1000000000) (h3 : 0 ≤ m) (h4 : m < wt ⟨n,v,k⟩) : AEq Tryz.prog 204 [.ptr 0 0,.ag [.lit (.string n),.lit (.string v),.lit (.bool k)]] [.box [.row 1 s,i64 (yn xs),i64 m],.row s 103 3 (xs.map flA)] (.tu []) [.box [.row 1 (s + 1),i64 (yn xsE),i64 m],.row (s + 1) 103 3 (xsE.map flA)]:=zhC xs s m ⟨n,v,k⟩ h hS hb h1 h2 h3 h4
end Go.Proofs.YtdalcgfnlbofdaaGreatDoor
namespace Go.Proofs.YtdalcgfnlbofdaaGreatDoor
open Go Go.Lf Go.Proofs
attribute [local irreducible] Lf.rg Lf.ro Lf.PWp Lf.SOp Lf.ACall Lf.Scoped Lf.dg Lf.dw
set_option maxRecDepth 20000
set_option maxHeartbeats 4000000
attribute [local irreducible] wt yn keptL flN addX kh zm5 snI snF dAt xsE
end Go.Proofs.YtdalcgfnlbofdaaGreatDoor
namespace Go.Proofs.YtdalcgfnlbofdaaGreatDoor
open Go Go.Lf Go.Proofs
attribute [local irreducible] Lf.rg Lf.ro Lf.PWp Lf.SOp Lf.ACall Lf.Scoped Lf.dg
set_option maxRecDepth 20000
set_option maxHeartbeats 4000000
structure DT where
 (xs : List Fl) (s : Nat) (m : Int)
structure DQ where
 (F : List Fl) (S : List Int) (t : DT)
def fG (xs : List Fl) (r : Rp) : Option Fl:=if r.i = 0 then some ⟨⟨r.nm.toArray⟩,⟨#[]⟩,false⟩ else dAt xs r.i
def fV (r : Rp) (g : Fl) : Fl:=if r.k = 1 then g else ⟨g.n,⟨r.vl.toArray⟩,decide (r.k = 4)⟩
def zf4 (t : DT) (f : Fl) : DT:=if wt f ≤ t.m then ⟨addX t.xs t.m f,t.s + 2,t.m⟩ else ⟨xsE,t.s + 1,t.m⟩
def zkb (q : DQ) (r : Rp) : DQ × Int:=
 if r.k = 5 then (if 0 < q.F.length then (q,13) else (⟨q.F,snI q.S r.sz,⟨keptL q.t.xs r.sz,q.t.s + 1,r.sz⟩⟩,0))
 else match fG q.t.xs r with
  | none=>(q,12)
  | some g=>(⟨snF q.F (fV r g),q.S,if r.k = 2 then zf4 q.t (fV r g) else q.t⟩,0)
def zuD : Nat → List UInt8 → DQ → DQ × Int
 | 0,_,q=>(q,0)
 | n + 1,b,q=>if b.length = 0 then (q,0) else if (rgM b).e ≠ 0 then (q,(rgM b).e) else if (zkb q (rgM b)).2 ≠ 0 then zkb q (rgM b) else zuD n (b.drop (rgM b).n.toNat) (zkb q (rgM b)).1
end Go.Proofs.YtdalcgfnlbofdaaGreatDoor
namespace Go.Proofs.YtdalcgfnlbofdaaGreatDoor
open Go Go.Lf Go.Proofs
attribute [local irreducible] Lf.rg Lf.ro Lf.PWp Lf.SOp Lf.ACall Lf.Scoped Lf.dg Lf.dw
set_option maxRecDepth 20000
set_option maxHeartbeats 4000000
structure DW where
 (b : List UInt8) (n a c : Nat) (q : DQ)
def xs0 : List Fl:=[]
def ss0 : List Int:=[]
theorem zqK {t : DT} {f : Fl} (h : wt f ≤ t.m) : zf4 t f = ⟨addX t.xs t.m f,t.s + 2,t.m⟩:=if_pos h
theorem zqL {t : DT} {f : Fl} (h : ¬ wt f ≤ t.m) : zf4 t f = ⟨xsE,t.s + 1,t.m⟩:=if_neg h
theorem zhD {xs : List Fl} {m : Int} {f : Fl} (hb : ∀ f ∈ xs,f.n.size ≤ 1000000 ∧ f.v.size ≤ 1000000) (h1 : f.n.size ≤ 1000000) (h2 : f.v.size ≤ 1000000) : ∀ g ∈ addX xs m f,g.n.size ≤ 1000000 ∧ g.v.size ≤ 1000000:=by
 intro g hg
 unfold addX at hg
 rw [List.mem_append,List.mem_singleton] at hg
 rcases hg with hg|rfl
 ·exact hb g (za3 _ _ g hg)
 ·exact ⟨h1,h2⟩
theorem zm6 : xsE.length = 0:=rfl
theorem zm7 : yn xsE = 0:=rfl
theorem zfd : ∀ g ∈ xsE,g.n.size ≤ 1000000 ∧ g.v.size ≤ 1000000:=by intro f hf;simp [xsE] at hf
def zzn (Q : DQ) (E : Int) : AV:=if E = 0 then .tu [.ag [.sl false false (Q.F.map flA),.sl false false (Q.S.map zgR)],i64 0] else .tu [.ag [.sl true false [],.sl true false []],i64 E]
def zzo (s : Nat) (xs : List Fl) (m : Int) (Q : DQ) (E : Int) : Sto:=if E = 0 then [.box [.ptr 3 0],.box [.row 2 s,i64 (yn xs),i64 m],.row s 103 3 (xs.map flA),.box [.row 4 Q.t.s,i64 (yn Q.t.xs),i64 Q.t.m],.row Q.t.s 103 3 (Q.t.xs.map flA)] else [.box [.ptr 1 0],.box [.row 2 s,i64 (yn xs),i64 m],.row s 103 3 (xs.map flA)]
attribute [local irreducible] wt yn keptL flN addX kh zm5 snI snF dAt xsE rgM zuD xs0 ss0 zkb fG fV zf4 zzn zzo
end Go.Proofs.YtdalcgfnlbofdaaGreatDoor
namespace Go.Proofs.YtdalcgfnlbofdaaGreatDoor
open Go Go.Lf Go.Proofs
attribute [local irreducible] Lf.rg Lf.ro Lf.PWp Lf.SOp Lf.ACall Lf.Scoped Lf.dg
set_option maxRecDepth 20000
set_option maxHeartbeats 4000000
end Go.Proofs.YtdalcgfnlbofdaaGreatDoor
namespace Go.Lf
open Go
end Go.Lf
namespace Go.Proofs.YtdalcgfnlbofdaaGreatDoor
open Go Go.Lf Go.Proofs
attribute [local irreducible] Lf.rg Lf.ro Lf.PWp Lf.SOp Lf.ACall Lf.Scoped Lf.dg Lf.dw
set_option maxRecDepth 20000
set_option maxHeartbeats 4000000
attribute [local irreducible] wt yn keptL flN addX kh dAt xsE zqJ zoL
end Go.Proofs.YtdalcgfnlbofdaaGreatDoor
namespace Go.Proofs.YtdalcgfnlbofdaaGreatDoor
open Go Go.Lf Go.Proofs
attribute [local irreducible] Lf.rg Lf.ro Lf.PWp Lf.SOp Lf.ACall Lf.Scoped Lf.dg Lf.dw
set_option maxRecDepth 20000
set_option maxHeartbeats 4000000
@[go_sem] def blA (b : List UInt8) : List AV:=[.sl false false (b.map zf)]
attribute [local irreducible] wt yn xsE
end Go.Proofs.YtdalcgfnlbofdaaGreatDoor
namespace Go.Proofs.YtdalcgfnlbofdaaGreatDoor
open Go Go.Lf Go.Proofs
attribute [local irreducible] Lf.rg Lf.ro Lf.PWp Lf.SOp Lf.ACall Lf.Scoped Lf.dg
set_option maxRecDepth 20000
set_option maxHeartbeats 4000000
def TOk (t : DT) : Prop:=yn t.xs ≤ t.m ∧ 0 ≤ t.m ∧ t.m ≤ 2147483647 ∧ ∀ f ∈ t.xs,f.n.size ≤ 1000000 ∧ f.v.size ≤ 1000000
theorem zm8 {t : DT} {f : Fl} (h : TOk t) (h1 : f.n.size ≤ 1000000) (h2 : f.v.size ≤ 1000000) : TOk (zf4 t f) ∧ (zf4 t f).xs.length ≤ t.xs.length + 1 ∧ (zf4 t f).m = t.m:=by
 obtain ⟨a,b,c,d⟩:=h
 by_cases hw : wt f ≤ t.m
 ·rw [zqK hw]
  exact ⟨⟨zka hw,b,c,zhD d h1 h2⟩,zj9 _ _ _,rfl⟩
 ·rw [zqL hw]
  refine ⟨⟨?_,b,c,zfd⟩,?_,rfl⟩
  ·dsimp only;rw [zm7];exact b
  ·dsimp only;rw [zm6];exact Nat.zero_le _
end Go.Proofs.YtdalcgfnlbofdaaGreatDoor
namespace Go.Proofs.YtdalcgfnlbofdaaGreatDoor
open Go Go.Lf Go.Proofs
attribute [local irreducible] Lf.rg Lf.ro Lf.PWp Lf.SOp Lf.ACall Lf.Scoped Lf.dg Lf.dw
set_option maxRecDepth 20000
set_option maxHeartbeats 4000000
/-! the static table's equal names stand side by side -/
theorem zm9 : ∀ i j : Fin 62,1 ≤ j.val → j.val < i.val → (kh (i.val : Int)).1 = (kh (j.val : Int)).1 → (kh ((i.val - 1 : Nat) : Int)).1 = (kh (i.val : Int)).1:=by decide +kernel
def stN (s : ByteArray) : Int:=vj (zgk s) 61
theorem zhE (s : ByteArray) : IsFirst (zgk s) (stN s) 1 61:=y9 _ 61
theorem zqM (s : ByteArray) : 0 ≤ stN s ∧ stN s ≤ 61:=by
 rcases zhE s with ⟨h,_⟩|⟨h,h2,_⟩<;>omega
theorem zli {s : ByteArray} {i : Int} (h1 : 1 ≤ i) (h2 : i ≤ 61) (h : (kh i).1 = s) : 1 ≤ stN s ∧ stN s ≤ i ∧ (kh (stN s)).1 = s:=by
 rcases zhE s with ⟨h0,hn⟩|⟨a1,a2,a3,a4⟩
 ·have := hn i h1 h2
  simp [zgk,h] at this
 ·refine ⟨a1, ?_, by simpa [zgk] using a3⟩
  by_cases hc : i < stN s
  ·have := a4 i h1 hc
   simp [zgk,h] at this
  ·omega
theorem zkc {s : ByteArray} {i : Int} (h1 : 1 ≤ i) (h2 : i ≤ 61) (h : (kh i).1 = s) (h3 : stN s ≠ i) : 2 ≤ i ∧ (kh (i - 1)).1 = s:=by
 obtain ⟨a,b,c⟩:=zli h1 h2 h
 have key:=zm9 ⟨i.toNat,by omega⟩ ⟨(stN s).toNat,by omega⟩ (by dsimp only;omega) (by dsimp only;omega)
 dsimp only at key
 rw [show ((i.toNat : Nat) : Int) = i from by omega,show (((stN s).toNat : Nat) : Int) = stN s from by omega,show ((i.toNat - 1 : Nat) : Int) = i - 1 from by omega] at key
 exact ⟨by omega,by rw [key (by rw [h,c]),h]⟩
theorem zhF {s v : ByteArray} : (zcP s v = 0 ∧ stN s = 0) ∨ (1 ≤ zcP s v ∧ zcP s v ≤ 61 ∧ (kh (zcP s v)).1 = s):=by
 unfold zcP
 rcases y9 (zbh s v) 61 with ⟨h,hn⟩|⟨a1,a2,a3,a4⟩
 ·rw [if_neg (by simp [h])]
  rcases zhE s with ⟨h,hn⟩|⟨a1,a2,a3,a4⟩
  ·exact .inl ⟨h,h⟩
  ·exact .inr ⟨a1,a2,by show (kh (stN s)).1 = s;simpa [zgk] using a3⟩
 ·rw [if_pos (by omega)]
  refine .inr ⟨a1,a2,?_⟩
  have : (kh (vj (zbh s v) 61)).1 = s ∧ (kh (vj (zbh s v) 61)).2 = v:=by simpa [zbh] using a3
  exact this.1
def plI (R : List Fl) (n v : ByteArray) : Int:=if zj2 n v = true then zcP n v else if fnB R n v = true then 61 + fnI R n v else if zcP n v = 0 ∧ 0 < fnI R n v then 61 + fnI R n v else zcP n v
def plB (R : List Fl) (n v : ByteArray) : Bool:=zj2 n v || fnB R n v
def nmI (R : List Fl) (s : ByteArray) : Int:=if stN s ≠ 0 then stN s else if vT s R 1 ≠ 0 then 61 + vT s R 1 else 0
theorem zqN (xs : List Fl) (s : Nat) (z m : Int) (n v : ByteArray) (k : Bool) (h : xs.length ≤ 100000) : AEq Tryz.prog 201 [.ptr 0 0,.ag [.lit (.string n),.lit (.string v),bl k]] [.box [.row 1 s,i64 z,i64 m],.row s 103 3 (xs.map flA)] (.tu [i64 (plI xs.reverse n v),bl (plB xs.reverse n v)]) [.box [.row 1 s,i64 z,i64 m],.row s 103 3 (xs.map flA)]:=by
 have hrl : xs.reverse.length = xs.length:=List.length_reverse
 have hb1:=ze6 n v
 have hb2:=zm0 xs.reverse n v
 refine zc Tryz.func201 rfl Tryz.ntmps201 (by simp) (fun hsc=>?_);simp only [Lf.enter,Nat.reduceAdd];clear hsc
 have hU:=True.intro
 repeat' (first|(refine goR ?_)|(refine za (fun K hK=>?_))|((refine zb (fun hcd=>?_) (fun hcd=>?_))<;>(try simp only [hcP] at hcd)<;>(try exact cdT))|(refine zd (f:=225) rfl Tryz.call225 (h:=AEq.pure' agT (zee _ _) (hq:=?_)))|(refine zd (f:=226) rfl Tryz.call226 (h:=AEq.sub' [_,_] (hc:=zqI _ _ _ _ _ _ (by assumption)) (hq:=?_)))|((refine zh [0,1] (by rw [Tryz.results201,Lf.yE]) (zA ?_ ?_) ?_)<;>(try (first|exact zi|exact stT)))|(refine hK _ _ ?_;clear hK K))
 all_goals first|exact yG (by unfold plI;grind)|exact zt (by unfold plB;grind)|trace_state
theorem zlj (i : Int) (h : 1 ≤ i ∧ i ≤ 61) : AEq Tryz.prog 227 [i64 i] [] (.lit (.string (kh i).1)) []:=by
 refine zc Tryz.func227 rfl Tryz.ntmps227 (by simp) (fun hsc=>?_);simp only [Lf.enter,Nat.reduceAdd];clear hsc
 have hU:=True.intro
 repeat' (first|(refine goR ?_)|(refine za (fun K hK=>?_))|(refine zd (f:=234) rfl Tryz.call234 (h:=AEq.pure' agT (zbD _ (by assumption)) (hq:=?_)))|((refine zh [] (by rw [Tryz.results227,Lf.zy]) (zj ?_) ?_)<;>(try (first|exact zi|exact stT)))|(refine hK _ _ ?_;clear hK K))
def kdI (k : Bool) (w : Int) : Int:=if k = true then 4 else if w = 2 then 3 else 2
structure Op4 where
 (w : Int) (nn sn sv : Bool)
@[go_sem] def opA (o : Op4) : List AV:=[i64 o.w,bl o.nn,bl o.sn,bl o.sv]
theorem ztH (n v : ByteArray) (k : Bool) (w : Int) (nn sn sv : Bool) : AEq Tryz.prog 202 [.ag [.lit (.string n),.lit (.string v),bl k],.ag [i64 w,bl nn,bl sn,bl sv]] [] (i64 (kdI k w)) []:=by
 refine zc Tryz.func202 rfl Tryz.ntmps202 (by simp) (fun hsc=>?_);simp only [Lf.enter,Nat.reduceAdd];clear hsc
 have hU:=True.intro
 repeat' (first|(refine goR ?_)|(refine za (fun K hK=>?_))|((refine zb (fun hcd=>?_) (fun hcd=>?_))<;>(try simp only [hcP] at hcd)<;>(try exact cdT))|((refine zh [] (by rw [Tryz.results202,Lf.zy]) (zj ?_) ?_)<;>(try (first|exact zi|exact stT)))|(refine hK _ _ ?_;clear hK K))
 all_goals first|exact yG (by unfold kdI;grind)|trace_state
def zna (n : Int) : Bool:=decide (n < 0 ∨ 2147483647 < n)
theorem zlk (n : Int) : AEq Tryz.prog 173 [i64 n] [] (bl (zna n)) []:=by
 refine zc Tryz.func173 rfl Tryz.ntmps173 (by simp) (fun hsc=>?_);simp only [Lf.enter,Nat.reduceAdd];clear hsc
 have hU:=True.intro
 repeat' (first|(refine goR ?_)|(refine za (fun K hK=>?_))|((refine zh [] (by rw [Tryz.results173,Lf.zy]) (zj ?_) ?_)<;>(try (first|exact zi|exact stT)))|(refine hK _ _ ?_;clear hK K))
 all_goals first|exact zt (by unfold zna;grind)|trace_state
def zkd : List Int → Int → Int
 | [],_=>-1
 | x :: l,i=>if zna x = true then i else zkd l (i + 1)
def zhG : List Int → Bool
 | []=>false
 | x :: l=>if zna x = true then true else zhG l
theorem zfe : ∀ (l : List Int) (i : Int), 0 ≤ i → zhG l = decide (0 ≤ zkd l i)
 | [],i,h=>by simp [zhG,zkd]
 | x :: l,i,h=>by
  unfold zhG zkd
  by_cases hx : zna x = true
  ·rw [if_pos hx,if_pos hx];simp [h]
  ·rw [if_neg hx,if_neg hx];exact zfe l (i + 1) (by omega)
theorem zeh : ∀ {l : List Int}, zhG l = false → ∀ x ∈ l, 0 ≤ x ∧ x ≤ 2147483647
 | [],_,x,h=>by simp at h
 | y :: l,h,x,hx=>by
  unfold zhG at h
  split at h
  ·cases h
  ·rename_i hy
   rcases List.mem_cons.1 hx with rfl|hx
   ·simp [zna] at hy;omega
   ·exact zeh h x hx
theorem zzp (f q : Bool) (l : List Int) (h : l.length ≤ 9223372036854775807) : AEq Tryz.prog 195 [.sl f q (l.map zgR),.lit (.func (.func 173) #[] #[])] [] (i64 (zkd l 0)) []:=by
 refine zc Tryz.func195 rfl Tryz.ntmps195 (by simp) (fun hsc=>?_);simp only [Lf.enter,Nat.reduceAdd];clear hsc
 have hU:=True.intro
 repeat' (first|(refine goR ?_)|(refine za (fun K hK=>?_))|(refine hK _ _ ?_;clear hK K))
 refine zz [4,5,8,9,10,11,12,13,14,15,16,17,18] (fun i : Nat=>[(8,i64 i)]) (fun _=>[]) (fun i=>i ≤ l.length ∧ zkd l 0 = zkd (l.drop i) i) (fun i=>l.length - i) 0 ⟨Nat.zero_le _,rfl⟩ ?_ rfl ?_
 ·(refine ⟨⟨_,sT,?_⟩,trivial⟩<;>(try (first|exact zi)))
 ·rintro i ⟨hi, hk⟩
  simp only [vf,List.map_cons,List.map_nil,List.cons_append,List.nil_append]
  by_cases hlt : i < l.length
  ·obtain ⟨d, hd⟩ := vS hlt
   rw [ki hd,zkd] at hk
   cases h1 : zna d with
   | true=>
    rw [if_pos h1] at hk
    have hU:=@h1
    repeat' (first|(refine goR ?_)|(refine za (fun K hK=>?_))|((refine zb (fun hcd=>?_) (fun hcd=>?_))<;>(try simp only [hcP] at hcd)<;>(try exact cdT))|(refine zcg (f:=173) rfl bT Tryz.call173 sT (AEq.pure' agT (zlk _) bT sT ?_))|((refine zh [] (by rw [Tryz.results195,Lf.zy]) (zj ?_) ?_)<;>(try (first|exact zi|exact stT)))|(refine hK _ _ ?_;clear hK K))
    all_goals exact yG hk.symm
   | false=>
    rw [if_neg (by simp [h1])] at hk
    have hU:=@h1
    repeat' (first|(refine goR ?_)|(refine za (fun K hK=>?_))|((refine zb (fun hcd=>?_) (fun hcd=>?_))<;>(try simp only [hcP] at hcd)<;>(try exact cdT))|(refine zcg (f:=173) rfl bT Tryz.call173 sT (AEq.pure' agT (zlk _) bT sT ?_))|(refine hK _ _ ?_;clear hK K))
    refine ⟨i + 1,⟨by omega,hk⟩,by omega,?_,arT,srT⟩
    (refine ⟨⟨_,sT,?_⟩,trivial⟩<;>(try (first|exact zi)))
  ·have he : zkd l 0 = -1 := by rw [hk, List.drop_eq_nil_of_le (by omega)]; rfl
   repeat' (first|(refine goR ?_)|(refine za (fun K hK=>?_))|((refine zb (fun hcd=>?_) (fun hcd=>?_))<;>(try simp only [hcP] at hcd)<;>(try exact cdT))|((refine zh [] (by rw [Tryz.results195,Lf.zy]) (zj ?_) ?_)<;>(try (first|exact zi|exact stT)))|(refine hK _ _ ?_;clear hK K)|(apply_assumption (exfalso:=false) (symm:=false)))
   all_goals exact yG he.symm
theorem ztI (f q : Bool) (l : List Int) (h : l.length ≤ 9223372036854775807) : AEq Tryz.prog 172 [.sl f q (l.map zgR),.lit (.func (.func 173) #[] #[])] [] (bl (zhG l)) []:=by
 have he:=zfe l 0 (by decide)
 refine zc Tryz.func172 rfl Tryz.ntmps172 (by simp) (fun hsc=>?_);simp only [Lf.enter,Nat.reduceAdd];clear hsc
 have hU:=@he
 repeat' (first|(refine goR ?_)|(refine za (fun K hK=>?_))|(refine zd (f:=195) rfl Tryz.call195 (h:=AEq.pure' agT (zzp _ _ _ (by assumption)) (hq:=?_)))|((refine zh [] (by rw [Tryz.results172,Lf.zy]) (zj ?_) ?_)<;>(try (first|exact zi|exact stT)))|(refine hK _ _ ?_;clear hK K))
 all_goals exact zt (by rw [← he])
theorem zqO {R : List Fl} {s : ByteArray} {i : Int} (h : stN s = i) (h0 : 1 ≤ i) : nmI R s = i:=by
 unfold nmI;rw [if_pos (by omega),h]
theorem zqP {R : List Fl} {s : ByteArray} {i : Int} (h : stN s = 0) (h2 : vT s R 1 = i) (h0 : 1 ≤ i) : nmI R s = 61 + i:=by
 unfold nmI;rw [if_neg (by omega),h2,if_pos (by omega)]
theorem zqQ {R : List Fl} {s : ByteArray} (h : stN s = 0) (h2 : vT s R 1 = 0) : nmI R s = 0:=by
 unfold nmI;rw [if_neg (by omega),if_neg (by omega)]
theorem ztJ (xs : List Fl) (s : Nat) (z m : Int) (n : ByteArray) (h : xs.length ≤ 100000) : AEq Tryz.prog 203 [.ptr 0 0,.lit (.string n)] [.box [.row 1 s,i64 z,i64 m],.row s 103 3 (xs.map flA)] (i64 (nmI xs.reverse n)) [.box [.row 1 s,i64 z,i64 m],.row s 103 3 (xs.map flA)]:=by
 have hrl : xs.reverse.length = xs.length:=List.length_reverse
 have hsb:=ze6 n ⟨#[]⟩
 rcases zhF (s:=n) (v:=⟨#[]⟩) with ⟨h0,hs0⟩|⟨h1,h2,h3⟩
 ·refine zc Tryz.func203 rfl Tryz.ntmps203 (by simp) (fun hsc => ?_); simp only [Lf.enter, Nat.reduceAdd]; clear hsc
  have hU:=True.intro
  repeat' (first|(refine goR ?_)|(refine za (fun K hK=>?_))|((refine zb (fun hcd=>?_) (fun hcd=>?_))<;>(try simp only [hcP] at hcd)<;>(try exact cdT))|(refine zd (f:=225) rfl Tryz.call225 (h:=AEq.pure' agT (zee _ _) (hq:=?_)))|(refine hK _ _ ?_;clear hK K))
  refine zU [4,7,8,9,29,30,31,32,33,34,35,36,37,38,39,40,41,42,43,44,45,46] [0,1] (fun c : Nat=>[(7,i64 (c + 1))]) (fun _=>[.box [.row 1 s,i64 z,i64 m],.row s 103 3 (xs.map flA)]) (fun c=>c ≤ xs.length ∧ vT n xs.reverse 1 = vT n (xs.reverse.drop c) (c + 1)) (fun c=>xs.length - c) 0 (fun _=>rfl) rfl rfl ⟨Nat.zero_le _,rfl⟩ ?_ rfl (by intro s i x h;simp only [List.mem_cons,Prod.mk.injEq,List.not_mem_nil,or_false] at h;rcases h with ⟨rfl,_⟩<;>decide) ?_
  ·(refine ⟨⟨_,sT,?_⟩,trivial⟩<;>(try (first|exact zi)))
  ·rintro c ⟨h1, h4⟩
   simp only [vf,List.map_cons,List.map_nil,List.cons_append,List.nil_append]
   by_cases hlt : c < xs.length
   ·obtain ⟨x, hx⟩ := vS (l := xs.reverse) (i := c) (by omega)
    have hxi : xs.reverse[((c : Int) + 1).toNat - 1]? = some x:=by rw [show ((c : Int) + 1).toNat - 1 = c from by omega];exact hx
    rw [ki hx,vT] at h4
    by_cases hn : x.n = n
    ·rw [if_pos hn] at h4
     have hr:=zqP hs0 h4 (by omega)
     have hU:=@hn
     repeat' (first|(refine goR ?_)|(refine za (fun K hK=>?_))|((refine zb (fun hcd=>?_) (fun hcd=>?_))<;>(try simp only [hcP] at hcd)<;>(try exact cdT))|(refine zd (f:=228) rfl Tryz.call228 (h:=AEq.sub' [_,_] (hc:=zcp _ _ _ _) (hq:=?_)))|(refine zd (f:=229) rfl Tryz.call229 (h:=AEq.sub' [_,_] (hc:=zoM _ _ _ _ _ _ aoT aoT aoT aoT) (hq:=?_)))|((refine zh [0,1] (by rw [Tryz.results203,Lf.zy]) (zj ?_) ?_)<;>(try (first|exact zi|exact stT)))|(refine hK _ _ ?_;clear hK K))
     all_goals first|exact yG (by rw [hr])|trace_state
    ·rw [if_neg hn] at h4
     have hU:=@hn
     repeat' (first|(refine goR ?_)|(refine za (fun K hK=>?_))|((refine zb (fun hcd=>?_) (fun hcd=>?_))<;>(try simp only [hcP] at hcd)<;>(try exact cdT))|(refine zd (f:=228) rfl Tryz.call228 (h:=AEq.sub' [_,_] (hc:=zcp _ _ _ _) (hq:=?_)))|(refine zd (f:=229) rfl Tryz.call229 (h:=AEq.sub' [_,_] (hc:=zoM _ _ _ _ _ _ aoT aoT aoT aoT) (hq:=?_)))|(refine hK _ _ ?_;clear hK K))
     refine ⟨c + 1,⟨by omega,h4⟩,by omega,?_,arT,srT⟩
     (refine ⟨⟨_,sT,?_⟩,trivial⟩<;>(try (first|exact zi)))
   ·obtain rfl : c = xs.length := by omega
    have h6 : xs.reverse.drop xs.length = []:=by rw [List.drop_eq_nil_of_le (by omega)]
    rw [h6,vT] at h4
    have hr:=zqQ hs0 h4
    repeat' (first|(refine goR ?_)|(refine za (fun K hK=>?_))|((refine zb (fun hcd=>?_) (fun hcd=>?_))<;>(try simp only [hcP] at hcd)<;>(try exact cdT))|(refine zd (f:=228) rfl Tryz.call228 (h:=AEq.sub' [_,_] (hc:=zcp _ _ _ _) (hq:=?_)))|((refine zh [0,1] (by rw [Tryz.results203,Lf.zy]) (zj ?_) ?_)<;>(try (first|exact zi|exact stT)))|(refine hK _ _ ?_;clear hK K)|(apply_assumption (exfalso:=false) (symm:=false)))
    all_goals first|exact yG hr.symm|trace_state
 ·refine zc Tryz.func203 rfl Tryz.ntmps203 (by simp) (fun hsc => ?_); simp only [Lf.enter, Nat.reduceAdd]; clear hsc
  have hU:=True.intro
  repeat' (first|(refine goR ?_)|(refine za (fun K hK=>?_))|((refine zb (fun hcd=>?_) (fun hcd=>?_))<;>(try simp only [hcP] at hcd)<;>(try exact cdT))|(refine zd (f:=225) rfl Tryz.call225 (h:=AEq.pure' agT (zee _ _) (hq:=?_)))|(refine hK _ _ ?_;clear hK K))
  refine zU [5,17,18,19,20,21,22,23,24,25,26,27] [0,1] (fun i : Int=>[(5,i64 i)]) (fun _=>[.box [.row 1 s,i64 z,i64 m],.row s 103 3 (xs.map flA)]) (fun i=>1 ≤ i ∧ i ≤ 61 ∧ (kh i).1 = n) (fun i=>i.toNat) (zcP n ⟨#[]⟩) (fun _=>rfl) rfl rfl ⟨h1,h2,h3⟩ ?_ rfl (by intro s i x h;simp only [List.mem_cons,Prod.mk.injEq,List.not_mem_nil,or_false] at h;rcases h with ⟨rfl,_⟩<;>decide) ?_
  ·(refine ⟨⟨_,sT,?_⟩,trivial⟩<;>(try (first|exact zi)))
  ·rintro i ⟨hi1, hi2, hi3⟩
   simp only [vf,List.map_cons,List.map_nil,List.cons_append,List.nil_append]
   by_cases hst : stN n = i
   ·have hr := zqO (R := xs.reverse) hst hi1
    by_cases hg : 1 < i
    ·have hne : (kh (i - 1)).1 ≠ n := fun e => by have := zli (i := i - 1) (by omega) (by omega) e; omega
     have hU:=@hne
     repeat' (first|(refine goR ?_)|(refine za (fun K hK=>?_))|((refine zb (fun hcd=>?_) (fun hcd=>?_))<;>(try simp only [hcP] at hcd)<;>(try exact cdT))|(guard_target =~ rg _ _ _ (⟨_,_,_,_,_,some _⟩ :: _) _ _ _;(first|refine zH gT (fun hcd=>?_) (fun hcd=>?_)|refine zw gT (fun hcd=>?_) (fun hcd=>?_))<;>(try simp only [hcd])<;>(try (simp only [Bool.not_eq_true',Bool.not_eq_false'] at hcd;try simp only [hcd]))<;>(refine ku (Γ2:=_) ewT ?_)<;>(try simp only [hcP] at hcd)<;>(try exact cdT))|(refine zd (f:=227) rfl Tryz.call227 (h:=AEq.pure' agT (zlj _ (by omega)) (hq:=?_)))|((refine zh [0,1] (by rw [Tryz.results203,Lf.zy]) (zj ?_) ?_)<;>(try (first|exact zi|exact stT)))|(refine hK _ _ ?_;clear hK K)|(apply_assumption (exfalso:=false) (symm:=false)))
     all_goals first|exact yG hr.symm|trace_state
    ·repeat' (first | (refine goR ?_) | (refine za (fun K hK => ?_)) | ((refine zb (fun hcd => ?_) (fun hcd => ?_)) <;> (try simp only [hcP] at hcd) <;> (try exact cdT)) | (guard_target =~ rg _ _ _ (⟨_, _, _, _, _, some _⟩ :: _) _ _ _; (first | refine zH gT (fun hcd => ?_) (fun hcd => ?_) | refine zw gT (fun hcd => ?_) (fun hcd => ?_)) <;> (try simp only [hcd]) <;> (try (simp only [Bool.not_eq_true', Bool.not_eq_false'] at hcd; try simp only [hcd])) <;> (refine ku (Γ2 := _) ewT ?_) <;> (try simp only [hcP] at hcd) <;> (try exact cdT)) | ((refine zh [0, 1] (by rw [Tryz.results203, Lf.zy]) (zj ?_) ?_) <;> (try (first | exact zi | exact stT))) | (refine hK _ _ ?_; clear hK K) | (apply_assumption (exfalso := false) (symm := false)))
     all_goals first|exact yG hr.symm|trace_state
   ·obtain ⟨hi4, hi5⟩ := zkc hi1 hi2 hi3 hst
    have hU:=@hi5
    repeat' (first|(refine goR ?_)|(refine za (fun K hK=>?_))|((refine zb (fun hcd=>?_) (fun hcd=>?_))<;>(try simp only [hcP] at hcd)<;>(try exact cdT))|(guard_target =~ rg _ _ _ (⟨_,_,_,_,_,some _⟩ :: _) _ _ _;(first|refine zH gT (fun hcd=>?_) (fun hcd=>?_)|refine zw gT (fun hcd=>?_) (fun hcd=>?_))<;>(try simp only [hcd])<;>(try (simp only [Bool.not_eq_true',Bool.not_eq_false'] at hcd;try simp only [hcd]))<;>(refine ku (Γ2:=_) ewT ?_)<;>(try simp only [hcP] at hcd)<;>(try exact cdT))|(refine zd (f:=227) rfl Tryz.call227 (h:=AEq.pure' agT (zlj _ (by omega)) (hq:=?_)))|(refine hK _ _ ?_;clear hK K)|(dsimp only [Lf.y6,Lf.vL]))
    refine ⟨i - 1,⟨by omega,by omega,hi5⟩,by omega,?_,arT,srT⟩
    (refine ⟨⟨_,sT,?_⟩,trivial⟩<;>(try (first|exact zi)))
def zqR (R : List Fl) (n v : ByteArray) : Int:=if plB R n v = true then plI R n v else 0
end Go.Proofs.YtdalcgfnlbofdaaGreatDoor
