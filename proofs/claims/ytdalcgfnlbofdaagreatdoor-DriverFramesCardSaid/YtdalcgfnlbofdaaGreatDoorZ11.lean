import Derived.Test.YtdalcgfnlbofdaaGreatDoorTg
import Derived.Test.YtdalcgfnlbofdaaGreatDoorZ10
import Derived.Test.YtdalcgfnlbofdaaGreatDoorLc
import Derived.KernelRfl
import Derived.Test.YtdalcgfnlbofdaaGreatDoorTy
set_option linter.unusedVariables false
set_option linter.unusedSimpArgs false
namespace Go.Proofs.YtdalcgfnlbofdaaGreatDoor
open Go Go.Lf Go.Proofs
attribute [local irreducible] Lf.rg Lf.ro Lf.PWp Lf.SOp Lf.ACall Lf.Scoped Lf.dg Lf.dw
set_option maxRecDepth 20000
set_option maxHeartbeats 4000000
structure DW where
 (b : List UInt8) (n a c : Nat) (q : DQ)
def xs0 : List Fl:=[]
def ss0 : List Int:=[]
theorem zrx {t : DT} {f : Fl} (h : wt f ≤ t.m) : zgd t f = ⟨addX t.xs t.m f,t.s + 2,t.m⟩:=if_pos h
theorem zry {t : DT} {f : Fl} (h : ¬ wt f ≤ t.m) : zgd t f = ⟨xsE,t.s + 1,t.m⟩:=if_neg h
theorem zh2 {xs : List Fl} {m : Int} {f : Fl} (hb : ∀ f ∈ xs,f.n.size ≤ 1000000 ∧ f.v.size ≤ 1000000) (h1 : f.n.size ≤ 1000000) (h2 : f.v.size ≤ 1000000) : ∀ g ∈ addX xs m f,g.n.size ≤ 1000000 ∧ g.v.size ≤ 1000000:=by
 intro g hg
 unfold addX at hg
 rw [List.mem_append,List.mem_singleton] at hg
 rcases hg with hg|rfl
 ·exact hb g (za3 _ _ g hg)
 ·exact ⟨h1,h2⟩
theorem zn1 : xsE.length = 0:=rfl
theorem zn2 : zO xsE = 0:=rfl
theorem zfi : ∀ g ∈ xsE,g.n.size ≤ 1000000 ∧ g.v.size ≤ 1000000:=by intro f hf;simp [xsE] at hf
def zAM (Q : DQ) (E : Int) : AV:=if E = 0 then .tu [.ag [.sl false false (Q.F.map flA),.sl false false (Q.S.map y8)],i64 0] else .tu [.ag [.sl true false [],.sl true false []],i64 E]
def zAN (s : Nat) (xs : List Fl) (m : Int) (Q : DQ) (E : Int) : Sto:=if E = 0 then [.box [.ptr 3 0],.box [.row 2 s,i64 (zO xs),i64 m],.row s 103 3 (xs.map flA),.box [.row 4 Q.t.s,i64 (zO Q.t.xs),i64 Q.t.m],.row Q.t.s 103 3 (Q.t.xs.map flA)] else [.box [.ptr 1 0],.box [.row 2 s,i64 (zO xs),i64 m],.row s 103 3 (xs.map flA)]
attribute [local irreducible] wt zO keptL flN addX vh zn0 snI snF dAt xsE rgM zv2 xs0 ss0 zkz fG fV zgd zAM zAN
end Go.Proofs.YtdalcgfnlbofdaaGreatDoor
namespace Go.Proofs.YtdalcgfnlbofdaaGreatDoor
open Go Go.Lf Go.Proofs
attribute [local irreducible] Lf.rg Lf.ro Lf.PWp Lf.SOp Lf.ACall Lf.Scoped Lf.dg
set_option maxRecDepth 20000
set_option maxHeartbeats 4000000
end Go.Proofs.YtdalcgfnlbofdaaGreatDoor
namespace Go.Lf
open Go
end Go.Lf
namespace Go.Proofs.YtdalcgfnlbofdaaGreatDoor
open Go Go.Lf Go.Proofs
attribute [local irreducible] Lf.rg Lf.ro Lf.PWp Lf.SOp Lf.ACall Lf.Scoped Lf.dg Lf.dw
set_option maxRecDepth 20000
set_option maxHeartbeats 4000000
theorem zkA (xs : List Fl) (m : Int) (f : Fl) : zhZ f (xs.reverse.take (kP xs.reverse 0 (m - wt f))) = (addX xs m f).reverse:=by
 unfold addX zhZ
 rw [List.reverse_append,zcq];rfl
theorem zrz {N n : Nat} {Γ : Env} {σ : Sto} {cs : List AV} (o : Nat) (cs' : List AV) (hob : σ[o]? = some (.box cs)) (hl : cs'.length = cs.length) (hw : ∀ ρ w vs,VRl σ ρ w cs vs → VRl σ ρ w cs' vs) : Wk N n Γ σ Γ (σ.set o (.box cs')):=by
 intro ρ w a hn hf hr
 obtain ⟨b,ty,vs,hb,hh,hone,hl'⟩:=hr.obj _ _ hob
 have hobj : ObjStep (some (.box cs)) (some (.box cs')) (ρ o) (ρ o):=by simp [ObjStep,hl]
 have st:=vd (w:=w) (w':=w) hob rfl hobj rfl rfl rfl (Nat.le_refl _) (fun _ _ _=>rfl) (fun c _ h=>.inl h)
 have hrel:=kg (w:=w) (w':=w) hr hob rfl hobj rfl rfl rfl (Nat.le_refl _) (fun _ _ _=>rfl) (fun c _ h=>.inl h) ⟨b,ty,vs,hb,hh,hone,VRl.carry st _ _ (hw ρ w vs hl')⟩
 exact ⟨_,⟨hf.1,⟨hf.2.1.1,hf.2.1.2.carry st⟩,fun i=>VR.carry st _ _ (hf.2.2 i)⟩,hrel,st.mono hn⟩
theorem zn3 {σ : Sto} {fl q : Bool} {xs : List (List AV)} {r : List AV} (ρ : Rz) (w : World) (vs : List Value) (h : VRl σ ρ w (.sl fl q xs :: r) vs) : VRl σ ρ w (.sl false q xs :: r) vs:=by
 cases vs with
 | nil=>simp [VRl] at h
 | cons v vs=>
  simp only [VRl] at h ⊢
  refine ⟨?_,h.2⟩
  have h1:=h.1
  simp only [VR] at h1 ⊢
  obtain ⟨a,cap,sz,e1,e2,e3,e4,e5⟩:=h1
  exact ⟨a,cap,sz,e1,e2,e3,fun h=>absurd h (by simp),e5⟩
attribute [local irreducible] wt zO keptL flN addX vh dAt xsE zhZ kP
theorem zn4 (f1 : Bool) (R : List Fl) (m : Int) (n v : ByteArray) (k : Bool) (h : R.length ≤ 100000) (hS : zO R ≤ 4000000000) (hb : ∀ f ∈ R,f.n.size ≤ 1000000000 ∧ f.v.size ≤ 1000000000) (h1 : n.size ≤ 1000000000) (h2 : v.size ≤ 1000000000) (h3 : wt ⟨n,v,k⟩ ≤ m) (h4 : m ≤ 4000000000) : AEq Tryz.prog 117 [.ag [.sl f1 false (R.map flA),i64 m],.ag [.lit (.string n),.lit (.string v),.lit (.bool k)]] [] (.ag [.sl false false ((zhZ ⟨n,v,k⟩ (R.take (kP R 0 (m - wt ⟨n,v,k⟩)))).map flA),i64 m]) []:=zuM f1 R m ⟨n,v,k⟩ h hS hb h1 h2 h3 h4
theorem zge (f1 : Bool) (R : List Fl) (m : Int) (n v : ByteArray) (k : Bool) (h1 : n.size ≤ 1000000000) (h2 : v.size ≤ 1000000000) (h3 : m < wt ⟨n,v,k⟩) : AEq Tryz.prog 117 [.ag [.sl f1 false (R.map flA),i64 m],.ag [.lit (.string n),.lit (.string v),.lit (.bool k)]] [] (.ag [.sl true false (xsE.reverse.map flA),i64 m]) []:=zh0 f1 R m ⟨n,v,k⟩ h1 h2 h3
end Go.Proofs.YtdalcgfnlbofdaaGreatDoor
namespace Go.Proofs.YtdalcgfnlbofdaaGreatDoor
open Go Go.Lf Go.Proofs
attribute [local irreducible] Lf.rg Lf.ro Lf.PWp Lf.SOp Lf.ACall Lf.Scoped Lf.dg Lf.dw
set_option maxRecDepth 20000
set_option maxHeartbeats 4000000
@[go_sem] def blA (b : List UInt8) : List AV:=[.sl false false (b.map zf)]
attribute [local irreducible] wt zO xsE
end Go.Proofs.YtdalcgfnlbofdaaGreatDoor
namespace Go.Proofs.YtdalcgfnlbofdaaGreatDoor
open Go Go.Lf Go.Proofs
attribute [local irreducible] Lf.rg Lf.ro Lf.PWp Lf.SOp Lf.ACall Lf.Scoped Lf.dg
set_option maxRecDepth 20000
set_option maxHeartbeats 4000000
def TOk (t : DT) : Prop:=zO t.xs ≤ t.m ∧ 0 ≤ t.m ∧ t.m ≤ 2147483647 ∧ ∀ f ∈ t.xs,f.n.size ≤ 1000000 ∧ f.v.size ≤ 1000000
theorem zn5 {t : DT} {f : Fl} (h : TOk t) (h1 : f.n.size ≤ 1000000) (h2 : f.v.size ≤ 1000000) : TOk (zgd t f) ∧ (zgd t f).xs.length ≤ t.xs.length + 1 ∧ (zgd t f).m = t.m:=by
 obtain ⟨a,b,c,d⟩:=h
 by_cases hw : wt f ≤ t.m
 ·rw [zrx hw]
  exact ⟨⟨zky hw,b,c,zh2 d h1 h2⟩,zkx _ _ _,rfl⟩
 ·rw [zry hw]
  refine ⟨⟨?_,b,c,zfi⟩,?_,rfl⟩
  ·dsimp only;rw [zn2];exact b
  ·dsimp only;rw [zn1];exact Nat.zero_le _
def w5 : List UInt8:=[64,1,97,1,98]
end Go.Proofs.YtdalcgfnlbofdaaGreatDoor
namespace Go.Proofs.YtdalcgfnlbofdaaGreatDoor
open Go Go.Lf Go.Proofs
attribute [local irreducible] Lf.rg Lf.ro Lf.PWp Lf.SOp Lf.ACall Lf.Scoped Lf.dg Lf.dw
set_option maxRecDepth 20000
set_option maxHeartbeats 4000000
theorem zh3 {P : Program} {N : Nat} {o : Oper} {Γ : Env} {σ : Sto} {K : AV → Sto → Prop} {f : FuncId} {x : Operand} {args : Array Operand} {ts : Array TypeId} (ho : o.op = .call { callee := .value x, args := args, argTypes := ts }) (hx : Lf.ev Γ x = .lit (.func (.func f) #[] #[]))
    (hc : ∀ (args : Array Value) (w : World),(callFunc f args).run P w = .ok (.enter f args) w) (h : ACall P f (args.toList.map (Lf.ev Γ)) σ K) : SOp P N o Γ σ K:=by
  unfold SOp
  unfold ACall at h
  intro ρ w a next Q hf hr hn
  have e:=hf.lit hx
  have hrun : (execOp a.eval o).run P w = .ok (.enter f (args.map a.eval)) w:=by
    simp [execOp,ho,resolve,Deferred.ofValue,e,invoke,hc]
  unfold Oper.wp
  rw [hrun,Oper.upon_enter]
  have hvs : ∀ l : List Operand,VRl σ ρ w (l.map (Lf.ev Γ)) (l.map a.eval):=by
    intro l
    induction l with
    | nil=>simp [VRl]
    | cons x l ih=>simp only [List.map_cons,VRl];exact ⟨hf.ev x,ih⟩
  have:=h ρ w (args.toList.map a.eval) hr hf.2.1.2 (hvs _)
  have harr : (args.toList.map a.eval).toArray = args.map a.eval:=Array.ext' (by simp)
  rw [harr] at this
  refine this.mono ?_
  rintro e w' ⟨r,σ',ρ',v,rfl,h2,h3,h4,h5⟩
  exact hn r σ' ρ' w' v h2 h3 h4 h5
theorem zcw {P : Program} {N : Nat} {o : Oper} {Γ : Env} {σ : Sto} {K : AV → Sto → Prop} {f : FuncId} {x : Operand} {args : Array Operand} {ts : Array TypeId} {ys : List AV} (ho : o.op = .call { callee := .value x, args := args, argTypes := ts }) (hx : Lf.ev Γ x = .lit (.func (.func f) #[] #[]))
    (hc : ∀ (args : Array Value) (w : World),(callFunc f args).run P w = .ok (.enter f args) w) (has : args.toList.map (Lf.ev Γ) = ys) (h : ACall P f ys σ K) : SOp P N o Γ σ K:=by
  subst has
  exact zh3 ho hx hc h
/-! the static table's equal names stand side by side -/
theorem zn6 : ∀ i j : Fin 62,1 ≤ j.val → j.val < i.val → (vh (i.val : Int)).1 = (vh (j.val : Int)).1 → (vh ((i.val - 1 : Nat) : Int)).1 = (vh (i.val : Int)).1:=by decide +kernel
def stN (s : ByteArray) : Int:=va (zbk s) 61
theorem zh4 (s : ByteArray) : IsFirst (zbk s) (stN s) 1 61:=yR _ 61
theorem zrA (s : ByteArray) : 0 ≤ stN s ∧ stN s ≤ 61:=by
 rcases zh4 s with ⟨h,_⟩|⟨h,h2,_⟩<;>omega
theorem zlU {s : ByteArray} {i : Int} (h1 : 1 ≤ i) (h2 : i ≤ 61) (h : (vh i).1 = s) : 1 ≤ stN s ∧ stN s ≤ i ∧ (vh (stN s)).1 = s:=by
 rcases zh4 s with ⟨h0,hn⟩|⟨a1,a2,a3,a4⟩
 ·have := hn i h1 h2
  simp [zbk,h] at this
 ·refine ⟨a1, ?_, by simpa [zbk] using a3⟩
  by_cases hc : i < stN s
  ·have := a4 i h1 hc
   simp [zbk,h] at this
  ·omega
theorem zkB {s : ByteArray} {i : Int} (h1 : 1 ≤ i) (h2 : i ≤ 61) (h : (vh i).1 = s) (h3 : stN s ≠ i) : 2 ≤ i ∧ (vh (i - 1)).1 = s:=by
 obtain ⟨a,b,c⟩:=zlU h1 h2 h
 have key:=zn6 ⟨i.toNat,by omega⟩ ⟨(stN s).toNat,by omega⟩ (by dsimp only;omega) (by dsimp only;omega)
 dsimp only at key
 rw [show ((i.toNat : Nat) : Int) = i from by omega,show (((stN s).toNat : Nat) : Int) = stN s from by omega,show ((i.toNat - 1 : Nat) : Int) = i - 1 from by omega] at key
 exact ⟨by omega,by rw [key (by rw [h,c]),h]⟩
theorem zh5 {s v : ByteArray} : (zbK s v = 0 ∧ stN s = 0) ∨ (1 ≤ zbK s v ∧ zbK s v ≤ 61 ∧ (vh (zbK s v)).1 = s):=by
 unfold zbK
 rcases yR (ji s v) 61 with ⟨h,hn⟩|⟨a1,a2,a3,a4⟩
 ·rw [if_neg (by simp [h])]
  rcases zh4 s with ⟨h,hn⟩|⟨a1,a2,a3,a4⟩
  ·exact .inl ⟨h,h⟩
  ·exact .inr ⟨a1,a2,by show (vh (stN s)).1 = s;simpa [zbk] using a3⟩
 ·rw [if_pos (by omega)]
  refine .inr ⟨a1,a2,?_⟩
  have : (vh (va (ji s v) 61)).1 = s ∧ (vh (va (ji s v) 61)).2 = v:=by simpa [ji] using a3
  exact this.1
def plI (R : List Fl) (n v : ByteArray) : Int:=if zhU n v = true then zbK n v else if fnB R n v = true then 61 + fnI R n v else if zbK n v = 0 ∧ 0 < fnI R n v then 61 + fnI R n v else zbK n v
def plB (R : List Fl) (n v : ByteArray) : Bool:=zhU n v || fnB R n v
def nmI (R : List Fl) (s : ByteArray) : Int:=if stN s ≠ 0 then stN s else if yA s R 1 ≠ 0 then 61 + yA s R 1 else 0
theorem zrB (xs : List Fl) (s : Nat) (z m : Int) (n v : ByteArray) (k : Bool) (h : xs.length ≤ 100000) : AEq Tryz.prog 201 [.ptr 0 0,.ag [.lit (.string n),.lit (.string v),bl k]] [.box [.row 1 s,i64 z,i64 m],.row s 103 3 (xs.map flA)] (.tu [i64 (plI xs.reverse n v),bl (plB xs.reverse n v)]) [.box [.row 1 s,i64 z,i64 m],.row s 103 3 (xs.map flA)]:=by
 have hrl : xs.reverse.length = xs.length:=List.length_reverse
 have hb1:=zdk n v
 have hb2:=zks xs.reverse n v
 refine zc Tryz.func201 rfl Tryz.ntmps201 (by simp) (fun hsc=>?_);simp only [Lf.enter,Nat.reduceAdd];clear hsc
 have hU:=True.intro
 repeat' (first|(refine goR ?_)|(refine za (fun K hK=>?_))|((refine zb (fun hcd=>?_) (fun hcd=>?_))<;>(try simp only [hcP] at hcd)<;>(try exact cdT))|(refine zd (f:=225) rfl Tryz.call225 (h:=AEq.pure' agT (zec _ _) (hq:=?_)))|(refine zd (f:=226) rfl Tryz.call226 (h:=AEq.sub' [_,_] (hc:=zrv _ _ _ _ _ _ (by assumption)) (hq:=?_)))|((refine ze [0,1] (by rw [Tryz.results201,Lf.yb]) (zu ?_ ?_) ?_)<;>(try (first|exact zh|exact stT)))|(refine hK _ _ ?_;clear hK K))
 all_goals first|exact zT (by unfold plI;grind)|exact zq (by unfold plB;grind)|trace_state
theorem zlV (i : Int) (h : 1 ≤ i ∧ i ≤ 61) : AEq Tryz.prog 227 [i64 i] [] (.lit (.string (vh i).1)) []:=by
 refine zc Tryz.func227 rfl Tryz.ntmps227 (by simp) (fun hsc=>?_);simp only [Lf.enter,Nat.reduceAdd];clear hsc
 have hU:=True.intro
 repeat' (first|(refine goR ?_)|(refine za (fun K hK=>?_))|(refine zd (f:=234) rfl Tryz.call234 (h:=AEq.pure' agT (zbJ _ (by assumption)) (hq:=?_)))|((refine ze [] (by rw [Tryz.results227,Lf.zt]) (zj ?_) ?_)<;>(try (first|exact zh|exact stT)))|(refine hK _ _ ?_;clear hK K))
def kdI (k : Bool) (w : Int) : Int:=if k = true then 4 else if w = 2 then 3 else 2
structure Op4 where
 (w : Int) (nn sn sv : Bool)
@[go_sem] def opA (o : Op4) : List AV:=[i64 o.w,bl o.nn,bl o.sn,bl o.sv]
theorem zuO (n v : ByteArray) (k : Bool) (w : Int) (nn sn sv : Bool) : AEq Tryz.prog 202 [.ag [.lit (.string n),.lit (.string v),bl k],.ag [i64 w,bl nn,bl sn,bl sv]] [] (i64 (kdI k w)) []:=by
 refine zc Tryz.func202 rfl Tryz.ntmps202 (by simp) (fun hsc=>?_);simp only [Lf.enter,Nat.reduceAdd];clear hsc
 have hU:=True.intro
 repeat' (first|(refine goR ?_)|(refine za (fun K hK=>?_))|((refine zb (fun hcd=>?_) (fun hcd=>?_))<;>(try simp only [hcP] at hcd)<;>(try exact cdT))|((refine ze [] (by rw [Tryz.results202,Lf.zt]) (zj ?_) ?_)<;>(try (first|exact zh|exact stT)))|(refine hK _ _ ?_;clear hK K))
 all_goals first|exact zT (by unfold kdI;grind)|trace_state
def zn7 (n : Int) : Bool:=decide (n < 0 ∨ 2147483647 < n)
theorem zlW (n : Int) : AEq Tryz.prog 173 [i64 n] [] (bl (zn7 n)) []:=by
 refine zc Tryz.func173 rfl Tryz.ntmps173 (by simp) (fun hsc=>?_);simp only [Lf.enter,Nat.reduceAdd];clear hsc
 have hU:=True.intro
 repeat' (first|(refine goR ?_)|(refine za (fun K hK=>?_))|((refine ze [] (by rw [Tryz.results173,Lf.zt]) (zj ?_) ?_)<;>(try (first|exact zh|exact stT)))|(refine hK _ _ ?_;clear hK K))
 all_goals first|exact zq (by unfold zn7;grind)|trace_state
def zkC : List Int → Int → Int
 | [],_=>-1
 | x :: l,i=>if zn7 x = true then i else zkC l (i + 1)
def zeh : List Int → Bool
 | []=>false
 | x :: l=>if zn7 x = true then true else zeh l
theorem zfj : ∀ (l : List Int) (i : Int), 0 ≤ i → zeh l = decide (0 ≤ zkC l i)
 | [],i,h=>by simp [zeh,zkC]
 | x :: l,i,h=>by
  unfold zeh zkC
  by_cases hx : zn7 x = true
  ·rw [if_pos hx,if_pos hx];simp [h]
  ·rw [if_neg hx,if_neg hx];exact zfj l (i + 1) (by omega)
theorem zcx : ∀ {l : List Int}, zeh l = false → ∀ x ∈ l, 0 ≤ x ∧ x ≤ 2147483647
 | [],_,x,h=>by simp at h
 | y :: l,h,x,hx=>by
  unfold zeh at h
  split at h
  ·cases h
  ·rename_i hy
   rcases List.mem_cons.1 hx with rfl|hx
   ·simp [zn7] at hy;omega
   ·exact zcx h x hx
theorem zAO (f q : Bool) (l : List Int) (h : l.length ≤ 9223372036854775807) : AEq Tryz.prog 195 [.sl f q (l.map y8),.lit (.func (.func 173) #[] #[])] [] (i64 (zkC l 0)) []:=by
 refine zc Tryz.func195 rfl Tryz.ntmps195 (by simp) (fun hsc=>?_);simp only [Lf.enter,Nat.reduceAdd];clear hsc
 have hU:=True.intro
 repeat' (first|(refine goR ?_)|(refine za (fun K hK=>?_))|(refine hK _ _ ?_;clear hK K))
 refine zo [4,5,8,9,10,11,12,13,14,15,16,17,18] (fun i : Nat=>[(8,i64 i)]) (fun _=>[]) (fun i=>i ≤ l.length ∧ zkC l 0 = zkC (l.drop i) i) (fun i=>l.length - i) 0 ⟨Nat.zero_le _,rfl⟩ ?_ rfl ?_
 ·(refine ⟨⟨_,sT,?_⟩,trivial⟩<;>(try (first|exact zh)))
 ·rintro i ⟨hi, hk⟩
  simp only [yn,List.map_cons,List.map_nil,List.cons_append,List.nil_append]
  by_cases hlt : i < l.length
  ·obtain ⟨d, hd⟩ := yy hlt
   rw [yJ hd,zkC] at hk
   cases h1 : zn7 d with
   | true=>
    rw [if_pos h1] at hk
    have hU:=@h1
    repeat' (first|(refine goR ?_)|(refine za (fun K hK=>?_))|((refine zb (fun hcd=>?_) (fun hcd=>?_))<;>(try simp only [hcP] at hcd)<;>(try exact cdT))|(refine zcw (f:=173) rfl bT Tryz.call173 sT (AEq.pure' agT (zlW _) bT sT ?_))|((refine ze [] (by rw [Tryz.results195,Lf.zt]) (zj ?_) ?_)<;>(try (first|exact zh|exact stT)))|(refine hK _ _ ?_;clear hK K))
    all_goals exact zT hk.symm
   | false=>
    rw [if_neg (by simp [h1])] at hk
    have hU:=@h1
    repeat' (first|(refine goR ?_)|(refine za (fun K hK=>?_))|((refine zb (fun hcd=>?_) (fun hcd=>?_))<;>(try simp only [hcP] at hcd)<;>(try exact cdT))|(refine zcw (f:=173) rfl bT Tryz.call173 sT (AEq.pure' agT (zlW _) bT sT ?_))|(refine hK _ _ ?_;clear hK K))
    refine ⟨i + 1,⟨by omega,hk⟩,by omega,?_,arT,srT⟩
    (refine ⟨⟨_,sT,?_⟩,trivial⟩<;>(try (first|exact zh)))
  ·have he : zkC l 0 = -1 := by rw [hk, List.drop_eq_nil_of_le (by omega)]; rfl
   repeat' (first|(refine goR ?_)|(refine za (fun K hK=>?_))|((refine zb (fun hcd=>?_) (fun hcd=>?_))<;>(try simp only [hcP] at hcd)<;>(try exact cdT))|((refine ze [] (by rw [Tryz.results195,Lf.zt]) (zj ?_) ?_)<;>(try (first|exact zh|exact stT)))|(refine hK _ _ ?_;clear hK K)|(apply_assumption (exfalso:=false) (symm:=false)))
   all_goals exact zT he.symm
theorem zuP (f q : Bool) (l : List Int) (h : l.length ≤ 9223372036854775807) : AEq Tryz.prog 172 [.sl f q (l.map y8),.lit (.func (.func 173) #[] #[])] [] (bl (zeh l)) []:=by
 have he:=zfj l 0 (by decide)
 refine zc Tryz.func172 rfl Tryz.ntmps172 (by simp) (fun hsc=>?_);simp only [Lf.enter,Nat.reduceAdd];clear hsc
 have hU:=@he
 repeat' (first|(refine goR ?_)|(refine za (fun K hK=>?_))|(refine zd (f:=195) rfl Tryz.call195 (h:=AEq.pure' agT (zAO _ _ _ (by assumption)) (hq:=?_)))|((refine ze [] (by rw [Tryz.results172,Lf.zt]) (zj ?_) ?_)<;>(try (first|exact zh|exact stT)))|(refine hK _ _ ?_;clear hK K))
 all_goals exact zq (by rw [← he])
theorem zlX {R : List Fl} {s : ByteArray} {i : Int} (h : stN s = i) (h0 : 1 ≤ i) : nmI R s = i:=by
 unfold nmI;rw [if_pos (by omega),h]
theorem zlY {R : List Fl} {s : ByteArray} {i : Int} (h : stN s = 0) (h2 : yA s R 1 = i) (h0 : 1 ≤ i) : nmI R s = 61 + i:=by
 unfold nmI;rw [if_neg (by omega),h2,if_pos (by omega)]
theorem zlZ {R : List Fl} {s : ByteArray} (h : stN s = 0) (h2 : yA s R 1 = 0) : nmI R s = 0:=by
 unfold nmI;rw [if_neg (by omega),if_neg (by omega)]
theorem zuQ (xs : List Fl) (s : Nat) (z m : Int) (n : ByteArray) (h : xs.length ≤ 100000) : AEq Tryz.prog 203 [.ptr 0 0,.lit (.string n)] [.box [.row 1 s,i64 z,i64 m],.row s 103 3 (xs.map flA)] (i64 (nmI xs.reverse n)) [.box [.row 1 s,i64 z,i64 m],.row s 103 3 (xs.map flA)]:=by
 have hrl : xs.reverse.length = xs.length:=List.length_reverse
 have hsb:=zdk n ⟨#[]⟩
 rcases zh5 (s:=n) (v:=⟨#[]⟩) with ⟨h0,hs0⟩|⟨h1,h2,h3⟩
 ·refine zc Tryz.func203 rfl Tryz.ntmps203 (by simp) (fun hsc => ?_); simp only [Lf.enter, Nat.reduceAdd]; clear hsc
  have hU:=True.intro
  repeat' (first|(refine goR ?_)|(refine za (fun K hK=>?_))|((refine zb (fun hcd=>?_) (fun hcd=>?_))<;>(try simp only [hcP] at hcd)<;>(try exact cdT))|(refine zd (f:=225) rfl Tryz.call225 (h:=AEq.pure' agT (zec _ _) (hq:=?_)))|(refine hK _ _ ?_;clear hK K))
  refine zU [4,7,8,9,29,30,31,32,33,34,35,36,37,38,39,40,41,42,43,44,45,46] [0,1] (fun c : Nat=>[(7,i64 (c + 1))]) (fun _=>[.box [.row 1 s,i64 z,i64 m],.row s 103 3 (xs.map flA)]) (fun c=>c ≤ xs.length ∧ yA n xs.reverse 1 = yA n (xs.reverse.drop c) (c + 1)) (fun c=>xs.length - c) 0 (fun _=>rfl) rfl rfl ⟨Nat.zero_le _,rfl⟩ ?_ rfl (by intro s i x h;simp only [List.mem_cons,Prod.mk.injEq,List.not_mem_nil,or_false] at h;rcases h with ⟨rfl,_⟩<;>decide) ?_
  ·(refine ⟨⟨_,sT,?_⟩,trivial⟩<;>(try (first|exact zh)))
  ·rintro c ⟨h1, h4⟩
   simp only [yn,List.map_cons,List.map_nil,List.cons_append,List.nil_append]
   by_cases hlt : c < xs.length
   ·obtain ⟨x, hx⟩ := yy (l := xs.reverse) (i := c) (by omega)
    have hxi : xs.reverse[((c : Int) + 1).toNat - 1]? = some x:=by rw [show ((c : Int) + 1).toNat - 1 = c from by omega];exact hx
    rw [yJ hx,yA] at h4
    by_cases hn : x.n = n
    ·rw [if_pos hn] at h4
     have hr:=zlY hs0 h4 (by omega)
     have hU:=@hn
     repeat' (first|(refine goR ?_)|(refine za (fun K hK=>?_))|((refine zb (fun hcd=>?_) (fun hcd=>?_))<;>(try simp only [hcP] at hcd)<;>(try exact cdT))|(refine zd (f:=228) rfl Tryz.call228 (h:=AEq.sub' [_,_] (hc:=zcu _ _ _ _) (hq:=?_)))|(refine zd (f:=229) rfl Tryz.call229 (h:=AEq.sub' [_,_] (hc:=zpo _ _ _ _ _ _ aoT aoT aoT aoT) (hq:=?_)))|((refine ze [0,1] (by rw [Tryz.results203,Lf.zt]) (zj ?_) ?_)<;>(try (first|exact zh|exact stT)))|(refine hK _ _ ?_;clear hK K))
     all_goals first|exact zT (by rw [hr])|trace_state
    ·rw [if_neg hn] at h4
     have hU:=@hn
     repeat' (first|(refine goR ?_)|(refine za (fun K hK=>?_))|((refine zb (fun hcd=>?_) (fun hcd=>?_))<;>(try simp only [hcP] at hcd)<;>(try exact cdT))|(refine zd (f:=228) rfl Tryz.call228 (h:=AEq.sub' [_,_] (hc:=zcu _ _ _ _) (hq:=?_)))|(refine zd (f:=229) rfl Tryz.call229 (h:=AEq.sub' [_,_] (hc:=zpo _ _ _ _ _ _ aoT aoT aoT aoT) (hq:=?_)))|(refine hK _ _ ?_;clear hK K))
     refine ⟨c + 1,⟨by omega,h4⟩,by omega,?_,arT,srT⟩
     (refine ⟨⟨_,sT,?_⟩,trivial⟩<;>(try (first|exact zh)))
   ·obtain rfl : c = xs.length := by omega
    have h6 : xs.reverse.drop xs.length = []:=by rw [List.drop_eq_nil_of_le (by omega)]
    rw [h6,yA] at h4
    have hr:=zlZ hs0 h4
    repeat' (first|(refine goR ?_)|(refine za (fun K hK=>?_))|((refine zb (fun hcd=>?_) (fun hcd=>?_))<;>(try simp only [hcP] at hcd)<;>(try exact cdT))|(refine zd (f:=228) rfl Tryz.call228 (h:=AEq.sub' [_,_] (hc:=zcu _ _ _ _) (hq:=?_)))|((refine ze [0,1] (by rw [Tryz.results203,Lf.zt]) (zj ?_) ?_)<;>(try (first|exact zh|exact stT)))|(refine hK _ _ ?_;clear hK K)|(apply_assumption (exfalso:=false) (symm:=false)))
    all_goals first|exact zT hr.symm|trace_state
 ·refine zc Tryz.func203 rfl Tryz.ntmps203 (by simp) (fun hsc => ?_); simp only [Lf.enter, Nat.reduceAdd]; clear hsc
  have hU:=True.intro
  repeat' (first|(refine goR ?_)|(refine za (fun K hK=>?_))|((refine zb (fun hcd=>?_) (fun hcd=>?_))<;>(try simp only [hcP] at hcd)<;>(try exact cdT))|(refine zd (f:=225) rfl Tryz.call225 (h:=AEq.pure' agT (zec _ _) (hq:=?_)))|(refine hK _ _ ?_;clear hK K))
  refine zU [5,17,18,19,20,21,22,23,24,25,26,27] [0,1] (fun i : Int=>[(5,i64 i)]) (fun _=>[.box [.row 1 s,i64 z,i64 m],.row s 103 3 (xs.map flA)]) (fun i=>1 ≤ i ∧ i ≤ 61 ∧ (vh i).1 = n) (fun i=>i.toNat) (zbK n ⟨#[]⟩) (fun _=>rfl) rfl rfl ⟨h1,h2,h3⟩ ?_ rfl (by intro s i x h;simp only [List.mem_cons,Prod.mk.injEq,List.not_mem_nil,or_false] at h;rcases h with ⟨rfl,_⟩<;>decide) ?_
  ·(refine ⟨⟨_,sT,?_⟩,trivial⟩<;>(try (first|exact zh)))
  ·rintro i ⟨hi1, hi2, hi3⟩
   simp only [yn,List.map_cons,List.map_nil,List.cons_append,List.nil_append]
   by_cases hst : stN n = i
   ·have hr := zlX (R := xs.reverse) hst hi1
    by_cases hg : 1 < i
    ·have hne : (vh (i - 1)).1 ≠ n := fun e => by have := zlU (i := i - 1) (by omega) (by omega) e; omega
     have hU:=@hne
     repeat' (first|(refine goR ?_)|(refine za (fun K hK=>?_))|((refine zb (fun hcd=>?_) (fun hcd=>?_))<;>(try simp only [hcP] at hcd)<;>(try exact cdT))|(guard_target =~ rg _ _ _ (⟨_,_,_,_,_,some _⟩ :: _) _ _ _;(first|refine zv gT (fun hcd=>?_) (fun hcd=>?_)|refine zp gT (fun hcd=>?_) (fun hcd=>?_))<;>(try simp only [hcd])<;>(try (simp only [Bool.not_eq_true',Bool.not_eq_false'] at hcd;try simp only [hcd]))<;>(refine vC (Γ2:=_) ewT ?_)<;>(try simp only [hcP] at hcd)<;>(try exact cdT))|(refine zd (f:=227) rfl Tryz.call227 (h:=AEq.pure' agT (zlV _ (by omega)) (hq:=?_)))|((refine ze [0,1] (by rw [Tryz.results203,Lf.zt]) (zj ?_) ?_)<;>(try (first|exact zh|exact stT)))|(refine hK _ _ ?_;clear hK K)|(apply_assumption (exfalso:=false) (symm:=false)))
     all_goals first|exact zT hr.symm|trace_state
    ·repeat' (first | (refine goR ?_) | (refine za (fun K hK => ?_)) | ((refine zb (fun hcd => ?_) (fun hcd => ?_)) <;> (try simp only [hcP] at hcd) <;> (try exact cdT)) | (guard_target =~ rg _ _ _ (⟨_, _, _, _, _, some _⟩ :: _) _ _ _; (first | refine zv gT (fun hcd => ?_) (fun hcd => ?_) | refine zp gT (fun hcd => ?_) (fun hcd => ?_)) <;> (try simp only [hcd]) <;> (try (simp only [Bool.not_eq_true', Bool.not_eq_false'] at hcd; try simp only [hcd])) <;> (refine vC (Γ2 := _) ewT ?_) <;> (try simp only [hcP] at hcd) <;> (try exact cdT)) | ((refine ze [0, 1] (by rw [Tryz.results203, Lf.zt]) (zj ?_) ?_) <;> (try (first | exact zh | exact stT))) | (refine hK _ _ ?_; clear hK K) | (apply_assumption (exfalso := false) (symm := false)))
     all_goals first|exact zT hr.symm|trace_state
   ·obtain ⟨hi4, hi5⟩ := zkB hi1 hi2 hi3 hst
    have hU:=@hi5
    repeat' (first|(refine goR ?_)|(refine za (fun K hK=>?_))|((refine zb (fun hcd=>?_) (fun hcd=>?_))<;>(try simp only [hcP] at hcd)<;>(try exact cdT))|(guard_target =~ rg _ _ _ (⟨_,_,_,_,_,some _⟩ :: _) _ _ _;(first|refine zv gT (fun hcd=>?_) (fun hcd=>?_)|refine zp gT (fun hcd=>?_) (fun hcd=>?_))<;>(try simp only [hcd])<;>(try (simp only [Bool.not_eq_true',Bool.not_eq_false'] at hcd;try simp only [hcd]))<;>(refine vC (Γ2:=_) ewT ?_)<;>(try simp only [hcP] at hcd)<;>(try exact cdT))|(refine zd (f:=227) rfl Tryz.call227 (h:=AEq.pure' agT (zlV _ (by omega)) (hq:=?_)))|(refine hK _ _ ?_;clear hK K)|(dsimp only [Lf.yW,Lf.kf]))
    refine ⟨i - 1,⟨by omega,by omega,hi5⟩,by omega,?_,arT,srT⟩
    (refine ⟨⟨_,sT,?_⟩,trivial⟩<;>(try (first|exact zh)))
def zkD (R : List Fl) (n v : ByteArray) : Int:=if plB R n v = true then plI R n v else 0
theorem zl0 (f1 : Bool) (R : List Fl) (m : Int) (n v : ByteArray) (k : Bool) (h : R.length ≤ 100000) : AEq Tryz.prog 182 [.ag [.sl f1 false (R.map flA),i64 m],.ag [.lit (.string n),.lit (.string v),bl k]] [] (i64 (zkD R n v)) []:=by
 have hb1:=zdk n v
 have hb2:=zks R n v
 refine zc Tryz.func182 rfl Tryz.ntmps182 (by simp) (fun hsc=>?_);simp only [Lf.enter,Nat.reduceAdd];clear hsc
 have hU:=True.intro
 repeat' (first|(refine goR ?_)|(refine za (fun K hK=>?_))|((refine zb (fun hcd=>?_) (fun hcd=>?_))<;>(try simp only [hcP] at hcd)<;>(try exact cdT))|(refine zd (f:=209) rfl Tryz.call209 (h:=AEq.pure' agT (zrw _ _ _ _ _ (by assumption)) (hq:=?_)))|(refine zd (f:=208) rfl Tryz.call208 (h:=AEq.pure' agT (znT _ _) (hq:=?_)))|((refine ze [] (by rw [Tryz.results182,Lf.zt]) (zj ?_) ?_)<;>(try (first|exact zh|exact stT)))|(refine hK _ _ ?_;clear hK K))
 all_goals first|exact zT (by unfold zkD plI plB;grind)|trace_state
theorem zrC (f1 : Bool) (R : List Fl) (m : Int) (n : ByteArray) (h : R.length ≤ 100000) : AEq Tryz.prog 183 [.ag [.sl f1 false (R.map flA),i64 m],.lit (.string n)] [] (i64 (nmI R n)) []:=by
  refine zc Tryz.func183 rfl Tryz.ntmps183 (by simp) (fun hsc=>?_);simp only [Lf.enter,Nat.reduceAdd];clear hsc
  have hU:=True.intro
  repeat' (first|(refine goR ?_)|(refine za (fun K hK=>?_))|(refine hK _ _ ?_;clear hK K))
  refine zU [4,5,6,7,9,10,11,12,13,14,15,16,17,18,19,20,21,22] [0] (fun c : Int=>[(5,i64 (c + 1))]) (fun _=>[.box [.sl f1 false (R.map flA),i64 m]]) (fun c=>0 ≤ c ∧ c ≤ 61 ∧ (∀ k,1 ≤ k → k ≤ c → zbk n k = false)) (fun c=>(61 - c).toNat) 0 (fun _=>rfl) rfl rfl ⟨by decide,by decide,fun k _ _=>by omega⟩ ?_ rfl (by intro s i x h;simp only [List.mem_cons,Prod.mk.injEq,List.not_mem_nil,or_false] at h;rcases h with ⟨rfl,_⟩<;>decide) ?_
  · (refine ⟨⟨_,sT,?_⟩,trivial⟩<;>(try (first|exact zh)))
  · rintro c ⟨h0, h1, hf⟩
    simp only [yn,List.map_cons,List.map_nil,List.cons_append,List.nil_append]
    by_cases hlt : c < 61
    · by_cases hn : (vh (c + 1)).1 = n
      · have hst : stN n = c + 1:=by
          have : IsFirst (zbk n) (c + 1) 1 61:=.inr ⟨by omega,by omega,by simp [zbk,hn],fun k a b=>hf k a (by omega)⟩
          exact this.up.symm
        have hr:=zlX (R:=R) hst (by omega)
        have hU:=@hn
        repeat' (first|(refine goR ?_)|(refine za (fun K hK=>?_))|((refine zb (fun hcd=>?_) (fun hcd=>?_))<;>(try simp only [hcP] at hcd)<;>(try exact cdT))|(refine zd (f:=166) rfl Tryz.call166 (h:=AEq.pure' agT (zbL _ (by omega)) (hq:=?_)))|((refine ze [] (by rw [Tryz.results183,Lf.zt]) (zj ?_) ?_)<;>(try (first|exact zh|exact stT)))|(refine hK _ _ ?_;clear hK K))
        all_goals first|exact zT hr.symm|trace_state
      · have ext : ∀ k,1 ≤ k → k ≤ c + 1 → zbk n k = false:=by
          intro k h1 h2
          by_cases hk : k = c + 1
          · rw [hk];simp [zbk,hn]
          · exact hf k h1 (by omega)
        have hU:=@hn
        repeat' (first|(refine goR ?_)|(refine za (fun K hK=>?_))|((refine zb (fun hcd=>?_) (fun hcd=>?_))<;>(try simp only [hcP] at hcd)<;>(try exact cdT))|(refine zd (f:=166) rfl Tryz.call166 (h:=AEq.pure' agT (zbL _ (by omega)) (hq:=?_)))|(refine hK _ _ ?_;clear hK K))
        refine ⟨c + 1,⟨by omega,by omega,ext⟩,by omega,?_,arT,srT⟩
        (refine ⟨⟨_,sT,?_⟩,trivial⟩<;>(try (first|exact zh)))
    · obtain rfl : c = 61 := by omega
      have hs0 : stN n = 0:=by
        have : IsFirst (zbk n) 0 1 61:=.inl ⟨rfl,hf⟩
        exact this.up.symm
      repeat' (first|(refine goR ?_)|(refine za (fun K hK=>?_))|((refine zb (fun hcd=>?_) (fun hcd=>?_))<;>(try simp only [hcP] at hcd)<;>(try exact cdT))|(refine hK _ _ ?_;clear hK K)|(apply_assumption (exfalso:=false) (symm:=false)))
      refine zo [4,8,23,24,25,26,27,28,29,30,31,32,33,34,35,36,37,38,39] (fun c : Nat=>[(8,i64 c)]) (fun _=>[.box [.sl f1 false (R.map flA),i64 m]]) (fun c=>c ≤ R.length ∧ yA n R 1 = yA n (R.drop c) (c + 1)) (fun c=>R.length - c) 0 ⟨Nat.zero_le _,rfl⟩ ?_ rfl ?_
      · (refine ⟨⟨_,sT,?_⟩,trivial⟩<;>(try (first|exact zh)))
      · rintro c ⟨h1, h4⟩
        simp only [yn,List.map_cons,List.map_nil,List.cons_append,List.nil_append]
        by_cases hlt : c < R.length
        · obtain ⟨x, hx⟩ := yy hlt
          rw [yJ hx,yA] at h4
          by_cases hn : x.n = n
          · rw [if_pos hn] at h4
            have hr:=zlY hs0 h4 (by omega)
            have hU:=@hn
            repeat' (first|(refine goR ?_)|(refine za (fun K hK=>?_))|((refine zb (fun hcd=>?_) (fun hcd=>?_))<;>(try simp only [hcP] at hcd)<;>(try exact cdT))|((refine ze [] (by rw [Tryz.results183,Lf.zt]) (zj ?_) ?_)<;>(try (first|exact zh|exact stT)))|(refine hK _ _ ?_;clear hK K))
            all_goals first|exact zT (by rw [hr];omega)|trace_state
          · rw [if_neg hn] at h4
            have hU:=@hn
            repeat' (first|(refine goR ?_)|(refine za (fun K hK=>?_))|((refine zb (fun hcd=>?_) (fun hcd=>?_))<;>(try simp only [hcP] at hcd)<;>(try exact cdT))|(refine hK _ _ ?_;clear hK K))
            refine ⟨c + 1,⟨by omega,h4⟩,by omega,?_,arT,srT⟩
            (refine ⟨⟨_,sT,?_⟩,trivial⟩<;>(try (first|exact zh)))
        · obtain rfl : c = R.length := by omega
          have h6 : R.drop R.length = []:=by rw [List.drop_eq_nil_of_le (by omega)]
          rw [h6,yA] at h4
          have hr:=zlZ hs0 h4
          repeat' (first|(refine goR ?_)|(refine za (fun K hK=>?_))|((refine zb (fun hcd=>?_) (fun hcd=>?_))<;>(try simp only [hcP] at hcd)<;>(try exact cdT))|((refine ze [] (by rw [Tryz.results183,Lf.zt]) (zj ?_) ?_)<;>(try (first|exact zh|exact stT)))|(refine hK _ _ ?_;clear hK K)|(apply_assumption (exfalso:=false) (symm:=false)))
          all_goals first|exact zT hr.symm|trace_state
end Go.Proofs.YtdalcgfnlbofdaaGreatDoor
