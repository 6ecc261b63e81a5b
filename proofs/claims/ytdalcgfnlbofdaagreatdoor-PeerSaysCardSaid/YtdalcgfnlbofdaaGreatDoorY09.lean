import Derived.Test.YtdalcgfnlbofdaaGreatDoorY08
import Derived.Test.YtdalcgfnlbofdaaGreatDoorPc
import Derived.Test.YtdalcgfnlbofdaaGreatDoorY05
import Derived.Test.YtdalcgfnlbofdaaGreatDoorY06
import Derived.Test.YtdalcgfnlbofdaaGreatDoorY01
set_option linter.unusedVariables false
set_option linter.unusedSimpArgs false
namespace Go.Proofs.YtdalcgfnlbofdaaGreatDoor
open Go Go.Lf Go.Proofs
attribute [local irreducible] Lf.rg Lf.ro Lf.PWp Lf.SOp Lf.ACall Lf.Scoped Lf.dg Lf.dw
set_option maxRecDepth 20000
set_option maxHeartbeats 4000000
structure Rw where
 (k i : Int) (nm : ByteArray) (ns : Bool) (vl : ByteArray) (vs : Bool)
def whl (R : List Fl) (n v : ByteArray) (k : Bool) (w : Int) : Bool:=plB R n v && !k && decide (w ≠ 1) && decide (w ≠ 2)
def zei (R : List Fl) (n v : ByteArray) (k : Bool) (w : Int) (nn sn sv : Bool) : Rw:=if whl R n v k w = true then ⟨1,plI R n v,⟨#[]⟩,false,⟨#[]⟩,false⟩ else if nn = false ∧ nmI R n ≠ 0 then ⟨kdI k w,nmI R n,⟨#[]⟩,false,v,sv⟩ else ⟨kdI k w,0,n,sn,v,sv⟩
def zdC (t : DT) (n v : ByteArray) (k : Bool) (w : Int) : DT:=if whl t.xs.reverse n v k w = true then t else if kdI k w = 2 then zf4 t ⟨n,v,k⟩ else t
theorem zll {R : List Fl} {n v : ByteArray} {k : Bool} {w : Int} {nn sn sv : Bool} (h : whl R n v k w = true) : zei R n v k w nn sn sv = ⟨1,plI R n v,⟨#[]⟩,false,⟨#[]⟩,false⟩:=if_pos h
theorem zqS {t : DT} {n v : ByteArray} {k : Bool} {w : Int} (h : whl t.xs.reverse n v k w = true) : zdC t n v k w = t:=if_pos h
theorem zlm {R : List Fl} {n v : ByteArray} {k : Bool} {w : Int} {nn sn sv : Bool} {r : Rw} (h : whl R n v k w = false) (hr : zei R n v k w nn sn sv = r) : (nn = true ∧ r = ⟨kdI k w,0,n,sn,v,sv⟩) ∨ (nn = false ∧ nmI R n = 0 ∧ r = ⟨kdI k w,0,n,sn,v,sv⟩) ∨ (nn = false ∧ nmI R n ≠ 0 ∧ r = ⟨kdI k w,nmI R n,⟨#[]⟩,false,v,sv⟩):=by
 unfold zei at hr
 rw [if_neg (by simp [h])] at hr
 cases nn with
 | true=>rw [if_neg (by simp)] at hr;exact .inl ⟨rfl,hr.symm⟩
 | false=>
  by_cases h0 : nmI R n = 0
  ·rw [if_neg (by simp [h0])] at hr;exact .inr (.inl ⟨rfl,h0,hr.symm⟩)
  ·rw [if_pos ⟨rfl,h0⟩] at hr;exact .inr (.inr ⟨rfl,h0,hr.symm⟩)
theorem zqT {xs : List Fl} {s : Nat} {m : Int} {n v : ByteArray} {k : Bool} {w : Int} {t : DT} (h : whl xs.reverse n v k w = false) (ht : zdC ⟨xs,s,m⟩ n v k w = t) : (kdI k w = 2 ∧ k = false ∧ wt ⟨n,v,k⟩ ≤ m ∧ t = ⟨addX xs m ⟨n,v,k⟩,s + 2,m⟩) ∨ (kdI k w = 2 ∧ k = false ∧ m < wt ⟨n,v,k⟩ ∧ t = ⟨xsE,s + 1,m⟩) ∨ (kdI k w ≠ 2 ∧ t = ⟨xs,s,m⟩):=by
 unfold zdC at ht
 dsimp only at ht
 rw [if_neg (by simp [h])] at ht
 have hk : kdI k w = 2 → k = false:=by unfold kdI;cases k<;>simp
 by_cases h2 : kdI k w = 2
 ·rw [if_pos h2] at ht
  unfold zf4 at ht
  dsimp only at ht
  split at ht
  ·exact .inl ⟨h2,hk h2,by assumption,ht.symm⟩
  ·exact .inr (.inl ⟨h2,hk h2,by omega,ht.symm⟩)
 ·rw [if_neg h2] at ht
  exact .inr (.inr ⟨h2,ht.symm⟩)
theorem zqU {R : List Fl} {n v : ByteArray} {k : Bool} {w : Int} (h : whl R n v k w = true) : plB R n v = true ∧ k = false ∧ w ≠ 1 ∧ w ≠ 2:=by
 unfold whl at h
 simp only [Bool.and_eq_true,Bool.not_eq_true',decide_eq_true_eq] at h
 exact ⟨h.1.1.1,h.1.1.2,h.1.2,h.2⟩
theorem ztK {R : List Fl} {n v : ByteArray} {k : Bool} {w : Int} (h : whl R n v k w = false) : ¬ (((plB R n v = true ∧ k = false) ∧ ¬ w = 1) ∧ ¬ w = 2):=by
 rintro ⟨⟨⟨a,b⟩,c⟩,d⟩
 simp [whl,a,b,c,d] at h
theorem zqV (R : List Fl) (s : ByteArray) : 0 ≤ nmI R s ∧ nmI R s ≤ 61 + R.length:=by
 have a:=zqM s
 have b:=zcl s R 1 (by decide)
 unfold nmI
 split
 ·omega
 ·split<;>omega
theorem zln {R : List Fl} {n v : ByteArray} (h : plB R n v = true) : 1 ≤ plI R n v:=by
 have hb1:=ze6 n v
 have hb2:=zm0 R n v
 unfold plB at h
 unfold plI
 by_cases h1 : zj2 n v = true
 ·rw [if_pos h1]
  unfold zj2 at h1
  unfold zcP
  have:=of_decide_eq_true h1
  rw [if_pos this]
  rcases y9 (zbh n v) 61 with ⟨h,_⟩|⟨h,_⟩
  ·exact absurd h this
  ·exact h
 ·rw [if_neg h1,if_pos (by simpa [h1] using h)];omega
theorem ztL {R : List Fl} {n v : ByteArray} (h : plB R n v = true) : zqR R n v = plI R n v ∧ 0 < plI R n v:=⟨if_pos h,zln h⟩
theorem zqW (R : List Fl) (n v : ByteArray) : 0 ≤ zqR R n v ∧ zqR R n v ≤ 61 + R.length:=by
 have hb1:=ze6 n v
 have hb2:=zm0 R n v
 unfold zqR plI
 split
 ·split
  ·omega
  ·split
   ·omega
   ·split<;>omega
 ·omega
attribute [local irreducible] wt yn keptL flN addX kh xsE zf4 plB plI nmI zei zdC zqJ zoL zqR
set_option maxRecDepth 20000 in
theorem znb (xs : List Fl) (s : Nat) (m : Int) (n v : ByteArray) (k : Bool) (w : Int) (nn sn sv : Bool) (h : xs.length ≤ 90000) (hw : whl xs.reverse n v k w = true) : AEq Tryz.prog 176 [.ptr 0 0,.ag [.lit (.string n),.lit (.string v),bl k],.ag [i64 w,bl nn,bl sn,bl sv]] [.box [.row 1 s,i64 (yn xs),i64 m],.row s 103 3 (xs.map flA)] (.ag [i64 1,i64 (plI xs.reverse n v),.lit (.string ⟨#[]⟩),bl false,.lit (.string ⟨#[]⟩),bl false,i64 0]) [.box [.row 1 s,i64 (yn xs),i64 m],.row s 103 3 (xs.map flA)]:=by
 obtain ⟨hp,rfl,h1,h2⟩:=zqU hw
 refine zc Tryz.func176 rfl Tryz.ntmps176 (by simp) (fun hsc=>?_);simp only [Lf.enter,Nat.reduceAdd];clear hsc
 have hU:=@hp
 repeat' (first|(guard_target =~ PWp _ _ _ _ _ _ _;first|(refine za (fun K hK=>?_))|(refine zn ?_)|(refine zJ ?_)|((refine zb (fun hcd=>?_) (fun hcd=>?_))<;>(try simp only [hcP] at hcd)<;>(try exact cdT)))|(guard_target =~ rg _ _ _ _ _ _ _;first|(guard_target =~ rg _ _ _ (⟨_,.fieldAddr _ _ _,_,_,_,some _⟩ :: _) _ _ _;first|(refine zl rfl (h:=?_))|(refine zI rfl (h:=?_)))|(guard_target =~ rg _ _ _ (⟨_,.load _ _,_,_,_,some _⟩ :: _) _ _ _;first|(refine zl rfl (h:=?_))|(refine zI rfl (h:=?_)))|(guard_target =~ rg _ _ _ (⟨_,.binOp _ _ _ _ _,_,_,_,some _⟩ :: _) _ _ _;first|(refine zl rfl (h:=?_))|(refine zI rfl (h:=?_)))|(guard_target =~ rg _ _ _ (⟨_,.unOp _ _ _,_,_,_,some _⟩ :: _) _ _ _;first|(refine zl rfl (h:=?_))|(refine zI rfl (h:=?_)))|(guard_target =~ rg _ _ _ [] _ _ _;first|(refine zS ?_))|(refine ks rfl (h:=?_))|(refine zaJ rfl (hy:=rfl) (h:=?_))|(refine vV rfl (h:=?_))|(refine ka rfl ?_)|(refine zdL rfl ?_))|(guard_target =~ SOp _ _ _ _ _ _;first|(guard_target =~ SOp _ _ ⟨_,.store _ _ _,_,_,_,none⟩ _ _ _;first|(refine z6 rfl (hK:=?_)))|(guard_target =~ SOp _ _ ⟨_,.build _ _,_,_,_,none⟩ _ _ _;first|(refine zX rfl (by first|exact zb9|exact zfP|exact zde|exact zjL|exact zjM|fail) (hK:=?_)))|(guard_target =~ SOp _ _ ⟨_,.alloc _,_,_,_,none⟩ _ _ _;first|(refine yM rfl (by first|exact zv3|exact zv4|exact zv9|exact zmx|exact zdd|exact zdY|exact zdZ|exact zd0|exact zd1|exact zd2|fail) (hK:=?_)))|(guard_target =~ SOp _ _ ⟨_,.box _ _,_,_,_,none⟩ _ _ _;first|(refine y7 rfl (hK:=?_)))|(guard_target =~ SOp _ _ ⟨_,.call ⟨.value (.func 201),_,_⟩,_,_,_,none⟩ _ _ _;first|(refine zd (f:=201) rfl Tryz.call201 (h:=AEq.sub' [_,_] (hc:=zqN _ _ _ _ _ _ _ (by omega)) (hq:=?_)))))|(guard_target =~ (_ ∨ _) ∧ _;first|((refine yv [0,1] (by first|exact .inr rfl|exact .inl rfl|fail) (by rfl) (by rw [Tryz.results176,Lf.jh];(try simp (disch:=omega) only [Lf.zG,go_sem,seval,↓reduceIte,hU]);rfl) sT sT (zj ?_) ?_)<;>(try (first|exact zi|exact stq (by with_reducible rfl)|exact stq (by rfl)|exact stq (by simp (disch:=omega) only [go_sem,seval,↓reduceIte,hU])))))|(refine hK _ _ ?_;clear hK K))
set_option maxRecDepth 20000 in
theorem znc (xs : List Fl) (s : Nat) (m : Int) (n v : ByteArray) (k : Bool) (w : Int) (nn sn sv : Bool) (h : xs.length ≤ 90000) (hS : yn xs ≤ 2147483647) (hb : ∀ f ∈ xs,f.n.size ≤ 1000000 ∧ f.v.size ≤ 1000000) (hm0 : 0 ≤ m) (hm1 : m ≤ 2147483647) (h1 : n.size ≤ 1000000) (h2 : v.size ≤ 1000000) (hw : whl xs.reverse n v k w = false) (r : Rw) (t : DT) (hr : zei xs.reverse n v k w nn sn sv = r) (ht : zdC ⟨xs,s,m⟩ n v k w = t) : AEq Tryz.prog 176 [.ptr 0 0,.ag [.lit (.string n),.lit (.string v),bl k],.ag [i64 w,bl nn,bl sn,bl sv]] [.box [.row 1 s,i64 (yn xs),i64 m],.row s 103 3 (xs.map flA)] (.ag [i64 r.k,i64 r.i,.lit (.string r.nm),bl r.ns,.lit (.string r.vl),bl r.vs,i64 0]) [.box [.row 1 t.s,i64 (yn t.xs),i64 t.m],.row t.s 103 3 (t.xs.map flA)]:=by
 have hbig : ∀ f ∈ xs,f.n.size ≤ 1000000000 ∧ f.v.size ≤ 1000000000:=fun f hf=>by have:=hb f hf;omega
 have hax:=zm4 xs m ⟨n,v,k⟩
 have hno:=ztK hw
 rcases zlm hw hr with ⟨rfl,rfl⟩|⟨rfl,hz,rfl⟩|⟨rfl,hz,rfl⟩
 all_goals rcases zqT hw ht with ⟨hk,hkf,hwt,rfl⟩|⟨hk,hkf,hwt,rfl⟩|⟨hk,rfl⟩
 all_goals clear hr ht
 all_goals dsimp only
 all_goals (refine zc Tryz.func176 rfl Tryz.ntmps176 (by simp) (fun hsc=>?_);simp only [Lf.enter,Nat.reduceAdd];clear hsc)
 all_goals (have hU:=@hax)
 all_goals (repeat' (first|(guard_target =~ PWp _ _ _ _ _ _ _;first|(refine zp (id:=4) [9,0,1,2,3,4,5,6,7,8,10] [9,10] mixed (by kernel_rfl) (by kernel_rfl) ?_)|(refine za (fun K hK=>?_))|(refine zn ?_)|(refine zJ ?_)|(refine zE ?_)|((refine zb (fun hcd=>?_) (fun hcd=>?_))<;>(try simp only [hcP] at hcd)<;>(try exact cdT)))|(guard_target =~ rg _ _ _ _ _ _ _;first|(guard_target =~ rg _ _ _ (⟨_,.fieldAddr _ _ _,_,_,_,some _⟩ :: _) _ _ _;first|(refine zI rfl (h:=?_)))|(guard_target =~ rg _ _ _ (⟨_,.load _ _,_,_,_,some _⟩ :: _) _ _ _;first|(refine zI rfl (h:=?_)))|(guard_target =~ rg _ _ _ (⟨_,.binOp _ _ _ _ _,_,_,_,some _⟩ :: _) _ _ _;first|(refine zI rfl (h:=?_)))|(guard_target =~ rg _ _ _ (⟨_,.unOp _ _ _,_,_,_,some _⟩ :: _) _ _ _;first|(refine zI rfl (h:=?_)))|(guard_target =~ rg _ _ _ [] _ _ _;first|(refine zS ?_))|(refine ks rfl (h:=?_))|(refine zaJ rfl (hy:=rfl) (h:=?_))|(refine vV rfl (h:=?_))|(refine ka rfl ?_)|(refine zdL rfl ?_))|(guard_target =~ SOp _ _ _ _ _ _;first|(guard_target =~ SOp _ _ ⟨_,.store _ _ _,_,_,_,none⟩ _ _ _;first|(refine z6 rfl (hK:=?_)))|(guard_target =~ SOp _ _ ⟨_,.build _ _,_,_,_,none⟩ _ _ _;first|(refine zX rfl (by first|exact zb9|exact zfP|exact zde|exact zjL|exact zjM|fail) (hK:=?_)))|(guard_target =~ SOp _ _ ⟨_,.alloc _,_,_,_,none⟩ _ _ _;first|(refine yM rfl (by first|exact zv3|exact zv4|exact zv9|exact zmx|exact zdd|exact zdY|exact zdZ|exact zd0|exact zd1|exact zd2|fail) (hK:=?_)))|(guard_target =~ SOp _ _ ⟨_,.box _ _,_,_,_,none⟩ _ _ _;first|(refine y7 rfl (hK:=?_)))|(guard_target =~ SOp _ _ ⟨_,.call ⟨.value (.func 204),_,_⟩,_,_,_,none⟩ _ _ _;first|(refine zd (f:=204) rfl Tryz.call204 (h:=AEq.sub' [_,_] (hc:=zf3 _ _ _ _ _ _ aoT aoT aoT aoT aoT aoT aoT) (hq:=?_)))|(refine zd (f:=204) rfl Tryz.call204 (h:=AEq.sub' [_,_] (hc:=zm3 _ _ _ _ _ _ aoT aoT aoT aoT aoT aoT aoT) (hq:=?_))))|(guard_target =~ SOp _ _ ⟨_,.call ⟨.value (.func 201),_,_⟩,_,_,_,none⟩ _ _ _;first|(refine zd (f:=201) rfl Tryz.call201 (h:=AEq.sub' [_,_] (hc:=zqN _ _ _ _ _ _ _ aoT) (hq:=?_))))|(guard_target =~ SOp _ _ ⟨_,.call ⟨.value (.func 203),_,_⟩,_,_,_,none⟩ _ _ _;first|(refine zd (f:=203) rfl Tryz.call203 (h:=AEq.sub' [_,_] (hc:=ztJ _ _ _ _ _ aoT) (hq:=?_)))))|(guard_target =~ dw _ _ _ _ _ _ _ _ _ _;first|((first|guard_target =~ dw _ _ _ _ _ (0 :: _) _ _ _ _|guard_target =~ dw _ _ _ _ _ (1 :: _) _ _ _ _|guard_target =~ dw _ _ _ _ _ (4 :: _) _ _ _ _|guard_target =~ dw _ _ _ _ _ (6 :: _) _ _ _ _);first|(refine zdA rfl rfl (h:=zR rfl (h:=ze ⟨rfl,rfl⟩)) (h2:=yl (zR rfl (by first|(simp (disch:=omega) only [go_sem,seval,↓reduceIte,hU];done)|rfl) (ze ⟨rfl,rfl⟩))) (hk:=?_)))|(guard_target =~ dw _ _ _ _ _ (2 :: _) _ _ _ _;first|(refine z9 rfl rfl (h:=(fun τ=>yj (h:=zd (f:=202) rfl Tryz.call202 (h:=AEq.pure' agT (ztH _ _ _ _ _ _ _) (hq:=ze ⟨rfl,rfl⟩))))) (hk:=?_)))|((first|guard_target =~ dw _ _ _ _ _ (3 :: _) _ _ _ _|guard_target =~ dw _ _ _ _ _ (5 :: _) _ _ _ _);first|(refine zdA rfl rfl (h:=zR rfl (h:=ze ⟨rfl,rfl⟩)) (h2:=yl (zR rfl (by first|(simp (disch:=omega) only [go_sem,seval,↓reduceIte,hU];done)|rfl) (ze ⟨rfl,rfl⟩))) (hk:=?_)))|((first|guard_target =~ dw _ _ _ _ _ (7 :: _) _ _ _ _|guard_target =~ dw _ _ _ _ _ (8 :: _) _ _ _ _);first|(refine z9 rfl rfl (h:=(fun τ=>yj (h:=zX rfl (by first|exact zb9|exact zfP|exact zde|exact zjL|exact zjM|fail) (hK:=ze ⟨rfl,rfl⟩)))) (hk:=?_)))|(guard_target =~ dw _ _ _ _ _ (9 :: _) _ _ _ _;first|(refine zaV rfl rfl (h:=yj (h:=yM rfl (by first|exact zv3|exact zv4|exact zv9|exact zmx|exact zdd|exact zdY|exact zdZ|exact zd0|exact zd1|exact zd2|fail) (hK:=ze ⟨rfl,rfl⟩))) (hk:=?_)))|(guard_target =~ dw _ _ _ _ _ (10 :: _) _ _ _ _;first|(refine zbn rfl rfl (h:=ziN (h:=z6 rfl (hK:=ze ⟨rfl,rfl⟩))) (hk:=?_)))|(guard_target =~ dw _ _ _ _ _ [] _ _ _ _;first|(refine vo ?_)))|(guard_target =~ (_ ∨ _) ∧ _;first|((refine yv [0,1] (by first|exact .inr rfl|exact .inl rfl|fail) (by rfl) (by rw [Tryz.results176,Lf.jh];(try simp (disch:=omega) only [Lf.zG,go_sem,seval,↓reduceIte,hU]);rfl) sT sT (zj ?_) ?_)<;>(try (first|exact zi|exact stq (by with_reducible rfl)|exact stq (by rfl)|exact stq (by simp (disch:=omega) only [go_sem,seval,↓reduceIte,hU])))))|(refine hK _ _ ?_;clear hK K)))
 all_goals first|exact yc (by rw [hz])|trace_state
theorem zlo (xs : List Fl) (s : Nat) (m : Int) (n v : ByteArray) (k : Bool) (w : Int) (nn sn sv : Bool) (h : xs.length ≤ 90000) (hS : yn xs ≤ 2147483647) (hb : ∀ f ∈ xs,f.n.size ≤ 1000000 ∧ f.v.size ≤ 1000000) (hm0 : 0 ≤ m) (hm1 : m ≤ 2147483647) (h1 : n.size ≤ 1000000) (h2 : v.size ≤ 1000000) (r : Rw) (t : DT) (hr : zei xs.reverse n v k w nn sn sv = r) (ht : zdC ⟨xs,s,m⟩ n v k w = t) : AEq Tryz.prog 176 [.ptr 0 0,.ag [.lit (.string n),.lit (.string v),bl k],.ag [i64 w,bl nn,bl sn,bl sv]] [.box [.row 1 s,i64 (yn xs),i64 m],.row s 103 3 (xs.map flA)] (.ag [i64 r.k,i64 r.i,.lit (.string r.nm),bl r.ns,.lit (.string r.vl),bl r.vs,i64 0]) [.box [.row 1 t.s,i64 (yn t.xs),i64 t.m],.row t.s 103 3 (t.xs.map flA)]:=by
 cases hw : whl xs.reverse n v k w with
 | true=>
  rw [zll hw] at hr
  rw [zqS hw] at ht
  subst hr
  subst ht
  exact znb xs s m n v k w nn sn sv h hw
 | false=>exact znc xs s m n v k w nn sn sv h hS hb hm0 hm1 h1 h2 hw r t hr ht
end Go.Proofs.YtdalcgfnlbofdaaGreatDoor
namespace Go.Proofs.YtdalcgfnlbofdaaGreatDoor
open Go Go.Lf Go.Proofs
attribute [local irreducible] Lf.rg Lf.ro Lf.PWp Lf.SOp Lf.ACall Lf.Scoped Lf.dg Lf.dw
set_option maxRecDepth 20000
set_option maxHeartbeats 4000000
def ofB (b : ByteArray) : List UInt8:=b.data.toList
theorem zff (b : ByteArray) : (ofB b).length = b.size:=by unfold ofB;rw [Array.length_toList];rfl
theorem zlp (b : ByteArray) : (⟨(ofB b).toArray⟩ : ByteArray) = b:=by cases b;rfl
def rwB (r : Rw) : List UInt8:=rpB r.k r.i (ofB r.nm) r.ns (ofB r.vl) r.vs 0
def zgl (z : Int) : List UInt8:=rpB 5 0 [] false [] false z
def ztM (r : Rw) : Prop:=RP r.k r.i (ofB r.nm) r.ns (ofB r.vl) r.vs 0 ∧ r.nm.size ≤ 1000 ∧ r.vl.size ≤ 1000
theorem ztN {R : List Fl} {n v : ByteArray} (h : plB R n v = true) : plI R n v ≤ 61 + R.length:=by
 have a:=zqW R n v
 rw [(ztL h).1] at a
 exact a.2
theorem zqX (k : Bool) (w : Int) : kdI k w = 2 ∨ kdI k w = 3 ∨ kdI k w = 4:=by
 unfold kdI;split
 ·omega
 ·split<;>omega
theorem zej {R : List Fl} {n v : ByteArray} {k : Bool} {w : Int} {nn sn sv : Bool} {r : Rw} (hr : zei R n v k w nn sn sv = r) (h : R.length ≤ 100000) (h1 : n.size ≤ 1000) (h2 : v.size ≤ 1000) : ztM r:=by
 have hk:=zqX k w
 have hb:=zqV R n
 have e0 : ((0 : Int) ≤ 0 ∧ (0 : Int) ≤ 2147483647):=by decide
 have ez : (⟨#[]⟩ : ByteArray).size ≤ 1000:=by decide
 cases hw : whl R n v k w with
 | true=>
  rw [zll hw] at hr
  subst hr
  have hp:=(zqU hw).1
  have a:=zln hp
  have b:=ztN hp
  exact ⟨⟨⟨by dsimp only;omega,by dsimp only;omega⟩,⟨by dsimp only;omega,by dsimp only;omega⟩,e0,.inr (.inl ⟨rfl,rfl,by dsimp only;omega,⟨rfl,rfl⟩,⟨rfl,rfl⟩⟩)⟩,ez,ez⟩
 | false=>
  rcases zlm hw hr with ⟨_,rfl⟩|⟨_,hz,rfl⟩|⟨_,hz,rfl⟩
  ·exact ⟨⟨⟨by dsimp only;omega,by dsimp only;omega⟩,e0,e0,.inr (.inr ⟨by dsimp only;omega,by dsimp only;omega,rfl,.inl rfl⟩)⟩,h1,h2⟩
  ·exact ⟨⟨⟨by dsimp only;omega,by dsimp only;omega⟩,e0,e0,.inr (.inr ⟨by dsimp only;omega,by dsimp only;omega,rfl,.inl rfl⟩)⟩,h1,h2⟩
  ·exact ⟨⟨⟨by dsimp only;omega,by dsimp only;omega⟩,⟨by dsimp only;omega,by dsimp only;omega⟩,e0,.inr (.inr ⟨by dsimp only;omega,by dsimp only;omega,rfl,.inr ⟨rfl,rfl⟩⟩)⟩,ez,h2⟩
theorem zlq (k i : Int) (nm : List UInt8) (ns : Bool) (vl : List UInt8) (vs : Bool) (sz : Int) : 1 ≤ (rpB k i nm ns vl vs sz).length ∧ (rpB k i nm ns vl vs sz).length ≤ 4 * nm.length + 4 * vl.length + 18:=by
 have a:=yK (frI k) (biI k) (i + sz)
 have b:=ze7 ns nm
 have c:=ze7 vs vl
 unfold rpB
 rw [List.length_append]
 split
 ·rw [List.length_append]
  split
  ·omega
  ·rw [List.length_nil];omega
 ·rw [List.length_nil];omega
theorem zhH {r : Rw} (h : ztM r) : 1 ≤ (rwB r).length ∧ (rwB r).length ≤ 8018:=by
 have a:=zlq r.k r.i (ofB r.nm) r.ns (ofB r.vl) r.vs 0
 rw [zff,zff] at a
 obtain ⟨_,h1,h2⟩:=h
 unfold rwB
 omega
theorem zhI (z : Int) : 1 ≤ (zgl z).length ∧ (zgl z).length ≤ 18:=by
 have a:=zlq 5 0 [] false [] false z
 unfold zgl
 simpa using a
structure EQ where
 (o : List UInt8) (t : DT)
def zgm (a b : List UInt8) : List UInt8:=a ++ b
def zqY (q : EQ) (z : Int) : EQ:=⟨zgm q.o (zgl z),⟨keptL q.t.xs z,q.t.s + 1,z⟩⟩
def jG : List Int → EQ → EQ
 | [],q=>q
 | z :: l,q=>jG l (zqY q z)
def op0 : Op4:=⟨0,false,false,false⟩
def zcQ (how : List Op4) (i : Nat) : Op4:=match how[i % how.length]? with|some o=>o|none=>op0
def zqZ (q : EQ) (f : Fl) (o : Op4) : EQ:=⟨zgm q.o (rwB (zei q.t.xs.reverse f.n f.v f.k o.w o.nn o.sn o.sv)),zdC q.t f.n f.v f.k o.w⟩
def jH (how : List Op4) : List Fl → Nat → EQ → EQ
 | [],_,q=>q
 | f :: l,i,q=>jH how l (i + 1) (zqZ q f (zcQ how i))
def zlr (sizes : List Int) (l : List Fl) (how : List Op4) (t : DT) : EQ:=jH how l 0 (jG sizes ⟨[],t⟩)
theorem zq0 {i : Nat} : zcQ [] i = ⟨0,false,false,false⟩:=rfl
theorem zhJ {how : List Op4} {i : Nat} {o : Op4} (h : how[i % how.length]? = some o) : zcQ how i = o:=by unfold zcQ;rw [h]
theorem zek {t t' : DT} {n v : ByteArray} {k : Bool} {w : Int} (ht : zdC t n v k w = t') (h : TOk t) (h1 : n.size ≤ 1000000) (h2 : v.size ≤ 1000000) : TOk t' ∧ t'.xs.length ≤ t.xs.length + 1 ∧ t'.m = t.m:=by
 subst ht
 unfold zdC
 split
 ·exact ⟨h,by omega,rfl⟩
 ·split
  ·exact zm8 (f:=⟨n,v,k⟩) h h1 h2
  ·exact ⟨h,by omega,rfl⟩
theorem zls {t : DT} {z : Int} (h : TOk t) (h1 : 0 ≤ z) (h2 : z ≤ 2147483647) : TOk ⟨keptL t.xs z,t.s + 1,z⟩ ∧ (keptL t.xs z).length ≤ t.xs.length:=
 ⟨⟨ky _ h1 _,h1,h2,fun f hf=>h.2.2.2 f (za3 _ _ f hf)⟩,jE _ _⟩
theorem zfg : ∀ (l : List Int) (q Q : EQ), jG l q = Q → TOk q.t → (∀ z ∈ l, 0 ≤ z ∧ z ≤ 2147483647) → TOk Q.t ∧ Q.t.xs.length ≤ q.t.xs.length ∧ Q.o.length ≤ q.o.length + 18 * l.length
 | [],q,Q,h,ht,hz=>by subst h;exact ⟨ht,Nat.le_refl _,by rw [List.length_nil,jG];omega⟩
 | z :: l,q,Q,h,ht,hz=>by
  have hz1:=hz z List.mem_cons_self
  obtain ⟨a,b⟩:=zls (z:=z) ht hz1.1 hz1.2
  obtain ⟨c,d,e⟩:=zfg l (zqY q z) Q h a (fun y hy=>hz y (List.mem_cons_of_mem _ hy))
  have hl:=zhI z
  have e1 : (zqY q z).o.length = q.o.length + (zgl z).length:=List.length_append
  have e2 : (zqY q z).t.xs.length = (keptL q.t.xs z).length:=rfl
  rw [List.length_cons]
  exact ⟨c,by omega,by omega⟩
theorem zfh (how : List Op4) : ∀ (l : List Fl) (i : Nat) (q Q : EQ), jH how l i q = Q → TOk q.t → q.t.xs.length + l.length ≤ 100000 → (∀ f ∈ l, f.n.size ≤ 1000 ∧ f.v.size ≤ 1000) → TOk Q.t ∧ Q.t.xs.length ≤ q.t.xs.length + l.length ∧ Q.o.length ≤ q.o.length + 8018 * l.length ∧ Q.t.m = q.t.m
 | [],i,q,Q,h,ht,hx,hz=>by subst h;exact ⟨ht,by rw [List.length_nil,jH];omega,by rw [List.length_nil,jH];omega,rfl⟩
 | f :: l,i,q,Q,h,ht,hx,hz=>by
  have hz1:=hz f List.mem_cons_self
  rw [List.length_cons] at hx
  obtain ⟨a,b,c⟩:=zek (t:=q.t) (n:=f.n) (v:=f.v) (k:=f.k) (w:=(zcQ how i).w) rfl ht (by omega) (by omega)
  have hr:=zej (R:=q.t.xs.reverse) (n:=f.n) (v:=f.v) (k:=f.k) (w:=(zcQ how i).w) (nn:=(zcQ how i).nn) (sn:=(zcQ how i).sn) (sv:=(zcQ how i).sv) rfl (by rw [List.length_reverse];omega) hz1.1 hz1.2
  have hl:=zhH hr
  have e1 : (zqZ q f (zcQ how i)).o.length = q.o.length + (rwB (zei q.t.xs.reverse f.n f.v f.k (zcQ how i).w (zcQ how i).nn (zcQ how i).sn (zcQ how i).sv)).length:=List.length_append
  have e2 : (zqZ q f (zcQ how i)).t = zdC q.t f.n f.v f.k (zcQ how i).w:=rfl
  obtain ⟨d,e,g,m⟩:=zfh how l (i + 1) (zqZ q f (zcQ how i)) Q h (by rw [e2];exact a) (by rw [e2];omega) (fun y hy=>hz y (List.mem_cons_of_mem _ hy))
  rw [e2] at e m
  rw [List.length_cons]
  exact ⟨d,by omega,by omega,by omega⟩
attribute [local irreducible] rpB
theorem zlt (k i : Int) (nm : ByteArray) (ns : Bool) (vl : ByteArray) (vs : Bool) (h : ztM ⟨k,i,nm,ns,vl,vs⟩) : AEq Tryz.prog 174 [.ag [i64 k,i64 i,.lit (.string nm),bl ns,.lit (.string vl),bl vs,i64 0]] [] (.tu [.sl false false ((rwB ⟨k,i,nm,ns,vl,vs⟩).map zf),i64 0]) []:=by
 have h2:=zhw k i (ofB nm) ns (ofB vl) vs 0 (by rw [zff];have:=h.2.1;dsimp only at this;omega) (by rw [zff];have:=h.2.2;dsimp only at this;omega) h.1
 rw [zlp,zlp] at h2
 exact h2
theorem zq1 (z : Int) (h1 : 0 ≤ z) (h2 : z ≤ 2147483647) : AEq Tryz.prog 174 [.ag [i64 5,i64 0,.lit (.string ⟨#[]⟩),bl false,.lit (.string ⟨#[]⟩),bl false,i64 z]] [] (.tu [.sl false false ((zgl z).map zf),i64 0]) []:=
 zhw 5 0 [] false [] false z (by decide) (by decide) ⟨by decide,by decide,⟨h1,h2⟩,.inl ⟨rfl,rfl,⟨rfl,rfl⟩,⟨rfl,rfl⟩⟩⟩
end Go.Proofs.YtdalcgfnlbofdaaGreatDoor
namespace Go.Proofs.YtdalcgfnlbofdaaGreatDoor
open Go Go.Lf Go.Proofs
attribute [local irreducible] Lf.rg Lf.ro Lf.PWp Lf.SOp Lf.ACall Lf.Scoped Lf.dg Lf.dw
set_option maxRecDepth 20000
set_option maxHeartbeats 4000000
structure ES where
 (i a : Nat) (q : EQ)
def zzq (l : List Int) (t0 : DT) (Q : EQ) (w : ES) : Prop:=w.i ≤ l.length ∧ jG (l.drop w.i) w.q = Q ∧ TOk w.q.t ∧ w.q.t.xs.length ≤ 30000 ∧ w.q.o.length ≤ 18 * w.i
def zzr (how : List Op4) (l : List Fl) (Q : EQ) (w : ES) : Prop:=w.i ≤ l.length ∧ jH how (l.drop w.i) w.i w.q = Q ∧ TOk w.q.t ∧ w.q.t.xs.length ≤ 30000 + w.i ∧ w.q.o.length ≤ 2000 + 8018 * w.i
theorem znd {l : List Int} {i : Nat} {z : Int} {q Q : EQ} (hz : l[i]? = some z) (h : jG (l.drop i) q = Q) : jG (l.drop (i + 1)) (zqY q z) = Q:=by
 rw [ki hz,jG] at h;exact h
theorem zq2 {l : List Int} {i : Nat} {q Q : EQ} (hi : ¬ i < l.length) (h : jG (l.drop i) q = Q) : q = Q:=by
 rw [List.drop_eq_nil_of_le (by omega)] at h;exact h
theorem zhK {how : List Op4} {l : List Fl} {i : Nat} {f : Fl} {o : Op4} {q Q : EQ} {r : Rw} {t : DT} (hf : l[i]? = some f) (ho : zcQ how i = o) (hr : zei q.t.xs.reverse f.n f.v f.k o.w o.nn o.sn o.sv = r) (ht : zdC q.t f.n f.v f.k o.w = t) (h : jH how (l.drop i) i q = Q) : jH how (l.drop (i + 1)) (i + 1) ⟨zgm q.o (rwB r),t⟩ = Q:=by
 rw [ki hf,jH,zqZ,ho,hr,ht] at h;exact h
theorem zq3 {how : List Op4} {l : List Fl} {i : Nat} {q Q : EQ} (hi : ¬ i < l.length) (h : jH how (l.drop i) i q = Q) : q = Q:=by
 rw [List.drop_eq_nil_of_le (by omega)] at h;exact h
theorem zne {α : Type} {l : List α} (h : l.length = 0) : l = []:=List.length_eq_zero_iff.1 h
theorem zcr (a b : List UInt8) : (zgm a b).length = a.length + b.length:=List.length_append
theorem zcs (a b : List UInt8) : a.map zf ++ b.map zf = (zgm a b).map zf:=by unfold zgm;rw [List.map_append]
theorem zke (i n : Nat) : Int.tmod (i : Int) (n : Int) = ((i % n : Nat) : Int):=by rw [Int.ofNat_tmod]
attribute [local irreducible] wt yn keptL flN addX kh xsE zf4 plB plI nmI zei zdC zqJ zoL rpB rwB zgl zgm jG jH op0
set_option maxRecDepth 20000 in
theorem zkf (f1 q1 f2 q2 f3 q3 : Bool) (sizes : List Int) (l : List Fl) (wy : List Op4) (hsl : sizes.length ≤ 100) (hll : l.length ≤ 100) (hol : wy.length ≤ 100000) (hlb : ∀ f ∈ l,f.n.size ≤ 1000 ∧ f.v.size ≤ 1000) (xs : List Fl) (s : Nat) (m : Int) (hx : xs.length ≤ 30000) (hS : yn xs ≤ m) (hm0 : 0 ≤ m) (hm1 : m ≤ 2147483647) (hbb : ∀ f ∈ xs,f.n.size ≤ 1000000 ∧ f.v.size ≤ 1000000) (hz : zhG sizes = false) (Q : EQ) (hQ : zlr sizes l wy ⟨xs,s,m⟩ = Q) : AEq Tryz.prog 131 [.ptr 0 0,.sl f1 q1 (sizes.map zgR),.sl f2 q2 (l.map flA),.sl f3 q3 (wy.map opA)] [.box [.ptr 1 0],.box [.row 2 s,i64 (yn xs),i64 m],.row s 103 3 (xs.map flA)] (.tu [.sl false false (Q.o.map zf),i64 0]) [.box [.ptr 1 0],.box [.row 2 Q.t.s,i64 (yn Q.t.xs),i64 Q.t.m],.row Q.t.s 103 3 (Q.t.xs.map flA)]:=by
 have hzz:=zeh hz
 obtain ⟨Q1,hQ1⟩ : ∃ Q1,jG sizes ⟨[],⟨xs,s,m⟩⟩ = Q1:=⟨_,rfl⟩
 have hQ2 : jH wy l 0 Q1 = Q:=by rw [← hQ1];exact hQ
 refine zc Tryz.func131 rfl Tryz.ntmps131 (by simp) (fun hsc=>?_);simp only [Lf.enter,Nat.reduceAdd];clear hsc
 have hU:=@hz
 repeat' (first|(guard_target =~ PWp _ _ _ _ _ _ _;first|(refine za (fun K hK=>?_))|(refine ya ?_)|(refine zn ?_)|(refine zE ?_)|((refine zb (fun hcd=>?_) (fun hcd=>?_))<;>(try simp only [hcP] at hcd)<;>(try exact cdT)))|(guard_target =~ rg _ _ _ _ _ _ _;first|(guard_target =~ rg _ _ _ [] _ _ _;first|(refine zS ?_))|(refine ks rfl (h:=?_))|(refine vV rfl (h:=?_))|(refine ka rfl ?_))|(guard_target =~ SOp _ _ _ _ _ _;first|(guard_target =~ SOp _ _ ⟨_,.call ⟨.value (.func 172),_,_⟩,_,_,_,none⟩ _ _ _;first|(refine zd (f:=172) rfl Tryz.call172 (h:=AEq.pure' agT (ztI _ _ _ (by omega)) (hq:=?_)))))|(refine hK _ _ ?_;clear hK K))
 refine vi 10 5 1 (by decide) (by rfl) rfl rfl ?_
 refine zbB [10,12,13,14,38,39,40,41,42,43,44,45,46,47,48,49,50,51,52,53,54,55,56,57] (fun w : ES=>[(38,i64 w.i),(10,.row 3 w.a)]) (fun w=>[.box [.ptr 1 0],.box [.row 2 w.q.t.s,i64 (yn w.q.t.xs),i64 w.q.t.m],.row w.q.t.s 103 3 (w.q.t.xs.map flA),.row w.a 5 1 (w.q.o.map zf)]) (zzq sizes ⟨xs,s,m⟩ Q1) (fun w=>sizes.length - w.i) ⟨0,0,⟨[],⟨xs,s,m⟩⟩⟩ ⟨Nat.zero_le _,hQ1,⟨hS,hm0,hm1,hbb⟩,hx,Nat.zero_le _⟩ ?_ (by first|rfl|(dsimp only;done)|(dsimp only;rfl)) ?_
 ·dsimp only
  have hU:=True.intro
  (refine ⟨⟨_,sT,?_⟩,⟨_,sT,?_⟩,trivial⟩<;>(try (first|exact zi)))
 ·rintro ⟨i, a, ⟨o, ⟨xt, st, mt⟩⟩⟩ ⟨hi, hk, hok, hxn, hon⟩
  dsimp only at hi hk hxn hon ⊢
  have hok2:=hok
  obtain ⟨hSt,hmt0,hmt1,hbt⟩:=hok2
  dsimp only at hSt hmt0 hmt1 hbt
  simp only [vf,List.map_cons,List.map_nil,List.cons_append,List.nil_append]
  by_cases hlt : i < sizes.length
  ·obtain ⟨z, hzi⟩ := vS hlt
   have hzb:=hzz z (List.mem_of_getElem? hzi)
   obtain ⟨hz0,hz1⟩:=hzb
   obtain ⟨hk1,hk2⟩:=zls (z:=z) hok hz0 hz1
   dsimp only at hk2
   have hln:=zhI z
   have hcl:=zcr o (zgl z)
   have hap:=zcs o (zgl z)
   have hSt2 : yn xt ≤ 2147483647:=by omega
   have hbg : ∀ f ∈ xt,f.n.size ≤ 1000000000 ∧ f.v.size ≤ 1000000000:=fun f hf=>by have:=hbt f hf;omega
   have hU:=@hap
   repeat' (first|(guard_target =~ PWp _ _ _ _ _ _ _;first|(refine za (fun K hK=>?_))|(refine ya ?_)|(refine zn ?_)|(refine zaa ?_)|(refine zE ?_)|((refine zb (fun hcd=>?_) (fun hcd=>?_))<;>(try simp only [hcP] at hcd)<;>(try exact cdT)))|(guard_target =~ rg _ _ _ _ _ _ _;first|(guard_target =~ rg _ _ _ [] _ _ _;first|(refine zS ?_))|(refine ks rfl (h:=?_))|(refine zaJ rfl (hy:=rfl) (h:=?_))|(refine vV rfl (h:=?_))|(refine ka rfl ?_))|(guard_target =~ SOp _ _ _ _ _ _;first|(guard_target =~ SOp _ _ ⟨_,.indexAddr _ _ _,_,_,_,none⟩ _ _ _;first|(refine vh rfl (hK:=?_)))|(guard_target =~ SOp _ _ ⟨_,.call ⟨.value (.func 174),_,_⟩,_,_,_,none⟩ _ _ _;first|(refine zd (f:=174) rfl Tryz.call174 (h:=AEq.pure' agT (zq1 _ aoT aoT) (hq:=?_))))|(guard_target =~ SOp _ _ ⟨_,.call ⟨.builtin .append,_,_⟩,_,_,_,none⟩ _ _ _;first|(refine zo rfl (he:=by first|exact eo3|exact eo4|exact eo5|exact eo9|exact zsm|exact jz|exact jA|exact zjy|exact zjA|exact zjC|exact zjE|exact zjF|exact zjG|exact zjI|exact zjK|exact zca|exact zcb|fail) (hK:=?_)))|(guard_target =~ SOp _ _ ⟨_,.build _ _,_,_,_,none⟩ _ _ _;first|(refine zX rfl (by first|exact zb9|exact zfP|exact zjJ|exact zde|exact zjL|exact zjM|fail) (hK:=?_)))|(guard_target =~ SOp _ _ ⟨_,.call ⟨.value (.func 175),_,_⟩,_,_,_,none⟩ _ _ _;first|(refine zd (f:=175) rfl Tryz.call175 (h:=AEq.sub' [_,_] (hc:=ztG _ _ _ _ aoT aoT aoT aoT aoT) (hq:=?_)))))|(refine hK _ _ ?_;clear hK K))
   refine ⟨⟨i + 1,a + 1,⟨zgm o (zgl z),⟨keptL xt z,st + 1,z⟩⟩⟩,[0,1,2,3],⟨by dsimp only;omega,znd hzi hk,hk1,by dsimp only;omega,by dsimp only;omega⟩,by dsimp only;omega,rfl,?_,(by repeat' (first|exact kg|refine zat (by rfl) ?_)),?_⟩
   ·dsimp only
    have hU:=True.intro
    (refine ⟨⟨_,sT,?_⟩,⟨_,sT,?_⟩,trivial⟩<;>(try (first|exact zi)))
   ·dsimp only
    first|rfl|(simp (disch:=omega) only [go_sem,seval,↓reduceIte];done)|(simp (disch:=omega) only [go_sem,seval,↓reduceIte];rfl)|trace_state
  obtain rfl:=zq2 hlt hk
  have hU:=True.intro
  repeat' (first|(guard_target =~ PWp _ _ _ _ _ _ _;first|(refine za (fun K hK=>?_))|(refine ya ?_)|(refine zn ?_)|(refine zao ?_)|((refine zb (fun hcd=>?_) (fun hcd=>?_))<;>(try simp only [hcP] at hcd)<;>(try exact cdT)))|(guard_target =~ rg _ _ _ _ _ _ _;first|(guard_target =~ rg _ _ _ [] _ _ _;first|(refine zS ?_))|(refine vV rfl (h:=?_)))|(refine hK _ _ ?_;clear hK K)|(apply_assumption (exfalso:=false) (symm:=false)))
  refine zbB [10,15,16,17,18,19,60,61,62,63,64,65,66,67,68,69,70,71,72,73,74,75,76,77,78,79,80,81,82,83,84,85,86,87,88,89] (fun w : ES=>[(60,i64 w.i),(10,.row 3 w.a)]) (fun w=>[.box [.ptr 1 0],.box [.row 2 w.q.t.s,i64 (yn w.q.t.xs),i64 w.q.t.m],.row w.q.t.s 103 3 (w.q.t.xs.map flA),.row w.a 5 1 (w.q.o.map zf)]) (zzr wy l Q) (fun w=>l.length - w.i) ⟨0,a,⟨o,⟨xt,st,mt⟩⟩⟩ ⟨Nat.zero_le _,hQ2,hok,by dsimp only;omega,by dsimp only;omega⟩ ?_ (by first|rfl|(dsimp only;done)|(dsimp only;rfl)) ?_
  ·dsimp only
   (refine ⟨⟨_,sT,?_⟩,⟨_,sT,?_⟩,trivial⟩<;>(try (first|exact zi)))
  ·clear hi hk hxn hon hok hSt hmt0 hmt1 hbt hlt hQ1 hQ2
   rintro ⟨i,a,⟨o,⟨xt,st,mt⟩⟩⟩ ⟨hi,hk,hok,hxn,hon⟩
   dsimp only at hi hk hxn hon ⊢
   have hok2:=hok
   obtain ⟨hSt,hmt0,hmt1,hbt⟩:=hok2
   dsimp only at hSt hmt0 hmt1 hbt
   simp only [vf,List.map_cons,List.map_nil,List.cons_append,List.nil_append]
   by_cases hlt : i < l.length
   ·obtain ⟨⟨fn, fv, fk⟩, hfi⟩ := vS hlt
    have hfb:=hlb _ (List.mem_of_getElem? hfi)
    dsimp only at hfb
    obtain ⟨hfb1,hfb2⟩:=hfb
    have hfc1 : fn.size ≤ 1000000:=by omega
    have hfc2 : fv.size ≤ 1000000:=by omega
    have hSt2 : yn xt ≤ 2147483647:=by omega
    have hxt9 : xt.length ≤ 90000:=by omega
    have hrl : xt.reverse.length = xt.length:=List.length_reverse
    by_cases hh : wy.length = 0
    ·obtain rfl := zne hh
     obtain ⟨⟨rk,ri,rn,rns,rv,rvs⟩,hr⟩ : ∃ r,zei xt.reverse fn fv fk 0 false false false = r:=⟨_,rfl⟩
     obtain ⟨⟨xt',st',mt'⟩,ht⟩ : ∃ t,zdC ⟨xt,st,mt⟩ fn fv fk 0 = t:=⟨_,rfl⟩
     have hrw:=zej hr (by omega) hfb1 hfb2
     obtain ⟨ht1,ht2,ht3⟩:=zek ht hok hfc1 hfc2
     dsimp only at ht2 ht3
     have hln:=zhH hrw
     have hcl:=zcr o (rwB ⟨rk,ri,rn,rns,rv,rvs⟩)
     have hap:=zcs o (rwB ⟨rk,ri,rn,rns,rv,rvs⟩)
     have hU:=@hap
     repeat' (first|(guard_target =~ PWp _ _ _ _ _ _ _;first|(refine zp (id:=21) [0,1,2,3,4,5,6,7,8,9,10,11,12] [6] mixed (by kernel_rfl) (by kernel_rfl) ?_)|(refine za (fun K hK=>?_))|(refine ya ?_)|(refine zn ?_)|(refine zaa ?_)|(refine zE ?_)|((refine zb (fun hcd=>?_) (fun hcd=>?_))<;>(try simp only [hcP] at hcd)<;>(try exact cdT)))|(guard_target =~ rg _ _ _ _ _ _ _;first|(guard_target =~ rg _ _ _ [] _ _ _;first|(refine zS ?_))|(refine ks rfl (h:=?_))|(refine vV rfl (h:=?_))|(refine ka rfl ?_)|(refine zdL rfl ?_))|(guard_target =~ SOp _ _ _ _ _ _;first|(guard_target =~ SOp _ _ ⟨_,.indexAddr _ _ _,_,_,_,none⟩ _ _ _;first|(refine vh rfl (hK:=?_)))|(guard_target =~ SOp _ _ ⟨_,.store _ _ _,_,_,_,none⟩ _ _ _;first|(refine z6 rfl (hK:=?_)))|(guard_target =~ SOp _ _ ⟨_,.call ⟨.builtin .append,_,_⟩,_,_,_,none⟩ _ _ _;first|(refine zo rfl (he:=by first|exact eo3|exact eo4|exact eo5|exact eo9|exact zsm|exact jz|exact jA|exact zjy|exact zjA|exact zjC|exact zjE|exact zjF|exact zjG|exact zjI|exact zjK|exact zca|exact zcb|fail) (hK:=?_)))|(guard_target =~ SOp _ _ ⟨_,.alloc _,_,_,_,none⟩ _ _ _;first|(refine yM rfl (by first|exact zv3|exact zv4|exact zv5|exact zv9|exact zmx|exact zg4|exact ziQ|exact zdd|exact zjz|exact zjB|exact zjD|exact zdY|exact zdZ|exact zjH|exact zd0|exact zd1|exact zd2|fail) (hK:=?_))))|(guard_target =~ dw _ _ _ _ _ _ _ _ _ _;first|((first|guard_target =~ dw _ _ _ _ _ (0 :: _) _ _ _ _|guard_target =~ dw _ _ _ _ _ (8 :: _) _ _ _ _);first|(refine z9 rfl rfl (h:=(fun τ=>zR rfl (h:=ze ⟨rfl,rfl⟩))) (hk:=?_))|(refine vX rfl rfl (h:=zR rfl (h:=ze ⟨rfl,rfl⟩)) (hk:=?_)))|(guard_target =~ dw _ _ _ _ _ (1 :: _) _ _ _ _;first|(refine z9 rfl rfl (h:=(fun τ=>zR rfl (h:=ze ⟨rfl,rfl⟩))) (hk:=?_))|(refine vX rfl rfl (h:=zR rfl (h:=ze ⟨rfl,rfl⟩)) (hk:=?_)))|(guard_target =~ dw _ _ _ _ _ (2 :: _) _ _ _ _;first|(refine z9 rfl rfl (h:=(fun τ=>zR rfl (h:=ze ⟨rfl,rfl⟩))) (hk:=?_))|(refine vX rfl rfl (h:=zR rfl (h:=ze ⟨rfl,rfl⟩)) (hk:=?_)))|((first|guard_target =~ dw _ _ _ _ _ (3 :: _) _ _ _ _|guard_target =~ dw _ _ _ _ _ (4 :: _) _ _ _ _|guard_target =~ dw _ _ _ _ _ (5 :: _) _ _ _ _);first|(refine z9 rfl rfl (h:=(fun τ=>zR rfl (h:=ze ⟨rfl,rfl⟩))) (hk:=?_))|(refine vX rfl rfl (h:=zR rfl (h:=ze ⟨rfl,rfl⟩)) (hk:=?_)))|(guard_target =~ dw _ _ _ _ _ (6 :: _) _ _ _ _;first|(refine zaV rfl rfl (h:=yj (h:=zd (f:=176) rfl Tryz.call176 (h:=AEq.sub' [_,_] (hc:=zlo _ _ _ _ _ _ _ _ _ _ (by assumption) (by assumption) (by assumption) (by assumption) (by assumption) (by assumption) (by assumption) _ _ (by assumption) (by assumption)) (hq:=ze ⟨rfl,rfl⟩)))) (hk:=?_)))|(guard_target =~ dw _ _ _ _ _ (7 :: _) _ _ _ _;first|(refine z9 rfl rfl (h:=(fun τ=>yj (h:=zd (f:=174) rfl Tryz.call174 (h:=AEq.pure' agT (zlt _ _ _ _ _ _ (by assumption)) (hq:=ze ⟨rfl,rfl⟩))))) (hk:=?_)))|((first|guard_target =~ dw _ _ _ _ _ (9 :: _) _ _ _ _|guard_target =~ dw _ _ _ _ _ (10 :: _) _ _ _ _);first|(refine z9 rfl rfl (h:=(fun τ=>zgj rfl (h:=ze ⟨rfl,rfl⟩))) (hk:=?_)))|((first|guard_target =~ dw _ _ _ _ _ (11 :: _) _ _ _ _|guard_target =~ dw _ _ _ _ _ (12 :: _) _ _ _ _);first|(refine z9 rfl rfl (h:=(fun τ=>zdz rfl (h:=ze ⟨rfl,rfl⟩))) (hk:=?_)))|(guard_target =~ dw _ _ _ _ _ [] _ _ _ _;first|(refine vo ?_)))|(refine hK _ _ ?_;clear hK K))
     refine ⟨⟨i + 1,a + 1,⟨zgm o (rwB ⟨rk,ri,rn,rns,rv,rvs⟩),⟨xt',st',mt'⟩⟩⟩,[0,1,2,3],⟨by dsimp only;omega,zhK (how:=[]) (o:=⟨0,false,false,false⟩) hfi zq0 hr ht hk,ht1,by dsimp only;omega,by dsimp only;omega⟩,by dsimp only;omega,rfl,?_,(by repeat' (first|exact kg|refine zat (by rfl) ?_)),?_⟩
     ·dsimp only
      have hU:=True.intro
      (refine ⟨⟨_,sT,?_⟩,⟨_,sT,?_⟩,trivial⟩<;>(try (first|exact zi)))
     ·dsimp only
      first|rfl|(simp (disch:=omega) only [go_sem,seval,↓reduceIte];done)|(simp (disch:=omega) only [go_sem,seval,↓reduceIte];rfl)|trace_state
    ·have hlm : i % wy.length < wy.length := Nat.mod_lt _ (by omega)
     obtain ⟨⟨ow,o1,o2,o3⟩,ho⟩:=vS hlm
     have hom:=zke i wy.length
     obtain ⟨⟨rk,ri,rn,rns,rv,rvs⟩,hr⟩ : ∃ r,zei xt.reverse fn fv fk ow o1 o2 o3 = r:=⟨_,rfl⟩
     obtain ⟨⟨xt',st',mt'⟩,ht⟩ : ∃ t,zdC ⟨xt,st,mt⟩ fn fv fk ow = t:=⟨_,rfl⟩
     have hrw:=zej hr (by omega) hfb1 hfb2
     obtain ⟨ht1,ht2,ht3⟩:=zek ht hok hfc1 hfc2
     dsimp only at ht2 ht3
     have hln:=zhH hrw
     have hcl:=zcr o (rwB ⟨rk,ri,rn,rns,rv,rvs⟩)
     have hap:=zcs o (rwB ⟨rk,ri,rn,rns,rv,rvs⟩)
     have hU:=And.intro @hap (@hom)
     repeat' (first|(guard_target =~ PWp _ _ _ _ _ _ _;first|(refine zp (id:=21) [0,1,2,3,4,5,6,7,8,9,10,11,12] [6] mixed (by kernel_rfl) (by kernel_rfl) ?_)|(refine za (fun K hK=>?_))|(refine ya ?_)|(refine zn ?_)|(refine zaa ?_)|(refine zE ?_)|((refine zb (fun hcd=>?_) (fun hcd=>?_))<;>(try simp only [hcP] at hcd)<;>(try exact cdT)))|(guard_target =~ rg _ _ _ _ _ _ _;first|(guard_target =~ rg _ _ _ [] _ _ _;first|(refine zS ?_))|(refine ks rfl (h:=?_))|(refine vV rfl (h:=?_))|(refine ka rfl ?_)|(refine zdL rfl ?_))|(guard_target =~ SOp _ _ _ _ _ _;first|(guard_target =~ SOp _ _ ⟨_,.indexAddr _ _ _,_,_,_,none⟩ _ _ _;first|(refine vh rfl (hK:=?_)))|(guard_target =~ SOp _ _ ⟨_,.store _ _ _,_,_,_,none⟩ _ _ _;first|(refine z6 rfl (hK:=?_)))|(guard_target =~ SOp _ _ ⟨_,.call ⟨.builtin .append,_,_⟩,_,_,_,none⟩ _ _ _;first|(refine zo rfl (he:=by first|exact eo3|exact eo4|exact eo5|exact eo9|exact zsm|exact jz|exact jA|exact zjy|exact zjA|exact zjC|exact zjE|exact zjF|exact zjG|exact zjI|exact zjK|exact zca|exact zcb|fail) (hK:=?_)))|(guard_target =~ SOp _ _ ⟨_,.alloc _,_,_,_,none⟩ _ _ _;first|(refine yM rfl (by first|exact zv3|exact zv4|exact zv5|exact zv9|exact zmx|exact zg4|exact ziQ|exact zdd|exact zjz|exact zjB|exact zjD|exact zdY|exact zdZ|exact zjH|exact zd0|exact zd1|exact zd2|fail) (hK:=?_))))|(guard_target =~ dw _ _ _ _ _ _ _ _ _ _;first|((first|guard_target =~ dw _ _ _ _ _ (0 :: _) _ _ _ _|guard_target =~ dw _ _ _ _ _ (8 :: _) _ _ _ _);first|(refine z9 rfl rfl (h:=(fun τ=>zR rfl (h:=ze ⟨rfl,rfl⟩))) (hk:=?_))|(refine vX rfl rfl (h:=zR rfl (h:=ze ⟨rfl,rfl⟩)) (hk:=?_)))|(guard_target =~ dw _ _ _ _ _ (1 :: _) _ _ _ _;first|(refine z9 rfl rfl (h:=(fun τ=>zR rfl (h:=ze ⟨rfl,rfl⟩))) (hk:=?_))|(refine vX rfl rfl (h:=zR rfl (h:=ze ⟨rfl,rfl⟩)) (hk:=?_)))|(guard_target =~ dw _ _ _ _ _ (2 :: _) _ _ _ _;first|(refine z9 rfl rfl (h:=(fun τ=>zR rfl (h:=ze ⟨rfl,rfl⟩))) (hk:=?_))|(refine vX rfl rfl (h:=zR rfl (h:=ze ⟨rfl,rfl⟩)) (hk:=?_)))|((first|guard_target =~ dw _ _ _ _ _ (3 :: _) _ _ _ _|guard_target =~ dw _ _ _ _ _ (4 :: _) _ _ _ _|guard_target =~ dw _ _ _ _ _ (5 :: _) _ _ _ _);first|(refine z9 rfl rfl (h:=(fun τ=>zR rfl (h:=ze ⟨rfl,rfl⟩))) (hk:=?_))|(refine vX rfl rfl (h:=zR rfl (h:=ze ⟨rfl,rfl⟩)) (hk:=?_)))|(guard_target =~ dw _ _ _ _ _ (6 :: _) _ _ _ _;first|(refine zaV rfl rfl (h:=yj (h:=zd (f:=176) rfl Tryz.call176 (h:=AEq.sub' [_,_] (hc:=zlo _ _ _ _ _ _ _ _ _ _ (by assumption) (by assumption) (by assumption) (by assumption) (by assumption) (by assumption) (by assumption) _ _ (by assumption) (by assumption)) (hq:=ze ⟨rfl,rfl⟩)))) (hk:=?_)))|(guard_target =~ dw _ _ _ _ _ (7 :: _) _ _ _ _;first|(refine z9 rfl rfl (h:=(fun τ=>yj (h:=zd (f:=174) rfl Tryz.call174 (h:=AEq.pure' agT (zlt _ _ _ _ _ _ (by assumption)) (hq:=ze ⟨rfl,rfl⟩))))) (hk:=?_)))|((first|guard_target =~ dw _ _ _ _ _ (9 :: _) _ _ _ _|guard_target =~ dw _ _ _ _ _ (10 :: _) _ _ _ _);first|(refine z9 rfl rfl (h:=(fun τ=>zgj rfl (h:=ze ⟨rfl,rfl⟩))) (hk:=?_)))|((first|guard_target =~ dw _ _ _ _ _ (11 :: _) _ _ _ _|guard_target =~ dw _ _ _ _ _ (12 :: _) _ _ _ _);first|(refine z9 rfl rfl (h:=(fun τ=>zdz rfl (h:=ze ⟨rfl,rfl⟩))) (hk:=?_)))|(guard_target =~ dw _ _ _ _ _ [] _ _ _ _;first|(refine vo ?_)))|(refine hK _ _ ?_;clear hK K))
     refine ⟨⟨i + 1,a + 1,⟨zgm o (rwB ⟨rk,ri,rn,rns,rv,rvs⟩),⟨xt',st',mt'⟩⟩⟩,[0,1,2,3],⟨by dsimp only;omega,zhK (o:=⟨ow,o1,o2,o3⟩) hfi (zhJ ho) hr ht hk,ht1,by dsimp only;omega,by dsimp only;omega⟩,by dsimp only;omega,rfl,?_,(by repeat' (first|exact kg|refine zat (by rfl) ?_)),?_⟩
     ·dsimp only
      have hU:=True.intro
      (refine ⟨⟨_,sT,?_⟩,⟨_,sT,?_⟩,trivial⟩<;>(try (first|exact zi)))
     ·dsimp only
      first|rfl|(simp (disch:=omega) only [go_sem,seval,↓reduceIte];done)|(simp (disch:=omega) only [go_sem,seval,↓reduceIte];rfl)|trace_state
   obtain rfl:=zq3 hlt hk
   try dsimp only
   repeat' (first|(guard_target =~ PWp _ _ _ _ _ _ _;first|(refine za (fun K hK=>?_))|(refine zn ?_)|(refine zJ ?_)|(refine zao ?_)|((refine zb (fun hcd=>?_) (fun hcd=>?_))<;>(try simp only [hcP] at hcd)<;>(try exact cdT)))|(guard_target =~ rg _ _ _ _ _ _ _;first|(guard_target =~ rg _ _ _ [] _ _ _;first|(refine zS ?_))|(refine ks rfl (h:=?_))|(refine vV rfl (h:=?_)))|(guard_target =~ (_ ∨ _) ∧ _;first|((refine zh [0,1,2] (by rw [Tryz.results131,Lf.yE]) (zA ?_ ?_) ?_)<;>(try (first|exact zi|exact stq (by with_reducible rfl)|exact stq (by rfl)|exact stq (by simp (disch:=omega) only [go_sem,seval,↓reduceIte,hU])))))|(refine hK _ _ ?_;clear hK K)|(apply_assumption (exfalso:=false) (symm:=false)))
end Go.Proofs.YtdalcgfnlbofdaaGreatDoor
namespace Go.Proofs.YtdalcgfnlbofdaaGreatDoor
open Go Go.Lf Go.Proofs
attribute [local irreducible] Lf.rg Lf.ro Lf.PWp Lf.SOp Lf.ACall Lf.Scoped Lf.dg Lf.dw
set_option maxRecDepth 20000
set_option maxHeartbeats 4000000
attribute [local irreducible] wt yn keptL flN addX kh xsE zf4 plB plI nmI zei zdC zqJ zoL rpB rwB zgl zgm jG jH op0
end Go.Proofs.YtdalcgfnlbofdaaGreatDoor
namespace Go.Proofs.YtdalcgfnlbofdaaGreatDoor
open Go Go.Lf Go.Proofs
attribute [local irreducible] Lf.rg Lf.ro Lf.PWp Lf.SOp Lf.ACall Lf.Scoped Lf.dg Lf.dw
set_option maxRecDepth 20000
set_option maxHeartbeats 4000000
attribute [local irreducible] wt yn keptL flN addX kh xsE zf4 plB plI nmI zei zdC zqJ zoL rpB rwB zgl zgm jG jH op0
end Go.Proofs.YtdalcgfnlbofdaaGreatDoor
namespace Go.Proofs.YtdalcgfnlbofdaaGreatDoor
open Go Go.Lf Go.Proofs
attribute [local irreducible] Lf.rg Lf.ro Lf.PWp Lf.SOp Lf.ACall Lf.Scoped Lf.dg Lf.dw
set_option maxRecDepth 20000
set_option maxHeartbeats 4000000
structure WBk where
 (z : List Int) (l : List Fl) (h : List Op4)
@[go_sem] def ekA (b : WBk) : List AV:=[.sl false false (b.z.map zgR),.sl false false (b.l.map flA),.sl false false (b.h.map opA)]
@[go_sem] theorem ztO (l : List WBk) : vn (l.map ekA).flatten = true:=yd (fun a=>by simp [ekA,vn,pur]) l
@[go_sem] theorem zst {κ : List Nat} {σ : Sto} (l : List WBk) : List.map (fzl κ σ) (l.map ekA) = l.map ekA:=vG (fun _=>rfl) l
@[go_sem] theorem ztP (l : List Op4) : vn (l.map opA).flatten = true:=yd (fun _=>rfl) l
@[go_sem] theorem zsu {κ : List Nat} {σ : Sto} (l : List Op4) : List.map (fzl κ σ) (l.map opA) = l.map opA:=vG (fun _=>rfl) l
theorem znf (m : Int) (h : 0 ≤ m) (h2 : m ≤ 2147483647) : AEq Tryz.prog 68 [i64 m] [] (.tu [.ptr 2 0,i64 0]) [.box [.row 1 0,i64 (yn xsE),i64 m],.row 0 103 3 (xsE.map flA),.box [.ptr 0 0]]:=by
 refine zc Tryz.func68 rfl Tryz.ntmps68 (by simp) (fun hsc=>?_);simp only [Lf.enter,Nat.reduceAdd];clear hsc
 have hU:=True.intro
 repeat' (first|(guard_target =~ PWp _ _ _ _ _ _ _;first|(refine za (fun K hK=>?_))|(refine zn ?_)|(refine zJ ?_)|(refine zE ?_)|((refine zb (fun hcd=>?_) (fun hcd=>?_))<;>(try simp only [hcP] at hcd)<;>(try exact cdT)))|(guard_target =~ rg _ _ _ _ _ _ _;first|(guard_target =~ rg _ _ _ [] _ _ _;first|(refine zS ?_))|(refine ks rfl (h:=?_))|(refine zaJ rfl (hy:=rfl) (h:=?_))|(refine vV rfl (h:=?_))|(refine ka rfl ?_))|(guard_target =~ SOp _ _ _ _ _ _;first|(guard_target =~ SOp _ _ ⟨_,.box _ _,_,_,_,none⟩ _ _ _;first|(refine y7 rfl (hK:=?_)))|(guard_target =~ SOp _ _ ⟨_,.build _ _,_,_,_,none⟩ _ _ _;first|(refine zX rfl (by first|exact zb9|exact zjJ|exact zde|fail) (hK:=?_)))|(guard_target =~ SOp _ _ ⟨_,.call ⟨.value (.func 101),_,_⟩,_,_,_,none⟩ _ _ _;first|(refine zd (f:=101) rfl Tryz.call101 (h:=AEq.sub' [] (hc:=zm2 _ (by assumption) (by assumption)) (hq:=?_)))))|(guard_target =~ (_ ∨ _) ∧ _;first|((refine zh [0,1,2] (by rw [Tryz.results68,Lf.yE]) (zA ?_ ?_) ?_)<;>(try (first|exact zi|exact stq (by with_reducible rfl)|exact stq (by rfl)|exact stq (by simp (disch:=omega) only [go_sem,seval,↓reduceIte,hU])))))|(refine hK _ _ ?_;clear hK K))
theorem zq4 {m : Int} (h : 0 ≤ m) (h2 : m ≤ 2147483647) : TOk ⟨xsE,0,m⟩:=⟨h,h,h2,zfd⟩
theorem zng {z : List Int} {l : List Fl} {how : List Op4} {t : DT} {Q : EQ} (h : zlr z l how t = Q) (ht : TOk t) (hx : t.xs.length ≤ 30000) (hz : zhG z = false) (hzl : z.length ≤ 100) (hll : l.length ≤ 100) (hlb : ∀ f ∈ l,f.n.size ≤ 1000 ∧ f.v.size ≤ 1000) : TOk Q.t ∧ Q.t.xs.length ≤ t.xs.length + l.length ∧ Q.o.length ≤ 1800 + 8018 * l.length:=by
 unfold zlr at h
 obtain ⟨Q1,hQ1⟩ : ∃ Q1,jG z ⟨[],t⟩ = Q1:=⟨_,rfl⟩
 rw [hQ1] at h
 obtain ⟨a,b,c⟩:=zfg z ⟨[],t⟩ Q1 hQ1 ht (zeh hz)
 dsimp only at b c
 rw [List.length_nil] at c
 obtain ⟨d,e,f,_⟩:=zfh how l 0 Q1 Q h a (by omega) hlb
 exact ⟨d,by omega,by omega⟩
theorem zq5 (f1 q1 f2 q2 f3 q3 : Bool) (sizes : List Int) (l : List Fl) (wy : List Op4) (hsl : sizes.length ≤ 100) (hll : l.length ≤ 100) (hol : wy.length ≤ 100000) (hlb : ∀ f ∈ l,f.n.size ≤ 1000 ∧ f.v.size ≤ 1000) (xs : List Fl) (s : Nat) (m : Int) (hx : xs.length ≤ 30000) (hok : TOk ⟨xs,s,m⟩) (hz : zhG sizes = false) (o : List UInt8) (xt : List Fl) (st : Nat) (mt : Int) (hQ : zlr sizes l wy ⟨xs,s,m⟩ = ⟨o,⟨xt,st,mt⟩⟩) : AEq Tryz.prog 131 [.ptr 0 0,.sl f1 q1 (sizes.map zgR),.sl f2 q2 (l.map flA),.sl f3 q3 (wy.map opA)] [.box [.ptr 1 0],.box [.row 2 s,i64 (yn xs),i64 m],.row s 103 3 (xs.map flA)] (.tu [.sl false false (o.map zf),i64 0]) [.box [.ptr 1 0],.box [.row 2 st,i64 (yn xt),i64 mt],.row st 103 3 (xt.map flA)]:=
 zkf f1 q1 f2 q2 f3 q3 sizes l wy hsl hll hol hlb xs s m hx hok.1 hok.2.1 hok.2.2.1 hok.2.2.2 hz _ hQ
end Go.Proofs.YtdalcgfnlbofdaaGreatDoor
