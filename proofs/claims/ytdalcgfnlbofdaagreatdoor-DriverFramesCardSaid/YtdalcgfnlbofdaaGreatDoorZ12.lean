import Derived.Test.YtdalcgfnlbofdaaGreatDoorTg
import Derived.Test.YtdalcgfnlbofdaaGreatDoorZ11
import Derived.Test.YtdalcgfnlbofdaaGreatDoorLc
import Derived.Test.YtdalcgfnlbofdaaGreatDoorZ07
set_option linter.unusedVariables false
set_option linter.unusedSimpArgs false
namespace Go.Proofs.YtdalcgfnlbofdaaGreatDoor
open Go Go.Lf Go.Proofs
attribute [local irreducible] Lf.rg Lf.ro Lf.PWp Lf.SOp Lf.ACall Lf.Scoped Lf.dg Lf.dw
set_option maxRecDepth 20000
set_option maxHeartbeats 4000000
structure Rw where
 (k i : Int) (nm : ByteArray) (ns : Bool) (vl : ByteArray) (vs : Bool)
def whl (R : List Fl) (n v : ByteArray) (k : Bool) (w : Int) : Bool:=plB R n v && !k && decide (w ≠ 1) && decide (w ≠ 2)
def zcy (R : List Fl) (n v : ByteArray) (k : Bool) (w : Int) (nn sn sv : Bool) : Rw:=if whl R n v k w = true then ⟨1,plI R n v,⟨#[]⟩,false,⟨#[]⟩,false⟩ else if nn = false ∧ nmI R n ≠ 0 then ⟨kdI k w,nmI R n,⟨#[]⟩,false,v,sv⟩ else ⟨kdI k w,0,n,sn,v,sv⟩
def zbO (t : DT) (n v : ByteArray) (k : Bool) (w : Int) : DT:=if whl t.xs.reverse n v k w = true then t else if kdI k w = 2 then zgd t ⟨n,v,k⟩ else t
theorem zh6 {R : List Fl} {n v : ByteArray} {k : Bool} {w : Int} {nn sn sv : Bool} (h : whl R n v k w = true) : zcy R n v k w nn sn sv = ⟨1,plI R n v,⟨#[]⟩,false,⟨#[]⟩,false⟩:=if_pos h
theorem zl1 {t : DT} {n v : ByteArray} {k : Bool} {w : Int} (h : whl t.xs.reverse n v k w = true) : zbO t n v k w = t:=if_pos h
theorem zh7 {R : List Fl} {n v : ByteArray} {k : Bool} {w : Int} {nn sn sv : Bool} {r : Rw} (h : whl R n v k w = false) (hr : zcy R n v k w nn sn sv = r) : (nn = true ∧ r = ⟨kdI k w,0,n,sn,v,sv⟩) ∨ (nn = false ∧ nmI R n = 0 ∧ r = ⟨kdI k w,0,n,sn,v,sv⟩) ∨ (nn = false ∧ nmI R n ≠ 0 ∧ r = ⟨kdI k w,nmI R n,⟨#[]⟩,false,v,sv⟩):=by
 unfold zcy at hr
 rw [if_neg (by simp [h])] at hr
 cases nn with
 | true=>rw [if_neg (by simp)] at hr;exact .inl ⟨rfl,hr.symm⟩
 | false=>
  by_cases h0 : nmI R n = 0
  ·rw [if_neg (by simp [h0])] at hr;exact .inr (.inl ⟨rfl,h0,hr.symm⟩)
  ·rw [if_pos ⟨rfl,h0⟩] at hr;exact .inr (.inr ⟨rfl,h0,hr.symm⟩)
theorem zl2 {xs : List Fl} {s : Nat} {m : Int} {n v : ByteArray} {k : Bool} {w : Int} {t : DT} (h : whl xs.reverse n v k w = false) (ht : zbO ⟨xs,s,m⟩ n v k w = t) : (kdI k w = 2 ∧ k = false ∧ wt ⟨n,v,k⟩ ≤ m ∧ t = ⟨addX xs m ⟨n,v,k⟩,s + 2,m⟩) ∨ (kdI k w = 2 ∧ k = false ∧ m < wt ⟨n,v,k⟩ ∧ t = ⟨xsE,s + 1,m⟩) ∨ (kdI k w ≠ 2 ∧ t = ⟨xs,s,m⟩):=by
 unfold zbO at ht
 dsimp only at ht
 rw [if_neg (by simp [h])] at ht
 have hk : kdI k w = 2 → k = false:=by unfold kdI;cases k<;>simp
 by_cases h2 : kdI k w = 2
 ·rw [if_pos h2] at ht
  unfold zgd at ht
  dsimp only at ht
  split at ht
  ·exact .inl ⟨h2,hk h2,by assumption,ht.symm⟩
  ·exact .inr (.inl ⟨h2,hk h2,by omega,ht.symm⟩)
 ·rw [if_neg h2] at ht
  exact .inr (.inr ⟨h2,ht.symm⟩)
theorem zn8 {R : List Fl} {n v : ByteArray} {k : Bool} {w : Int} (h : whl R n v k w = true) : plB R n v = true ∧ k = false ∧ w ≠ 1 ∧ w ≠ 2:=by
 unfold whl at h
 simp only [Bool.and_eq_true,Bool.not_eq_true',decide_eq_true_eq] at h
 exact ⟨h.1.1.1,h.1.1.2,h.1.2,h.2⟩
theorem zrD {R : List Fl} {n v : ByteArray} {k : Bool} {w : Int} (h : whl R n v k w = false) : ¬ (((plB R n v = true ∧ k = false) ∧ ¬ w = 1) ∧ ¬ w = 2):=by
 rintro ⟨⟨⟨a,b⟩,c⟩,d⟩
 simp [whl,a,b,c,d] at h
theorem zrE (R : List Fl) (s : ByteArray) : 0 ≤ nmI R s ∧ nmI R s ≤ 61 + R.length:=by
 have a:=zrA s
 have b:=zcr s R 1 (by decide)
 unfold nmI
 split
 ·omega
 ·split<;>omega
theorem zl3 {R : List Fl} {n v : ByteArray} (h : plB R n v = true) : 1 ≤ plI R n v:=by
 have hb1:=zdk n v
 have hb2:=zks R n v
 unfold plB at h
 unfold plI
 by_cases h1 : zhU n v = true
 ·rw [if_pos h1]
  unfold zhU at h1
  unfold zbK
  have:=of_decide_eq_true h1
  rw [if_pos this]
  rcases yR (ji n v) 61 with ⟨h,_⟩|⟨h,_⟩
  ·exact absurd h this
  ·exact h
 ·rw [if_neg h1,if_pos (by simpa [h1] using h)];omega
theorem zrF {R : List Fl} {n v : ByteArray} (h : plB R n v = true) : zkD R n v = plI R n v ∧ 0 < plI R n v:=⟨if_pos h,zl3 h⟩
theorem zl4 (R : List Fl) (n v : ByteArray) : 0 ≤ zkD R n v ∧ zkD R n v ≤ 61 + R.length:=by
 have hb1:=zdk n v
 have hb2:=zks R n v
 unfold zkD plI
 split
 ·split
  ·omega
  ·split
   ·omega
   ·split<;>omega
 ·omega
theorem zrG {R : List Fl} {n v : ByteArray} {k : Bool} {w : Int} (h : whl R n v k w = false) : ¬ (((k = false ∧ ¬ w = 1) ∧ ¬ w = 2) ∧ 0 < zkD R n v):=by
 rintro ⟨⟨⟨a,b⟩,c⟩,d⟩
 refine zrD h ⟨⟨⟨?_,a⟩,b⟩,c⟩
 cases hp : plB R n v with
 | true=>rfl
 | false=>unfold zkD at d;rw [if_neg (by simp [hp])] at d;omega
attribute [local irreducible] wt zO keptL flN addX vh xsE zgd plB plI nmI zcy zbO zhZ kP zkD
set_option maxRecDepth 20000 in
theorem zn9 (xs : List Fl) (s : Nat) (m : Int) (n v : ByteArray) (k : Bool) (w : Int) (nn sn sv : Bool) (h : xs.length ≤ 90000) (hw : whl xs.reverse n v k w = true) : AEq Tryz.prog 176 [.ptr 0 0,.ag [.lit (.string n),.lit (.string v),bl k],.ag [i64 w,bl nn,bl sn,bl sv]] [.box [.row 1 s,i64 (zO xs),i64 m],.row s 103 3 (xs.map flA)] (.ag [i64 1,i64 (plI xs.reverse n v),.lit (.string ⟨#[]⟩),bl false,.lit (.string ⟨#[]⟩),bl false,i64 0]) [.box [.row 1 s,i64 (zO xs),i64 m],.row s 103 3 (xs.map flA)]:=by
 obtain ⟨hp,rfl,h1,h2⟩:=zn8 hw
 refine zc Tryz.func176 rfl Tryz.ntmps176 (by simp) (fun hsc=>?_);simp only [Lf.enter,Nat.reduceAdd];clear hsc
 have hU:=@hp
 repeat' (first|(refine goR ?_)|(refine za (fun K hK=>?_))|((refine zb (fun hcd=>?_) (fun hcd=>?_))<;>(try simp only [hcP] at hcd)<;>(try exact cdT))|(refine zd (f:=201) rfl Tryz.call201 (h:=AEq.sub' [_,_] (hc:=zrB _ _ _ _ _ _ _ (by omega)) (hq:=?_)))|((refine zY [0,1] exT (by rfl) (by rw [Tryz.results176,Lf.yM];(try simp (disch:=omega) only [Lf.zD,go_sem,seval,↓reduceIte,hU]);rfl) sT sT (zj ?_) ?_)<;>(try (first|exact zh|exact stT)))|(refine hK _ _ ?_;clear hK K))
set_option maxRecDepth 20000 in
theorem zoa (xs : List Fl) (s : Nat) (m : Int) (n v : ByteArray) (k : Bool) (w : Int) (nn sn sv : Bool) (h : xs.length ≤ 90000) (hS : zO xs ≤ 2147483647) (hb : ∀ f ∈ xs,f.n.size ≤ 1000000 ∧ f.v.size ≤ 1000000) (hm0 : 0 ≤ m) (hm1 : m ≤ 2147483647) (h1 : n.size ≤ 1000000) (h2 : v.size ≤ 1000000) (hw : whl xs.reverse n v k w = false) (r : Rw) (t : DT) (hr : zcy xs.reverse n v k w nn sn sv = r) (ht : zbO ⟨xs,s,m⟩ n v k w = t) : AEq Tryz.prog 176 [.ptr 0 0,.ag [.lit (.string n),.lit (.string v),bl k],.ag [i64 w,bl nn,bl sn,bl sv]] [.box [.row 1 s,i64 (zO xs),i64 m],.row s 103 3 (xs.map flA)] (.ag [i64 r.k,i64 r.i,.lit (.string r.nm),bl r.ns,.lit (.string r.vl),bl r.vs,i64 0]) [.box [.row 1 t.s,i64 (zO t.xs),i64 t.m],.row t.s 103 3 (t.xs.map flA)]:=by
 have hbig : ∀ f ∈ xs,f.n.size ≤ 1000000000 ∧ f.v.size ≤ 1000000000:=fun f hf=>by have:=hb f hf;omega
 have hax:=znZ xs m ⟨n,v,k⟩
 have hno:=zrD hw
 rcases zh7 hw hr with ⟨rfl,rfl⟩|⟨rfl,hz,rfl⟩|⟨rfl,hz,rfl⟩
 all_goals rcases zl2 hw ht with ⟨hk,hkf,hwt,rfl⟩|⟨hk,hkf,hwt,rfl⟩|⟨hk,rfl⟩
 all_goals clear hr ht
 all_goals dsimp only
 all_goals (refine zc Tryz.func176 rfl Tryz.ntmps176 (by simp) (fun hsc=>?_);simp only [Lf.enter,Nat.reduceAdd];clear hsc)
 all_goals (have hU:=@hax)
 all_goals (repeat' (first|(refine goR ?_)|(guard_target =~ PWp _ _ _ _ _ _ _;refine zn (id:=4) [9,0,1,2,3,4,5,6,7,8,10] [9,10] mixed (by kernel_rfl) (by kernel_rfl) ?_)|(refine za (fun K hK=>?_))|((refine zb (fun hcd=>?_) (fun hcd=>?_))<;>(try simp only [hcP] at hcd)<;>(try exact cdT))|(refine zd (f:=204) rfl Tryz.call204 (h:=AEq.sub' [_,_] (hc:=zgc _ _ _ _ _ _ aoT aoT aoT aoT aoT aoT aoT) (hq:=?_)))|(refine zd (f:=204) rfl Tryz.call204 (h:=AEq.sub' [_,_] (hc:=znV _ _ _ _ _ _ aoT aoT aoT aoT aoT aoT aoT) (hq:=?_)))|(refine zd (f:=201) rfl Tryz.call201 (h:=AEq.sub' [_,_] (hc:=zrB _ _ _ _ _ _ _ aoT) (hq:=?_)))|(refine zd (f:=203) rfl Tryz.call203 (h:=AEq.sub' [_,_] (hc:=zuQ _ _ _ _ _ aoT) (hq:=?_)))|((refine zY [0,1] exT (by rfl) (by rw [Tryz.results176,Lf.yM];(try simp (disch:=omega) only [Lf.zD,go_sem,seval,↓reduceIte,hU]);rfl) sT sT (zj ?_) ?_)<;>(try (first|exact zh|exact stT)))|(guard_target =~ dw _ _ _ _ _ _ _ _ _ _;first|(guard_target =~ dw _ _ _ _ _ (2 :: _) _ _ _ _;(refine vK rfl rfl (h:=(fun τ=>zQ (h:=zd (f:=202) rfl Tryz.call202 (h:=AEq.pure' agT (zuO _ _ _ _ _ _ _) (hq:=zi ⟨rfl,rfl⟩))))) (hk:=?_)))|((first|guard_target =~ dw _ _ _ _ _ (7 :: _) _ _ _ _|guard_target =~ dw _ _ _ _ _ (8 :: _) _ _ _ _);(refine vK rfl rfl (h:=(fun τ=>zQ (h:=vH rfl (by first|exact zdf|exact zne|exact zj8|exact znj|exact znl|fail) (hK:=zi ⟨rfl,rfl⟩)))) (hk:=?_)))|(guard_target =~ dw _ _ _ _ _ (9 :: _) _ _ _ _;(refine zaq rfl rfl (h:=zQ (h:=zcd rfl (by first|exact zv3|exact zv4|exact zv9|exact ztS|exact zj5|exact znd|exact znf|exact znh|exact zni|exact znk|fail) (hK:=zi ⟨rfl,rfl⟩))) (hk:=?_)))|(guard_target =~ dw _ _ _ _ _ (10 :: _) _ _ _ _;(refine kO rfl rfl (h:=zcT (h:=z0 rfl (hK:=zi ⟨rfl,rfl⟩))) (hk:=?_))))|(refine hK _ _ ?_;clear hK K)))
 all_goals first|exact zA (by rw [hz])|trace_state
theorem zh8 {σ : Sto} {ρ : Rz} {w : World} {f q : Bool} {xs : List (List AV)} {x : AV} {r s : List AV} {v : Value} (h : VR σ ρ w (.tu (x :: .ag (.sl f q xs :: r) :: s)) v) : VR σ ρ w (.tu (x :: .ag (.sl false q xs :: r) :: s)) v:=by
 unfold VR at h ⊢
 obtain ⟨vs,rfl,h⟩:=h
 refine ⟨vs,rfl,?_⟩
 cases vs with
 | nil=>simp [VRl] at h
 | cons u us=>
  cases us with
  | nil=>simp [VRl] at h
  | cons u2 us=>unfold VRl VRl at h ⊢;exact ⟨h.1,zh1 h.2.1,h.2.2⟩
def zuR (f1 : Bool) (m : Int) (n v : ByteArray) (k : Bool) (w : Int) : Bool:=if kdI k w = 2 then (if wt ⟨n,v,k⟩ ≤ m then false else true) else f1
set_option maxRecDepth 20000 in
theorem zkE (f1 : Bool) (xs : List Fl) (s : Nat) (m : Int) (n v : ByteArray) (k : Bool) (w : Int) (nn sn sv : Bool) (h : xs.length ≤ 90000) (hw : whl xs.reverse n v k w = true) : AEq Tryz.prog 138 [.ag [.sl f1 false (xs.reverse.map flA),i64 m],.ag [.lit (.string n),.lit (.string v),bl k],.ag [i64 w,bl nn,bl sn,bl sv]] [] (.tu [.ag [i64 1,i64 (plI xs.reverse n v),.lit (.string ⟨#[]⟩),bl false,.lit (.string ⟨#[]⟩),bl false,i64 0],.ag [.sl f1 false (xs.reverse.map flA),i64 m]]) []:=by
 obtain ⟨hp,rfl,h1,h2⟩:=zn8 hw
 obtain ⟨hq,hq0⟩:=zrF hp
 have hrl : xs.reverse.length = xs.length:=List.length_reverse
 refine zc Tryz.func138 rfl Tryz.ntmps138 (by simp) (fun hsc=>?_);simp only [Lf.enter,Nat.reduceAdd];clear hsc
 have hU:=@hq
 repeat' (first|(refine goR ?_)|(guard_target =~ PWp _ _ _ _ _ _ _;refine zn (id:=3) [0,1,3,2,4] [3,4] mixed (by kernel_rfl) (by kernel_rfl) ?_)|(refine za (fun K hK=>?_))|((refine zb (fun hcd=>?_) (fun hcd=>?_))<;>(try simp only [hcP] at hcd)<;>(try exact cdT))|(refine zd (f:=182) rfl Tryz.call182 (h:=AEq.pure' agT (zl0 _ _ _ _ _ _ (by omega)) (hq:=?_)))|((refine zY [] exT (by rfl) (by rw [Tryz.results138];exact Lf.jP roT roT) sT sT (zu ?_ ?_) ?_)<;>(try (first|exact zh|exact stT)))|(guard_target =~ dw _ _ _ _ _ _ _ _ _ _;first|(guard_target =~ dw _ _ _ _ _ (1 :: _) _ _ _ _;(refine vK rfl rfl (h:=(fun τ=>zQ (h:=vH rfl (by first|exact zdf|exact zhj|exact znc|exact zng|fail) (hK:=zi ⟨rfl,rfl⟩)))) (hk:=?_)))|((first|guard_target =~ dw _ _ _ _ _ (2 :: _) _ _ _ _|guard_target =~ dw _ _ _ _ _ (3 :: _) _ _ _ _|guard_target =~ dw _ _ _ _ _ (4 :: _) _ _ _ _|guard_target =~ dw _ _ _ _ _ (5 :: _) _ _ _ _);(refine kO rfl rfl (h:=zcT (h:=z0 rfl (hK:=zi ⟨rfl,rfl⟩))) (hk:=?_))))|(refine hK _ _ ?_;clear hK K))
set_option maxRecDepth 20000 in
theorem zkF (f1 : Bool) (xs : List Fl) (s : Nat) (m : Int) (n v : ByteArray) (k : Bool) (w : Int) (nn sn sv : Bool) (h : xs.length ≤ 90000) (hS : zO xs ≤ 2147483647) (hb : ∀ f ∈ xs,f.n.size ≤ 1000000 ∧ f.v.size ≤ 1000000) (hm0 : 0 ≤ m) (hm1 : m ≤ 2147483647) (h1 : n.size ≤ 1000000) (h2 : v.size ≤ 1000000) (hw : whl xs.reverse n v k w = false) (r : Rw) (t : DT) (hr : zcy xs.reverse n v k w nn sn sv = r) (ht : zbO ⟨xs,s,m⟩ n v k w = t) : AEq Tryz.prog 138 [.ag [.sl f1 false (xs.reverse.map flA),i64 m],.ag [.lit (.string n),.lit (.string v),bl k],.ag [i64 w,bl nn,bl sn,bl sv]] [] (.tu [.ag [i64 r.k,i64 r.i,.lit (.string r.nm),bl r.ns,.lit (.string r.vl),bl r.vs,i64 0],.ag [.sl (zuR f1 m n v k w) false (t.xs.reverse.map flA),i64 t.m]]) []:=by
 have hbig : ∀ f ∈ xs.reverse,f.n.size ≤ 1000000000 ∧ f.v.size ≤ 1000000000:=fun f hf=>by have:=hb f (List.mem_reverse.1 hf);omega
 have hrl : xs.reverse.length = xs.length:=List.length_reverse
 have hrs:=zav xs
 have hax:=zkA xs m ⟨n,v,k⟩
 obtain ⟨g,hg⟩ : ∃ g,zuR f1 m n v k w = g:=⟨_,rfl⟩
 have hg2:=hg
 rw [hg]
 unfold zuR at hg
 have hno:=zrG hw
 have hpb:=zl4 xs.reverse n v
 rcases zh7 hw hr with ⟨rfl,rfl⟩|⟨rfl,hz,rfl⟩|⟨rfl,hz,rfl⟩
 all_goals rcases zl2 hw ht with ⟨hk,hkf,hwt,rfl⟩|⟨hk,hkf,hwt,rfl⟩|⟨hk,rfl⟩
 all_goals clear hr ht
 all_goals first|rw [if_pos hk,if_pos hwt] at hg|rw [if_pos hk,if_neg (by omega)] at hg|rw [if_neg hk] at hg
 all_goals subst hg
 all_goals dsimp only
 all_goals (refine zc Tryz.func138 rfl Tryz.ntmps138 (by simp) (fun hsc=>?_);simp only [Lf.enter,Nat.reduceAdd];clear hsc)
 all_goals (have hU:=@hax)
 all_goals (repeat' (first|(refine goR ?_)|(guard_target =~ PWp _ _ _ _ _ _ _;refine zn (id:=12) [0,2,1,3] [2,3] mixed (by kernel_rfl) (by kernel_rfl) ?_)|(guard_target =~ PWp _ _ _ _ _ _ _;refine zn (id:=15) [0,2,1,3] [2,3] mixed (by kernel_rfl) (by kernel_rfl) ?_)|(guard_target =~ PWp _ _ _ _ _ _ _;refine zn (id:=16) [0,1,2,3,4,5] [4,5] mixed (by kernel_rfl) (by kernel_rfl) ?_)|(refine za (fun K hK=>?_))|((refine zb (fun hcd=>?_) (fun hcd=>?_))<;>(try simp only [hcP] at hcd)<;>(try exact cdT))|(refine zd (f:=182) rfl Tryz.call182 (h:=AEq.pure' agT (zl0 _ _ _ _ _ _ aoT) (hq:=?_)))|(refine zd (f:=183) rfl Tryz.call183 (h:=AEq.pure' agT (zrC _ _ _ _ aoT) (hq:=?_)))|((refine zY [] exT (by rfl) (by rw [Tryz.results138];exact Lf.jP roT roT) sT sT (zu ?_ ?_) ?_)<;>(try (first|exact zh|exact stT)))|(guard_target =~ dw _ _ _ _ _ _ _ _ _ _;first|((first|guard_target =~ dw _ _ _ _ _ (2 :: _) _ _ _ _|guard_target =~ dw _ _ _ _ _ (3 :: _) _ _ _ _|guard_target =~ dw _ _ _ _ _ (4 :: _) _ _ _ _|guard_target =~ dw _ _ _ _ _ (5 :: _) _ _ _ _);(refine kO rfl rfl (h:=zcT (h:=z0 rfl (hK:=zi ⟨rfl,rfl⟩))) (hk:=?_)))|(guard_target =~ dw _ _ _ _ _ (3 :: _) _ _ _ _;first|(refine vK rfl rfl (h:=(fun τ=>zQ (h:=zd (f:=117) rfl Tryz.call117 (h:=AEq.pure' agT (zge _ _ _ _ _ _ aoT aoT aoT) (hq:=zi ⟨rfl,rfl⟩))))) (hk:=?_))|(refine vK rfl rfl (h:=(fun τ=>zQ (h:=zd (f:=117) rfl Tryz.call117 (h:=AEq.pure' agT (zn4 _ _ _ _ _ _ aoT aoT aoT aoT aoT aoT aoT) (hq:=zi ⟨rfl,rfl⟩))))) (hk:=?_))))|(refine hK _ _ ?_;clear hK K)))
 all_goals first|(exact zA (by first|(rw [hk];done)|(rw [hk];rfl)))|(exact zA (by first|(rw [hz,hk];done)|(rw [hz,hk];rfl)))|(exact zA (by have e : kdI k w = 3:=(by unfold kdI at *;grind);first|(rw [e];done)|(rw [e];rfl)))|(exact zA (by have e : kdI k w = 3:=(by unfold kdI at *;grind);first|(rw [hz,e];done)|(rw [hz,e];rfl)))|(exact zA (by have e : kdI k w = 4:=(by unfold kdI at *;grind);first|(rw [e];done)|(rw [e];rfl)))|(exact zA (by have e : kdI k w = 4:=(by unfold kdI at *;grind);first|(rw [hz,e];done)|(rw [hz,e];rfl)))|(exact zT (by unfold kdI at *;grind))|(exfalso;unfold kdI at *;grind)|trace_state
theorem zh9 (f1 : Bool) (xs : List Fl) (s : Nat) (m : Int) (n v : ByteArray) (k : Bool) (w : Int) (nn sn sv : Bool) (h : xs.length ≤ 90000) (hS : zO xs ≤ 2147483647) (hb : ∀ f ∈ xs,f.n.size ≤ 1000000 ∧ f.v.size ≤ 1000000) (hm0 : 0 ≤ m) (hm1 : m ≤ 2147483647) (h1 : n.size ≤ 1000000) (h2 : v.size ≤ 1000000) (r : Rw) (t : DT) (hr : zcy xs.reverse n v k w nn sn sv = r) (ht : zbO ⟨xs,s,m⟩ n v k w = t) : AEq Tryz.prog 138 [.ag [.sl f1 false (xs.reverse.map flA),i64 m],.ag [.lit (.string n),.lit (.string v),bl k],.ag [i64 w,bl nn,bl sn,bl sv]] [] (.tu [.ag [i64 r.k,i64 r.i,.lit (.string r.nm),bl r.ns,.lit (.string r.vl),bl r.vs,i64 0],.ag [.sl false false (t.xs.reverse.map flA),i64 t.m]]) []:=by
 cases hw : whl xs.reverse n v k w with
 | true=>
  rw [zh6 hw] at hr
  rw [zl1 hw] at ht
  subst hr
  subst ht
  exact jy (zkE f1 xs s m n v k w nn sn sv h hw) (fun ρ w v hr _ hv=>⟨ρ,hr,zh8 hv,.refl _ _ _ _ (Nat.le_refl _)⟩)
 | false=>exact jy (zkF f1 xs s m n v k w nn sn sv h hS hb hm0 hm1 h1 h2 hw r t hr ht) (fun ρ w v hr _ hv=>⟨ρ,hr,zh8 hv,.refl _ _ _ _ (Nat.le_refl _)⟩)
theorem zl5 (xs : List Fl) (s : Nat) (m : Int) (n v : ByteArray) (k : Bool) (w : Int) (nn sn sv : Bool) (h : xs.length ≤ 90000) (hS : zO xs ≤ 2147483647) (hb : ∀ f ∈ xs,f.n.size ≤ 1000000 ∧ f.v.size ≤ 1000000) (hm0 : 0 ≤ m) (hm1 : m ≤ 2147483647) (h1 : n.size ≤ 1000000) (h2 : v.size ≤ 1000000) (r : Rw) (t : DT) (hr : zcy xs.reverse n v k w nn sn sv = r) (ht : zbO ⟨xs,s,m⟩ n v k w = t) : AEq Tryz.prog 176 [.ptr 0 0,.ag [.lit (.string n),.lit (.string v),bl k],.ag [i64 w,bl nn,bl sn,bl sv]] [.box [.row 1 s,i64 (zO xs),i64 m],.row s 103 3 (xs.map flA)] (.ag [i64 r.k,i64 r.i,.lit (.string r.nm),bl r.ns,.lit (.string r.vl),bl r.vs,i64 0]) [.box [.row 1 t.s,i64 (zO t.xs),i64 t.m],.row t.s 103 3 (t.xs.map flA)]:=by
 cases hw : whl xs.reverse n v k w with
 | true=>
  rw [zh6 hw] at hr
  rw [zl1 hw] at ht
  subst hr
  subst ht
  exact zn9 xs s m n v k w nn sn sv h hw
 | false=>exact zoa xs s m n v k w nn sn sv h hS hb hm0 hm1 h1 h2 hw r t hr ht
end Go.Proofs.YtdalcgfnlbofdaaGreatDoor
namespace Go.Proofs.YtdalcgfnlbofdaaGreatDoor
open Go Go.Lf Go.Proofs
attribute [local irreducible] Lf.rg Lf.ro Lf.PWp Lf.SOp Lf.ACall Lf.Scoped Lf.dg Lf.dw
set_option maxRecDepth 20000
set_option maxHeartbeats 4000000
def ofB (b : ByteArray) : List UInt8:=b.data.toList
theorem zbP (b : ByteArray) : (ofB b).length = b.size:=by unfold ofB;rw [Array.length_toList];rfl
theorem zfk (b : ByteArray) : (⟨(ofB b).toArray⟩ : ByteArray) = b:=by cases b;rfl
def rwB (r : Rw) : List UInt8:=rpB r.k r.i (ofB r.nm) r.ns (ofB r.vl) r.vs 0
def zdA (z : Int) : List UInt8:=rpB 5 0 [] false [] false z
def ztf (r : Rw) : Prop:=RP r.k r.i (ofB r.nm) r.ns (ofB r.vl) r.vs 0 ∧ r.nm.size ≤ 1000 ∧ r.vl.size ≤ 1000
theorem zuS {R : List Fl} {n v : ByteArray} (h : plB R n v = true) : plI R n v ≤ 61 + R.length:=by
 have a:=zl4 R n v
 rw [(zrF h).1] at a
 exact a.2
theorem zrH (k : Bool) (w : Int) : kdI k w = 2 ∨ kdI k w = 3 ∨ kdI k w = 4:=by
 unfold kdI;split
 ·omega
 ·split<;>omega
theorem za5 {R : List Fl} {n v : ByteArray} {k : Bool} {w : Int} {nn sn sv : Bool} {r : Rw} (hr : zcy R n v k w nn sn sv = r) (h : R.length ≤ 100000) (h1 : n.size ≤ 1000) (h2 : v.size ≤ 1000) : ztf r:=by
 have hk:=zrH k w
 have hb:=zrE R n
 have e0 : ((0 : Int) ≤ 0 ∧ (0 : Int) ≤ 2147483647):=by decide
 have ez : (⟨#[]⟩ : ByteArray).size ≤ 1000:=by decide
 cases hw : whl R n v k w with
 | true=>
  rw [zh6 hw] at hr
  subst hr
  have hp:=(zn8 hw).1
  have a:=zl3 hp
  have b:=zuS hp
  exact ⟨⟨⟨by dsimp only;omega,by dsimp only;omega⟩,⟨by dsimp only;omega,by dsimp only;omega⟩,e0,.inr (.inl ⟨rfl,rfl,by dsimp only;omega,⟨rfl,rfl⟩,⟨rfl,rfl⟩⟩)⟩,ez,ez⟩
 | false=>
  rcases zh7 hw hr with ⟨_,rfl⟩|⟨_,hz,rfl⟩|⟨_,hz,rfl⟩
  ·exact ⟨⟨⟨by dsimp only;omega,by dsimp only;omega⟩,e0,e0,.inr (.inr ⟨by dsimp only;omega,by dsimp only;omega,rfl,.inl rfl⟩)⟩,h1,h2⟩
  ·exact ⟨⟨⟨by dsimp only;omega,by dsimp only;omega⟩,e0,e0,.inr (.inr ⟨by dsimp only;omega,by dsimp only;omega,rfl,.inl rfl⟩)⟩,h1,h2⟩
  ·exact ⟨⟨⟨by dsimp only;omega,by dsimp only;omega⟩,⟨by dsimp only;omega,by dsimp only;omega⟩,e0,.inr (.inr ⟨by dsimp only;omega,by dsimp only;omega,rfl,.inr ⟨rfl,rfl⟩⟩)⟩,ez,h2⟩
theorem zl6 (k i : Int) (nm : List UInt8) (ns : Bool) (vl : List UInt8) (vs : Bool) (sz : Int) : 1 ≤ (rpB k i nm ns vl vs sz).length ∧ (rpB k i nm ns vl vs sz).length ≤ 4 * nm.length + 4 * vl.length + 18:=by
 have a:=zN (frI k) (biI k) (i + sz)
 have b:=zbG ns nm
 have c:=zbG vs vl
 unfold rpB
 rw [List.length_append]
 split
 ·rw [List.length_append]
  split
  ·omega
  ·rw [List.length_nil];omega
 ·rw [List.length_nil];omega
theorem zdn {r : Rw} (h : ztf r) : 1 ≤ (rwB r).length ∧ (rwB r).length ≤ 8018:=by
 have a:=zl6 r.k r.i (ofB r.nm) r.ns (ofB r.vl) r.vs 0
 rw [zbP,zbP] at a
 obtain ⟨_,h1,h2⟩:=h
 unfold rwB
 omega
theorem zei (z : Int) : 1 ≤ (zdA z).length ∧ (zdA z).length ≤ 18:=by
 have a:=zl6 5 0 [] false [] false z
 unfold zdA
 simpa using a
structure EQ where
 (o : List UInt8) (t : DT)
def zej (a b : List UInt8) : List UInt8:=a ++ b
def zrI (q : EQ) (z : Int) : EQ:=⟨zej q.o (zdA z),⟨keptL q.t.xs z,q.t.s + 1,z⟩⟩
def jc : List Int → EQ → EQ
 | [],q=>q
 | z :: l,q=>jc l (zrI q z)
def op0 : Op4:=⟨0,false,false,false⟩
def zcU (how : List Op4) (i : Nat) : Op4:=match how[i % how.length]? with|some o=>o|none=>op0
def zrJ (q : EQ) (f : Fl) (o : Op4) : EQ:=⟨zej q.o (rwB (zcy q.t.xs.reverse f.n f.v f.k o.w o.nn o.sn o.sv)),zbO q.t f.n f.v f.k o.w⟩
def jd (how : List Op4) : List Fl → Nat → EQ → EQ
 | [],_,q=>q
 | f :: l,i,q=>jd how l (i + 1) (zrJ q f (zcU how i))
def zfl (sizes : List Int) (l : List Fl) (how : List Op4) (t : DT) : EQ:=jd how l 0 (jc sizes ⟨[],t⟩)
theorem zl7 {i : Nat} : zcU [] i = ⟨0,false,false,false⟩:=rfl
theorem zdo {how : List Op4} {i : Nat} {o : Op4} (h : how[i % how.length]? = some o) : zcU how i = o:=by unfold zcU;rw [h]
theorem za6 {t t' : DT} {n v : ByteArray} {k : Bool} {w : Int} (ht : zbO t n v k w = t') (h : TOk t) (h1 : n.size ≤ 1000000) (h2 : v.size ≤ 1000000) : TOk t' ∧ t'.xs.length ≤ t.xs.length + 1 ∧ t'.m = t.m:=by
 subst ht
 unfold zbO
 split
 ·exact ⟨h,by omega,rfl⟩
 ·split
  ·exact zn5 (f:=⟨n,v,k⟩) h h1 h2
  ·exact ⟨h,by omega,rfl⟩
theorem zia {t : DT} {z : Int} (h : TOk t) (h1 : 0 ≤ z) (h2 : z ≤ 2147483647) : TOk ⟨keptL t.xs z,t.s + 1,z⟩ ∧ (keptL t.xs z).length ≤ t.xs.length:=
 ⟨⟨ko _ h1 _,h1,h2,fun f hf=>h.2.2.2 f (za3 _ _ f hf)⟩,jx _ _⟩
theorem zfm : ∀ (l : List Int) (q Q : EQ), jc l q = Q → TOk q.t → (∀ z ∈ l, 0 ≤ z ∧ z ≤ 2147483647) → TOk Q.t ∧ Q.t.xs.length ≤ q.t.xs.length ∧ Q.o.length ≤ q.o.length + 18 * l.length
 | [],q,Q,h,ht,hz=>by subst h;exact ⟨ht,Nat.le_refl _,by rw [List.length_nil,jc];omega⟩
 | z :: l,q,Q,h,ht,hz=>by
  have hz1:=hz z List.mem_cons_self
  obtain ⟨a,b⟩:=zia (z:=z) ht hz1.1 hz1.2
  obtain ⟨c,d,e⟩:=zfm l (zrI q z) Q h a (fun y hy=>hz y (List.mem_cons_of_mem _ hy))
  have hl:=zei z
  have e1 : (zrI q z).o.length = q.o.length + (zdA z).length:=List.length_append
  have e2 : (zrI q z).t.xs.length = (keptL q.t.xs z).length:=rfl
  rw [List.length_cons]
  exact ⟨c,by omega,by omega⟩
theorem zfn (how : List Op4) : ∀ (l : List Fl) (i : Nat) (q Q : EQ), jd how l i q = Q → TOk q.t → q.t.xs.length + l.length ≤ 100000 → (∀ f ∈ l, f.n.size ≤ 1000 ∧ f.v.size ≤ 1000) → TOk Q.t ∧ Q.t.xs.length ≤ q.t.xs.length + l.length ∧ Q.o.length ≤ q.o.length + 8018 * l.length ∧ Q.t.m = q.t.m
 | [],i,q,Q,h,ht,hx,hz=>by subst h;exact ⟨ht,by rw [List.length_nil,jd];omega,by rw [List.length_nil,jd];omega,rfl⟩
 | f :: l,i,q,Q,h,ht,hx,hz=>by
  have hz1:=hz f List.mem_cons_self
  rw [List.length_cons] at hx
  obtain ⟨a,b,c⟩:=za6 (t:=q.t) (n:=f.n) (v:=f.v) (k:=f.k) (w:=(zcU how i).w) rfl ht (by omega) (by omega)
  have hr:=za5 (R:=q.t.xs.reverse) (n:=f.n) (v:=f.v) (k:=f.k) (w:=(zcU how i).w) (nn:=(zcU how i).nn) (sn:=(zcU how i).sn) (sv:=(zcU how i).sv) rfl (by rw [List.length_reverse];omega) hz1.1 hz1.2
  have hl:=zdn hr
  have e1 : (zrJ q f (zcU how i)).o.length = q.o.length + (rwB (zcy q.t.xs.reverse f.n f.v f.k (zcU how i).w (zcU how i).nn (zcU how i).sn (zcU how i).sv)).length:=List.length_append
  have e2 : (zrJ q f (zcU how i)).t = zbO q.t f.n f.v f.k (zcU how i).w:=rfl
  obtain ⟨d,e,g,m⟩:=zfn how l (i + 1) (zrJ q f (zcU how i)) Q h (by rw [e2];exact a) (by rw [e2];omega) (fun y hy=>hz y (List.mem_cons_of_mem _ hy))
  rw [e2] at e m
  rw [List.length_cons]
  exact ⟨d,by omega,by omega,by omega⟩
attribute [local irreducible] rpB
theorem zl8 (k i : Int) (nm : ByteArray) (ns : Bool) (vl : ByteArray) (vs : Bool) (h : ztf ⟨k,i,nm,ns,vl,vs⟩) : AEq Tryz.prog 174 [.ag [i64 k,i64 i,.lit (.string nm),bl ns,.lit (.string vl),bl vs,i64 0]] [] (.tu [.sl false false ((rwB ⟨k,i,nm,ns,vl,vs⟩).map zf),i64 0]) []:=by
 have h2:=zhS k i (ofB nm) ns (ofB vl) vs 0 (by rw [zbP];have:=h.2.1;dsimp only at this;omega) (by rw [zbP];have:=h.2.2;dsimp only at this;omega) h.1
 rw [zfk,zfk] at h2
 exact h2
theorem zrK (z : Int) (h1 : 0 ≤ z) (h2 : z ≤ 2147483647) : AEq Tryz.prog 174 [.ag [i64 5,i64 0,.lit (.string ⟨#[]⟩),bl false,.lit (.string ⟨#[]⟩),bl false,i64 z]] [] (.tu [.sl false false ((zdA z).map zf),i64 0]) []:=
 zhS 5 0 [] false [] false z (by decide) (by decide) ⟨by decide,by decide,⟨h1,h2⟩,.inl ⟨rfl,rfl,⟨rfl,rfl⟩,⟨rfl,rfl⟩⟩⟩
theorem zib (k i : Int) (nm : ByteArray) (ns : Bool) (vl : ByteArray) (vs : Bool) (h : ztf ⟨k,i,nm,ns,vl,vs⟩) : AEq Tryz.prog 137 [.ag [i64 k,i64 i,.lit (.string nm),bl ns,.lit (.string vl),bl vs,i64 0]] [] (.sl false false ((rwB ⟨k,i,nm,ns,vl,vs⟩).map zf)) []:=by
 have h2:=zfa k i (ofB nm) ns (ofB vl) vs 0 (by rw [zbP];have:=h.2.1;dsimp only at this;omega) (by rw [zbP];have:=h.2.2;dsimp only at this;omega) h.1
 rw [zfk,zfk] at h2
 exact h2
theorem zob (z : Int) (h1 : 0 ≤ z) (h2 : z ≤ 2147483647) : AEq Tryz.prog 137 [.ag [i64 5,i64 0,.lit (.string ⟨#[]⟩),bl false,.lit (.string ⟨#[]⟩),bl false,i64 z]] [] (.sl false false ((zdA z).map zf)) []:=
 zfa 5 0 [] false [] false z (by decide) (by decide) ⟨by decide,by decide,⟨h1,h2⟩,.inl ⟨rfl,rfl,⟨rfl,rfl⟩,⟨rfl,rfl⟩⟩⟩
end Go.Proofs.YtdalcgfnlbofdaaGreatDoor
