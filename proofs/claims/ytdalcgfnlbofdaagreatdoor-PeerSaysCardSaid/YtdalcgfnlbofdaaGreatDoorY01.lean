import Derived.Test.YtdalcgfnlbofdaaGreatDoorPg
import Derived.Test.YtdalcgfnlbofdaaGreatDoorPy
import Derived.Test.YtdalcgfnlbofdaaGreatDoorPc
import Derived.ScopeJumps
import Derived.Lib.ConvBytes
set_option linter.unusedVariables false
set_option linter.unusedSimpArgs false
namespace Go.Proofs.YtdalcgfnlbofdaaGreatDoor
open Go Go.Lf Go.Proofs
attribute [local irreducible] Lf.rg Lf.ro Lf.PWp Lf.SOp Lf.ACall Lf.Scoped Lf.dg Lf.dw
set_option maxRecDepth 20000
set_option maxHeartbeats 4000000
theorem yH {α : Type} {l : List α} {i : Nat} {x : α} (h : l[i]? = some x) : l.take (i + 1) = l.take i ++ [x]:=by
 rw [List.take_add_one,h];rfl
theorem zg5 (f g q r : Bool) (a b : List UInt8) (hb : a.length ≤ 4000000000000000000) : AEq Tryz.prog 75 [.sl f q (a.map zf),.sl g r (b.map zf)] [] (bl (decide (a = b))) []:=by
  by_cases h : a.length = b.length
  · refine zc Tryz.func75 rfl Tryz.ntmps75 (by simp) (fun hsc => ?_); simp only [Lf.enter, Nat.reduceAdd]; clear hsc
    have hU:=True.intro
    repeat' (first|(refine goR ?_)|(refine za (fun K hK=>?_))|((refine zb (fun hcd=>?_) (fun hcd=>?_))<;>(try simp only [hcP] at hcd)<;>(try exact cdT))|(refine hK _ _ ?_;clear hK K))
    refine zz [4,5,11,12,13,14,15,16,17,18,19,20,21,22,23,24,25] (fun i : Nat=>[(5,i64 i)]) (fun _=>[]) (fun i=>i ≤ a.length ∧ a.take i = b.take i) (fun i=>a.length - i) 0 ⟨Nat.zero_le _,rfl⟩ ?_ rfl ?_
    · (refine ⟨⟨_,sT,?_⟩,trivial⟩<;>(try (first|exact zi)))
    · rintro i ⟨hi, ht⟩
      simp only [vf,List.map_cons,List.map_nil,List.cons_append,List.nil_append]
      by_cases hlt : i < a.length
      · obtain ⟨x, hx⟩ : ∃ x, a[i]? = some x := ⟨a[i], List.getElem?_eq_getElem hlt⟩
        obtain ⟨y,hy⟩ : ∃ y,b[i]? = some y:=⟨b[i],List.getElem?_eq_getElem (by omega)⟩
        repeat' (first|(refine goR ?_)|(refine za (fun K hK=>?_))|(guard_target =~ PWp _ _ _ _ _ _ _;refine zQ mixed (by kernel_rfl) ?_)|((refine zb (fun hcd=>?_) (fun hcd=>?_))<;>(try simp only [hcP] at hcd)<;>(try exact cdT))|((refine zh [] (by rw [Tryz.results75,Lf.zy]) (zj ?_) ?_)<;>(try (first|exact zi|exact stT)))|(guard_target =~ dg _ _ _ _ _ _ _;first|(guard_target =~ dg _ _ _ (⟨_,.indexAddr _ _ _,_,_,_,none⟩ :: _) _ _ _;(refine ko (x:=_) (h:=yj (h:=vh rfl (hK:=ze ⟨rfl,rfl⟩))) (hk:=?_))))|(refine hK _ _ ?_;clear hK K))
        · have hne : a ≠ b:=by
            rintro rfl
            rw [hx] at hy
            cases hy
            exact hcd rfl
          exact yc (by simp [hne])
        · have hxy : x = y := UInt8.toNat_inj.1 (by omega)
          refine ⟨i + 1,⟨by omega,by rw [yH hx,yH hy,ht,hxy]⟩,by omega,?_,arT,rfl⟩
          (refine ⟨⟨_,sT,?_⟩,trivial⟩<;>(try (first|exact zi)))
      · have hab : a = b:=by
          have h1 : a.take i = a:=List.take_of_length_le (by omega)
          have h2 : b.take i = b:=List.take_of_length_le (by omega)
          rw [← h1,← h2];exact ht
        subst hab
        repeat' (first|(refine goR ?_)|(refine za (fun K hK=>?_))|((refine zb (fun hcd=>?_) (fun hcd=>?_))<;>(try simp only [hcP] at hcd)<;>(try exact cdT))|((refine zh [] (by rw [Tryz.results75,Lf.zy]) (zj ?_) ?_)<;>(try (first|exact zi|exact stT)))|(refine hK _ _ ?_;clear hK K)|(apply_assumption (exfalso:=false) (symm:=false)))
        exact yc (by simp)
  · have : a ≠ b := fun e => h (by rw [e])
    rw [show decide (a = b) = false by simp [this]]
    refine zc Tryz.func75 rfl Tryz.ntmps75 (by simp) (fun hsc=>?_);simp only [Lf.enter,Nat.reduceAdd];clear hsc
    have hU:=True.intro
    repeat' (first|(refine goR ?_)|(refine za (fun K hK=>?_))|((refine zb (fun hcd=>?_) (fun hcd=>?_))<;>(try simp only [hcP] at hcd)<;>(try exact cdT))|((refine zh [] (by rw [Tryz.results75,Lf.zy]) (zj ?_) ?_)<;>(try (first|exact zi|exact stT)))|(refine hK _ _ ?_;clear hK K))
theorem zd3 (f q : Bool) (l : List UInt8) (h : l.length ≤ 100000000000000) : AEq Tryz.prog 143 [.sl f q (l.map zf)] [] (.sl false false (l.map zf)) []:=by
  refine zc Tryz.func143 rfl Tryz.ntmps143 (by simp) (fun hsc=>?_);simp only [Lf.enter,Nat.reduceAdd];clear hsc
  have hU:=True.intro
  repeat' (first|(refine goS ?_)|(refine za (fun K hK=>?_))|((refine zb (fun hcd=>?_) (fun hcd=>?_))<;>(try simp only [hcP] at hcd)<;>(try exact cdT))|(guard_target =~ SOp _ _ ⟨_,.binOp _ _ _ _ _,_,_,_,none⟩ _ _ _;refine zmh (ne:=false) rfl (hx:=⟨_,sT,rfl⟩) (hK:=(fun b hb=>?_)))|((refine zh [] (by rw [Tryz.results143,Lf.zy]) (zj ?_) ?_)<;>(try (first|exact zi|exact stT)))|(refine hK _ _ ?_;clear hK K))
  · have : l = []:=by
      cases l with
      | nil=>rfl
      | cons x l=>simp_all
    subst this
    exact zaP (by simp)
def ztk (x : UInt8) : List Int:=[(x.toNat : Int) / 128 % 2,(x.toNat : Int) / 64 % 2,(x.toNat : Int) / 32 % 2,(x.toNat : Int) / 16 % 2,(x.toNat : Int) / 8 % 2,(x.toNat : Int) / 4 % 2,(x.toNat : Int) / 2 % 2,(x.toNat : Int) / 1 % 2]
def zcc (b : List UInt8) : List Int:=b.flatMap ztk
def zcd (l : List Int) : Int:=l.foldl (fun v x=>2 * v + x) 0
theorem zd4 (n : Int) : AEq Tryz.prog 248 [i64 n] [] (bl (decide (0 ≤ n) && decide (n ≤ 32))) []:=by
 refine zc Tryz.func248 rfl Tryz.ntmps248 (by simp) (fun hsc=>?_);simp only [Lf.enter,Nat.reduceAdd];clear hsc
 have hU:=True.intro
 repeat' (first|(refine goR ?_)|(refine za (fun K hK=>?_))|((refine zh [] (by rw [Tryz.results248,Lf.zy]) (zj ?_) ?_)<;>(try (first|exact zi|exact stT)))|(refine hK _ _ ?_;clear hK K))
theorem zjN (a b : Int) : 0 ≤ zaO .u8 a b ∧ zaO .u8 a b ≤ 255:=by
 unfold zaO
 have h:=(BitVec.ofInt (IntKind.bits .u8) a &&& ~~~ BitVec.ofInt (IntKind.bits .u8) b).isLt
 have h2 : (BitVec.ofInt (IntKind.bits .u8) a &&& ~~~ BitVec.ofInt (IntKind.bits .u8) b).toNat < 256:=h
 rw [wu8 (by omega)]
 omega
def zqm (y : UInt8) (j : Nat) : UInt8:=UInt8.ofNat (zaO .u8 (y.toNat : Int) (128 / 2 ^ j)).toNat
theorem zeX (y : UInt8) (j : Nat) : ((zqm y j).toNat : Int) = zaO .u8 (y.toNat : Int) (128 / 2 ^ j):=by
 have:=zjN (y.toNat : Int) (128 / 2 ^ j)
 unfold zqm
 rw [UInt8.toNat_ofNat_of_lt' (by simp;omega)]
 omega
def zce (bs : List UInt8) (k : Nat) (x : Int) : List UInt8:=
 if x = 0 then (if k % 8 = 0 then bs ++ [255] else bs).set (k / 8) (zqm ((if k % 8 = 0 then bs ++ [255] else bs).getD (k / 8) 0) (k % 8)) else (if k % 8 = 0 then bs ++ [255] else bs)
def zsn (L : List Int) : List UInt8 × Nat:=L.foldl (fun p x=>(zce p.1 p.2 x,p.2 + 1)) ([],0)
def vv (L : List Int) : List UInt8:=(zsn L).1
theorem zqn (L : List Int) : (zsn L).2 = L.length:=by
 have key : ∀ (L : List Int) (p : List UInt8 × Nat),(L.foldl (fun p x=>(zce p.1 p.2 x,p.2 + 1)) p).2 = p.2 + L.length:=by
  intro L
  induction L with
  | nil=>intro p;rfl
  | cons x L ih=>intro p;rw [List.foldl_cons,ih];simp;omega
 have:=key L ([],0)
 simpa [zsn] using this
theorem zdf (L : List Int) (x : Int) : vv (L ++ [x]) = zce (vv L) L.length x:=by
 have:=zqn L
 unfold vv zsn at *
 rw [List.foldl_append,List.foldl_cons,List.foldl_nil,this]
theorem zaW (bs : List UInt8) (k : Nat) (x : Int) : (zce bs k x).length = if k % 8 = 0 then bs.length + 1 else bs.length:=by
 unfold zce
 split<;>split<;>simp
theorem zcf (L : List Int) : (vv L).length = (L.length + 7) / 8:=by
 have key : ∀ n (L : List Int),L.length = n → (vv L).length = (L.length + 7) / 8:=by
  intro n
  induction n with
  | zero=>intro L h;rw [List.eq_nil_of_length_eq_zero h];rfl
  | succ n ih=>
   intro L h
   obtain ⟨x,hx⟩ : ∃ x,L[n]? = some x:=⟨L[n],List.getElem?_eq_getElem (by omega)⟩
   have e : L = L.take n ++ [x]:=by rw [← yH hx,List.take_of_length_le (by omega)]
   have hl : (L.take n).length = n:=by rw [List.length_take];omega
   rw [e,zdf,zaW,ih _ hl,List.length_append,List.length_singleton,hl]
   split<;>omega
 exact key _ L rfl
def msb (v : Int) : Nat → List Int
 | 0=>[]
 | m + 1=>(v / 2 ^ m % 2) :: msb v m
theorem zmE (v : Int) (n : Nat) : (msb v n).length = n:=by induction n with|zero=>rfl|succ n ih=>simp [msb,ih]
def rpE (v n : Int) : Int:=if n < 0 ∨ 32 < n then 1 else if v < 0 ∨ 2 ^ n.toNat ≤ v then 5 else 0
def rpL (L : List Int) (v n : Int) : List Int:=if rpE v n = 0 then L ++ msb v n.toNat else L
theorem zqo (v : Int) (m : Nat) (h0 : 0 ≤ v) (h1 : v ≤ 9223372036854775807) : zbg .i64 (v.fdiv (2 ^ (((m + 1 : Nat) : Int) - 1).toNat)) 1 = v / 2 ^ m % 2:=by
 rw [show (((m + 1 : Nat) : Int) - 1).toNat = m from by omega]
 obtain ⟨k,rfl⟩:=Int.eq_ofNat_of_zero_le h0
 have e : ((k : Int)).fdiv (2 ^ m) = ((k / 2 ^ m : Nat) : Int):=by
  rw [Int.fdiv_eq_ediv_of_nonneg _ (Int.le_of_lt (Int.pow_pos (by decide)))];simp
 have e2 : (k : Int) / 2 ^ m = ((k / 2 ^ m : Nat) : Int):=by simp
 have hq : k / 2 ^ m < 9223372036854775808:=Nat.lt_of_le_of_lt (Nat.div_le_self _ _) (by omega)
 rw [e,e2]
 generalize k / 2 ^ m = q at *
 show IntKind.i64.wrap ((BitVec.ofInt 64 (q : Int) &&& BitVec.ofInt 64 1).toNat : Int) = _
 have e : BitVec.ofInt 64 (q : Int) = BitVec.ofNat 64 q:=rfl
 have e1 : BitVec.ofInt 64 1 = BitVec.ofNat 64 1:=rfl
 rw [e,e1,BitVec.toNat_and,BitVec.toNat_ofNat,BitVec.toNat_ofNat,Nat.mod_eq_of_lt (by omega),show 1 % 2 ^ 64 = 1 from rfl,Nat.and_one_is_mod]
 have:=w64 (n:=((q % 2 : Nat) : Int)) (by omega)
 rw [this];simp
theorem zqp (L : List Int) (v n : Int) (hL : L.length ≤ 1000000000) : AEq Tryz.prog 238 [.ptr 0 0,i64 v,i64 n] [.box [.row 1 (vv L).length,i64 L.length],.row (vv L).length 5 1 ((vv L).map zf)] (i64 (rpE v n)) [.box [.row 1 (vv (rpL L v n)).length,i64 (rpL L v n).length],.row (vv (rpL L v n)).length 5 1 ((vv (rpL L v n)).map zf)]:=by
  by_cases hn : n < 0 ∨ 32 < n
  · have h1 : rpE v n = 1 := if_pos hn
    have h2 : rpL L v n = L:=by simp [rpL,h1]
    rw [h1,h2]
    refine zc Tryz.func238 rfl Tryz.ntmps238 (by simp) (fun hsc=>?_);simp only [Lf.enter,Nat.reduceAdd];clear hsc
    have hU:=True.intro
    repeat' (first|(refine goR ?_)|(refine za (fun K hK=>?_))|((refine zb (fun hcd=>?_) (fun hcd=>?_))<;>(try simp only [hcP] at hcd)<;>(try exact cdT))|(refine zd (f:=248) rfl Tryz.call248 (h:=AEq.pure' agT (zd4 _) (hq:=?_)))|((refine zh [0,1] (by rw [Tryz.results238,Lf.zy]) (zj ?_) ?_)<;>(try (first|exact zi|exact stT)))|(refine hK _ _ ?_;clear hK K))
  have hp : (2 : Int) ^ n.toNat ≤ 4294967296 ∧ 1 ≤ (2 : Int) ^ n.toNat:=by
    have h1 : 2 ^ n.toNat ≤ 2 ^ 32:=Nat.pow_le_pow_right (by decide) (by omega)
    have h2 : 0 < 2 ^ n.toNat:=Nat.pow_pos (by decide)
    have e : (2 : Int) ^ n.toNat = ((2 ^ n.toNat : Nat) : Int):=by simp
    rw [e];omega
  by_cases hv : v < 0 ∨ 2 ^ n.toNat ≤ v
  · have h1 : rpE v n = 5 := by simp only [rpE]; rw [if_neg hn, if_pos hv]
    have h2 : rpL L v n = L:=by simp [rpL,h1]
    rw [h1,h2]
    refine zc Tryz.func238 rfl Tryz.ntmps238 (by simp) (fun hsc=>?_);simp only [Lf.enter,Nat.reduceAdd];clear hsc
    have hU:=True.intro
    repeat' (first|(refine goR ?_)|(refine za (fun K hK=>?_))|((refine zb (fun hcd=>?_) (fun hcd=>?_))<;>(try simp only [hcP] at hcd)<;>(try exact cdT))|(refine zd (f:=248) rfl Tryz.call248 (h:=AEq.pure' agT (zd4 _) (hq:=?_)))|((refine zh [0,1] (by rw [Tryz.results238,Lf.zy]) (zj ?_) ?_)<;>(try (first|exact zi|exact stT)))|(refine hK _ _ ?_;clear hK K))
  have h1 : rpE v n = 0:=by simp only [rpE];rw [if_neg hn,if_neg hv]
  have h2 : rpL L v n = L ++ msb v n.toNat:=by simp [rpL,h1]
  rw [h1,h2]
  generalize hM : L ++ msb v n.toNat = M
  refine zc Tryz.func238 rfl Tryz.ntmps238 (by simp) (fun hsc=>?_);simp only [Lf.enter,Nat.reduceAdd];clear hsc
  have hU:=True.intro
  repeat' (first|(refine goR ?_)|(refine za (fun K hK=>?_))|((refine zb (fun hcd=>?_) (fun hcd=>?_))<;>(try simp only [hcP] at hcd)<;>(try exact cdT))|(refine zd (f:=248) rfl Tryz.call248 (h:=AEq.pure' agT (zd4 _) (hq:=?_)))|(refine hK _ _ ?_;clear hK K))
  refine zz [2,24,25,26,27,28,29,30,31,32,33,34,35,36,37,38,39,40,41,42,43,44,45,46,47,48,49,50,51,52,53,54,55,56,57,58,59,60,61,62,63,64,65,66,67,68,69,70,71,72,73,74,75] (fun s : List Int × Nat=>[(2,i64 s.2)]) (fun s=>[.box [.row 1 (vv s.1).length,i64 s.1.length],.row (vv s.1).length 5 1 ((vv s.1).map zf)]) (fun s=>s.1 ++ msb v s.2 = M ∧ s.2 ≤ 32 ∧ s.1.length + s.2 ≤ 1000000032) (fun s=>s.2) (L,n.toNat) ⟨hM,by dsimp only;omega,by dsimp only;omega⟩ ?_ rfl ?_
  · (refine ⟨⟨_, sT, ?_⟩, trivial⟩ <;> (try (first | exact zi)))
    all_goals exact yG (by omega)
  · rintro ⟨C, m⟩ ⟨hk, hm, hC⟩
    dsimp only at hk hm hC
    simp only [vf,List.map_cons,List.map_nil,List.cons_append,List.nil_append]
    have hlen:=zcf C
    cases m with
    | zero=>
      rw [msb,List.append_nil] at hk
      subst hk
      repeat' (first|(refine goR ?_)|(refine za (fun K hK=>?_))|((refine zb (fun hcd=>?_) (fun hcd=>?_))<;>(try simp only [hcP] at hcd)<;>(try exact cdT))|((refine zh [0,1] (by rw [Tryz.results238,Lf.zy]) (zj ?_) ?_)<;>(try (first|exact zi|exact stT)))|(refine hK _ _ ?_;clear hK K)|(apply_assumption (exfalso:=false) (symm:=false)))
    | succ m=>
      have hb:=zqo v m (by omega) (by omega)
      have hs:=zdf C (v / 2 ^ m % 2)
      have hk2 : (C ++ [v / 2 ^ m % 2]) ++ msb v m = M:=by rw [← hk];simp [msb]
      have hl2 : (C ++ [v / 2 ^ m % 2]).length = C.length + 1:=by simp
      by_cases h8 : C.length % 8 = 0
      · have hr : (List.map zf (vv C) ++ [[AV.lit (.int .u8 255)]])[((C.length : Int) / 8).toNat]? = some [AV.lit (.int .u8 255)]:=by
          rw [List.getElem?_append_right (by rw [List.length_map];omega),List.length_map,show ((C.length : Int) / 8).toNat - (vv C).length = 0 from by omega];rfl
        have hRl : (vv (C ++ [v / 2 ^ m % 2])).length = (vv C).length + 1:=by rw [hs,zaW,if_pos h8]
        have hR0 : v / 2 ^ m % 2 = 0 → List.map zf (vv (C ++ [v / 2 ^ m % 2])) = (List.map zf (vv C) ++ [[AV.lit (.int .u8 255)]]).set ((C.length : Int) / 8).toNat [AV.lit (.int .u8 (zaO .u8 255 (Int.fdiv 128 (2 ^ ((C.length : Int) % 8).toNat))))]:=by
          intro hx
          have hy : (vv C ++ [255]).getD (C.length / 8) 0 = 255:=by
            rw [List.getD_eq_getElem?_getD,List.getElem?_append_right (by omega),show C.length / 8 - (vv C).length = 0 from by omega];rfl
          rw [hs,zce,if_pos hx,if_pos h8,hy,List.map_set,List.map_append,show ((C.length : Int) / 8).toNat = C.length / 8 from by omega,show ((C.length : Int) % 8).toNat = C.length % 8 from by omega]
          have:=zeX 255 (C.length % 8)
          congr 1
          show [AV.lit (.int .u8 (zqm 255 (C.length % 8)).toNat)] = _
          rw [this,Int.fdiv_eq_ediv_of_nonneg _ (Int.le_of_lt (Int.pow_pos (by decide)))];rfl
        have hR1 : ¬ v / 2 ^ m % 2 = 0 → List.map zf (vv (C ++ [v / 2 ^ m % 2])) = List.map zf (vv C) ++ [[AV.lit (.int .u8 255)]]:=by
          intro hx
          rw [hs,zce,if_neg hx,if_pos h8,List.map_append];rfl
        have hU:=And.intro @hr (@hb)
        repeat' (first|(refine goS ?_)|(guard_target =~ PWp _ _ _ _ _ _ _;refine yU (id:=12) 20 mixed (by kernel_rfl) (by kernel_rfl) (by kernel_rfl) rfl rfl ?_)|(refine za (fun K hK=>?_))|((refine zb (fun hcd=>?_) (fun hcd=>?_))<;>(try simp only [hcP] at hcd)<;>(try exact cdT))|(refine hK _ _ ?_;clear hK K)|(guard_target =~ dg _ _ _ _ _ _ _;first|(guard_target =~ dg _ _ _ (⟨_,.indexAddr _ _ _,_,_,_,none⟩ :: _) _ _ _;(refine ko (x:=_) (h:=yj (h:=y8 rfl (hK:=ze ⟨rfl,rfl⟩))) (hk:=?_))))|(dsimp only [Lf.y6,Lf.vL]))
        · refine ⟨(C ++ [v / 2 ^ m % 2], m), ⟨hk2, by dsimp only; omega, by dsimp only; omega⟩, by dsimp only; omega, ?_, arT, by first | (dsimp only; rw [hRl, hR0 hcd, hl2]; rfl) | fail⟩
          (refine ⟨⟨_,sT,?_⟩,trivial⟩<;>(try (first|exact zi)))
          all_goals exact yG (by omega)
        · refine ⟨(C ++ [v / 2 ^ m % 2], m), ⟨hk2, by dsimp only; omega, by dsimp only; omega⟩, by dsimp only; omega, ?_, arT, by first | (dsimp only; rw [hRl, hR1 hcd, hl2]; rfl) | fail⟩
          (refine ⟨⟨_,sT,?_⟩,trivial⟩<;>(try (first|exact zi)))
          all_goals exact yG (by omega)
      · obtain ⟨y, hy⟩ : ∃ y, (vv C)[C.length / 8]? = some y := ⟨(vv C)[C.length / 8], List.getElem?_eq_getElem (by omega)⟩
        have hr : (List.map zf (vv C))[((C.length : Int) / 8).toNat]? = some [AV.lit (.int .u8 y.toNat)]:=by
          rw [show ((C.length : Int) / 8).toNat = C.length / 8 from by omega,List.getElem?_map,hy];rfl
        have hRl : (vv (C ++ [v / 2 ^ m % 2])).length = (vv C).length:=by rw [hs,zaW,if_neg h8]
        have hR0 : v / 2 ^ m % 2 = 0 → List.map zf (vv (C ++ [v / 2 ^ m % 2])) = (List.map zf (vv C)).set ((C.length : Int) / 8).toNat [AV.lit (.int .u8 (zaO .u8 y.toNat (Int.fdiv 128 (2 ^ ((C.length : Int) % 8).toNat))))]:=by
          intro hx
          have hy : (vv C).getD (C.length / 8) 0 = y:=by rw [List.getD_eq_getElem?_getD,hy];rfl
          rw [hs,zce,if_pos hx,if_neg h8,hy,List.map_set,show ((C.length : Int) / 8).toNat = C.length / 8 from by omega,show ((C.length : Int) % 8).toNat = C.length % 8 from by omega]
          have:=zeX y (C.length % 8)
          congr 1
          show [AV.lit (.int .u8 (zqm y (C.length % 8)).toNat)] = _
          rw [this,Int.fdiv_eq_ediv_of_nonneg _ (Int.le_of_lt (Int.pow_pos (by decide)))]
        have hR1 : ¬ v / 2 ^ m % 2 = 0 → List.map zf (vv (C ++ [v / 2 ^ m % 2])) = List.map zf (vv C):=by
          intro hx
          rw [hs,zce,if_neg hx,if_neg h8]
        have hU:=And.intro @hr (@hb)
        repeat' (first|(refine goR ?_)|(guard_target =~ PWp _ _ _ _ _ _ _;refine yU (id:=12) 20 mixed (by kernel_rfl) (by kernel_rfl) (by kernel_rfl) rfl rfl ?_)|(refine za (fun K hK=>?_))|((refine zb (fun hcd=>?_) (fun hcd=>?_))<;>(try simp only [hcP] at hcd)<;>(try exact cdT))|(refine hK _ _ ?_;clear hK K)|(guard_target =~ dg _ _ _ _ _ _ _;first|(guard_target =~ dg _ _ _ (⟨_,.indexAddr _ _ _,_,_,_,none⟩ :: _) _ _ _;(refine ko (x:=_) (h:=yj (h:=y8 rfl (hK:=ze ⟨rfl,rfl⟩))) (hk:=?_))))|(dsimp only [Lf.y6,Lf.vL]))
        · refine ⟨(C ++ [v / 2 ^ m % 2], m), ⟨hk2, by dsimp only; omega, by dsimp only; omega⟩, by dsimp only; omega, ?_, arT, by first | (dsimp only; rw [hRl, hR0 hcd, hl2]; rfl) | fail⟩
          (refine ⟨⟨_,sT,?_⟩,trivial⟩<;>(try (first|exact zi)))
          all_goals exact yG (by omega)
        · refine ⟨(C ++ [v / 2 ^ m % 2], m), ⟨hk2, by dsimp only; omega, by dsimp only; omega⟩, by dsimp only; omega, ?_, arT, by first | (dsimp only; rw [hRl, hR1 hcd, hl2]; rfl) | fail⟩
          (refine ⟨⟨_,sT,?_⟩,trivial⟩<;>(try (first|exact zi)))
          all_goals exact yG (by omega)
theorem zjO (b : List UInt8) (n : Int) (hb : b.length ≤ 1000000000) : AEq Tryz.prog 240 [.ptr 0 0] [.box [.row 1 b.length,i64 n],.row b.length 5 1 (b.map zf)] (.sl false false (b.map zf)) [.box [.row 1 b.length,i64 n],.row b.length 5 1 (b.map zf)]:=by
 refine zc Tryz.func240 rfl Tryz.ntmps240 (by simp) (fun hsc=>?_);simp only [Lf.enter,Nat.reduceAdd];clear hsc
 have hU:=True.intro
 repeat' (first|(refine goR ?_)|(refine za (fun K hK=>?_))|((refine zb (fun hcd=>?_) (fun hcd=>?_))<;>(try simp only [hcP] at hcd)<;>(try exact cdT))|(refine zd (f:=143) rfl Tryz.call143 (h:=AEq.pure' agT (zd3 _ _ _ (by omega)) (hq:=?_)))|((refine zh [0,1] (by rw [Tryz.results240,Lf.zy]) (zj ?_) ?_)<;>(try (first|exact zi|exact stT)))|(refine hK _ _ ?_;clear hK K))
def ztl (L : List Int) (c : Nat) : List Int:=(List.range 8).map fun j=>L.getD (8 * c + j) 1
def ztm (L : List Int) : List UInt8:=(List.range ((L.length + 7) / 8)).map fun c=>UInt8.ofNat (zcd (ztl L c)).toNat
end Go.Proofs.YtdalcgfnlbofdaaGreatDoor
namespace Go.Lf
open Go
end Go.Lf
namespace Go.Proofs.YtdalcgfnlbofdaaGreatDoor
open Go Go.Lf Go.Proofs
attribute [local irreducible] Lf.rg Lf.ro Lf.PWp Lf.SOp Lf.ACall Lf.Scoped Lf.dg Lf.dw
set_option maxRecDepth 20000
set_option maxHeartbeats 4000000
def lenT : List UInt8:=[73,83,88,88,88,88,88,88,88,84,90,88,88,90,88,88,88,88,88,88,88,88,90,88,88,88,88,88,88,88,88,88,66,70,70,72,73,66,68,71,70,70,68,71,68,66,66,66,65,65,65,66,66,66,66,66,66,66,67,68,75,66,72,70,73,66,67,67,67,67,67,67,67,67,67,67,67,67,67,67,67,67,67,67,67,67,67,67,68,67,68,73,79,73,74,66,75,65,66,65,66,65,66,66,66,65,67,67,66,66,66,65,66,67,66,65,65,66,67,67,67,67,67,75,71,74,73,88,80,82,80,80,82,82,82,83,82,83,83,83,83,83,84,83,84,84,82,83,84,83,83,83,83,81,82,83,82,83,83,84,82,81,80,82,82,83,83,81,83,82,82,84,81,82,83,83,81,81,82,81,83,82,83,83,80,82,82,82,83,82,82,83,86,86,80,79,82,83,82,85,86,86,86,87,87,86,84,85,79,81,86,87,87,86,87,84,81,81,86,86,88,87,87,87,80,84,80,81,82,81,81,83,82,82,85,85,84,84,86,83,86,87,86,86,87,87,87,87,87,88,87,87,87,87,87,86,90]
theorem zeY : lenT.length = 257:=by decide +kernel
theorem zg6 : ∀ i : Fin 257,65 ≤ (lenT.getD i.val 0).toNat ∧ (lenT.getD i.val 0).toNat ≤ 90:=by decide +kernel
def szI (s : Int) : Int:=((lenT.getD s.toNat 0).toNat : Int) - 60
theorem zg7 {s : Int} (h0 : 0 ≤ s) (h1 : s ≤ 256) : 5 ≤ szI s ∧ szI s ≤ 30:=by
 have:=zg6 ⟨s.toNat,by omega⟩
 unfold szI
 dsimp only at this
 omega
theorem zmF {s : Int} (h0 : 0 ≤ s) (h1 : s ≤ 256) : zaD Tryz.prog 9 (.lit (.string ({ data:=(((73 :: 83 :: 88 :: 88 :: 88 :: 88 :: 88 :: 88 :: 88 :: 84 :: 90 :: 88 :: 88 :: 90 :: 88 :: 88 :: 88 :: 88 :: 88 :: 88 :: 88 :: 88 :: 90 :: 88 :: 88 :: 88 :: 88 :: 88 :: 88 :: 88 :: 88 :: 88 :: 66 :: 70 :: 70 :: 72 :: 73 :: 66 :: 68 :: 71 :: 70 :: 70 :: 68 :: 71 :: 68 :: 66 :: 66 :: 66 :: 65 :: 65 :: 65 :: 66 :: 66 :: 66 :: 66 :: 66 :: 66 :: 66 :: 67 :: 68 :: 75 :: 66 :: 72 :: 70 :: []).append (73 :: 66 :: 67 :: 67 :: 67 :: 67 :: 67 :: 67 :: 67 :: 67 :: 67 :: 67 :: 67 :: 67 :: 67 :: 67 :: 67 :: 67 :: 67 :: 67 :: 67 :: 67 :: 67 :: 67 :: 68 :: 67 :: 68 :: 73 :: 79 :: 73 :: 74 :: 66 :: 75 :: 65 :: 66 :: 65 :: 66 :: 65 :: 66 :: 66 :: 66 :: 65 :: 67 :: 67 :: 66 :: 66 :: 66 :: 65 :: 66 :: 67 :: 66 :: 65 :: 65 :: 66 :: 67 :: 67 :: 67 :: 67 :: 67 :: 75 :: 71 :: 74 :: 73 :: 88 :: [])).append ((80 :: 82 :: 80 :: 80 :: 82 :: 82 :: 82 :: 83 :: 82 :: 83 :: 83 :: 83 :: 83 :: 83 :: 84 :: 83 :: 84 :: 84 :: 82 :: 83 :: 84 :: 83 :: 83 :: 83 :: 83 :: 81 :: 82 :: 83 :: 82 :: 83 :: 83 :: 84 :: 82 :: 81 :: 80 :: 82 :: 82 :: 83 :: 83 :: 81 :: 83 :: 82 :: 82 :: 84 :: 81 :: 82 :: 83 :: 83 :: 81 :: 81 :: 82 :: 81 :: 83 :: 82 :: 83 :: 83 :: 80 :: 82 :: 82 :: 82 :: 83 :: 82 :: 82 :: 83 :: []).append ((86 :: 86 :: 80 :: 79 :: 82 :: 83 :: 82 :: 85 :: 86 :: 86 :: 86 :: 87 :: 87 :: 86 :: 84 :: 85 :: 79 :: 81 :: 86 :: 87 :: 87 :: 86 :: 87 :: 84 :: 81 :: 81 :: 86 :: 86 :: 88 :: 87 :: 87 :: 87 :: []).append (80 :: 84 :: 80 :: 81 :: 82 :: 81 :: 81 :: 83 :: 82 :: 82 :: 85 :: 85 :: 84 :: 84 :: 86 :: 83 :: 86 :: 87 :: 86 :: 86 :: 87 :: 87 :: 87 :: 87 :: 87 :: 88 :: 87 :: 87 :: 87 :: 87 :: 87 :: 86 :: 90 :: [])))).toArray }))) (.lit (.int .i64 s)) = some (.lit (.int .u8 ((lenT.getD s.toNat 0).toNat : Nat))):=by
 have hd : ({ data:=(((73 :: 83 :: 88 :: 88 :: 88 :: 88 :: 88 :: 88 :: 88 :: 84 :: 90 :: 88 :: 88 :: 90 :: 88 :: 88 :: 88 :: 88 :: 88 :: 88 :: 88 :: 88 :: 90 :: 88 :: 88 :: 88 :: 88 :: 88 :: 88 :: 88 :: 88 :: 88 :: 66 :: 70 :: 70 :: 72 :: 73 :: 66 :: 68 :: 71 :: 70 :: 70 :: 68 :: 71 :: 68 :: 66 :: 66 :: 66 :: 65 :: 65 :: 65 :: 66 :: 66 :: 66 :: 66 :: 66 :: 66 :: 66 :: 67 :: 68 :: 75 :: 66 :: 72 :: 70 :: []).append (73 :: 66 :: 67 :: 67 :: 67 :: 67 :: 67 :: 67 :: 67 :: 67 :: 67 :: 67 :: 67 :: 67 :: 67 :: 67 :: 67 :: 67 :: 67 :: 67 :: 67 :: 67 :: 67 :: 67 :: 68 :: 67 :: 68 :: 73 :: 79 :: 73 :: 74 :: 66 :: 75 :: 65 :: 66 :: 65 :: 66 :: 65 :: 66 :: 66 :: 66 :: 65 :: 67 :: 67 :: 66 :: 66 :: 66 :: 65 :: 66 :: 67 :: 66 :: 65 :: 65 :: 66 :: 67 :: 67 :: 67 :: 67 :: 67 :: 75 :: 71 :: 74 :: 73 :: 88 :: [])).append ((80 :: 82 :: 80 :: 80 :: 82 :: 82 :: 82 :: 83 :: 82 :: 83 :: 83 :: 83 :: 83 :: 83 :: 84 :: 83 :: 84 :: 84 :: 82 :: 83 :: 84 :: 83 :: 83 :: 83 :: 83 :: 81 :: 82 :: 83 :: 82 :: 83 :: 83 :: 84 :: 82 :: 81 :: 80 :: 82 :: 82 :: 83 :: 83 :: 81 :: 83 :: 82 :: 82 :: 84 :: 81 :: 82 :: 83 :: 83 :: 81 :: 81 :: 82 :: 81 :: 83 :: 82 :: 83 :: 83 :: 80 :: 82 :: 82 :: 82 :: 83 :: 82 :: 82 :: 83 :: []).append ((86 :: 86 :: 80 :: 79 :: 82 :: 83 :: 82 :: 85 :: 86 :: 86 :: 86 :: 87 :: 87 :: 86 :: 84 :: 85 :: 79 :: 81 :: 86 :: 87 :: 87 :: 86 :: 87 :: 84 :: 81 :: 81 :: 86 :: 86 :: 88 :: 87 :: 87 :: 87 :: []).append (80 :: 84 :: 80 :: 81 :: 82 :: 81 :: 81 :: 83 :: 82 :: 82 :: 85 :: 85 :: 84 :: 84 :: 86 :: 83 :: 86 :: 87 :: 86 :: 86 :: 87 :: 87 :: 87 :: 87 :: 87 :: 88 :: 87 :: 87 :: 87 :: 87 :: 87 :: 86 :: 90 :: [])))).toArray } : ByteArray).data = lenT.toArray:=by kernel_rfl
 generalize ({ data:=(((73 :: 83 :: 88 :: 88 :: 88 :: 88 :: 88 :: 88 :: 88 :: 84 :: 90 :: 88 :: 88 :: 90 :: 88 :: 88 :: 88 :: 88 :: 88 :: 88 :: 88 :: 88 :: 90 :: 88 :: 88 :: 88 :: 88 :: 88 :: 88 :: 88 :: 88 :: 88 :: 66 :: 70 :: 70 :: 72 :: 73 :: 66 :: 68 :: 71 :: 70 :: 70 :: 68 :: 71 :: 68 :: 66 :: 66 :: 66 :: 65 :: 65 :: 65 :: 66 :: 66 :: 66 :: 66 :: 66 :: 66 :: 66 :: 67 :: 68 :: 75 :: 66 :: 72 :: 70 :: []).append (73 :: 66 :: 67 :: 67 :: 67 :: 67 :: 67 :: 67 :: 67 :: 67 :: 67 :: 67 :: 67 :: 67 :: 67 :: 67 :: 67 :: 67 :: 67 :: 67 :: 67 :: 67 :: 67 :: 67 :: 68 :: 67 :: 68 :: 73 :: 79 :: 73 :: 74 :: 66 :: 75 :: 65 :: 66 :: 65 :: 66 :: 65 :: 66 :: 66 :: 66 :: 65 :: 67 :: 67 :: 66 :: 66 :: 66 :: 65 :: 66 :: 67 :: 66 :: 65 :: 65 :: 66 :: 67 :: 67 :: 67 :: 67 :: 67 :: 75 :: 71 :: 74 :: 73 :: 88 :: [])).append ((80 :: 82 :: 80 :: 80 :: 82 :: 82 :: 82 :: 83 :: 82 :: 83 :: 83 :: 83 :: 83 :: 83 :: 84 :: 83 :: 84 :: 84 :: 82 :: 83 :: 84 :: 83 :: 83 :: 83 :: 83 :: 81 :: 82 :: 83 :: 82 :: 83 :: 83 :: 84 :: 82 :: 81 :: 80 :: 82 :: 82 :: 83 :: 83 :: 81 :: 83 :: 82 :: 82 :: 84 :: 81 :: 82 :: 83 :: 83 :: 81 :: 81 :: 82 :: 81 :: 83 :: 82 :: 83 :: 83 :: 80 :: 82 :: 82 :: 82 :: 83 :: 82 :: 82 :: 83 :: []).append ((86 :: 86 :: 80 :: 79 :: 82 :: 83 :: 82 :: 85 :: 86 :: 86 :: 86 :: 87 :: 87 :: 86 :: 84 :: 85 :: 79 :: 81 :: 86 :: 87 :: 87 :: 86 :: 87 :: 84 :: 81 :: 81 :: 86 :: 86 :: 88 :: 87 :: 87 :: 87 :: []).append (80 :: 84 :: 80 :: 81 :: 82 :: 81 :: 81 :: 83 :: 82 :: 82 :: 85 :: 85 :: 84 :: 84 :: 86 :: 83 :: 86 :: 87 :: 86 :: 86 :: 87 :: 87 :: 87 :: 87 :: 87 :: 88 :: 87 :: 87 :: 87 :: 87 :: 87 :: 86 :: 90 :: [])))).toArray } : ByteArray) = str at hd ⊢
 unfold zaD
 rw [show Tryz.prog.underlying 9 = some .string from by rfl]
 dsimp only
 have hs : str.size = lenT.length:=by rw [show str.size = str.data.size from rfl,hd];simp
 have hj : s.toNat < lenT.length:=by rw [zeY];omega
 rw [if_pos ⟨h0,by rw [hs,zeY];omega⟩,hd]
 congr 4
 simp [Array.getD,List.getD,hj]
theorem zjP (s : Int) (h0 : 0 ≤ s) (h1 : s ≤ 256) : AEq Tryz.prog 247 [i64 s] [] (i64 (szI s)) []:=by
 have hb:=zg6 ⟨s.toNat,by omega⟩
 dsimp only at hb
 have hsz : szI s = ((lenT.getD s.toNat 0).toNat : Int) - 60:=rfl
 rw [hsz]
 have hix:=zmF h0 h1
 obtain ⟨x,hx⟩ : ∃ x,lenT.getD s.toNat 0 = x:=⟨_,rfl⟩
 rw [hx] at hb hix ⊢
 simp only [go_sem,seval,↓reduceIte] at hix
 refine zc Tryz.func247 rfl Tryz.ntmps247 (by simp) (fun hsc=>?_);simp only [Lf.enter,Nat.reduceAdd];clear hsc
 have hU:=@hix
 repeat' (first|(refine goR ?_)|(refine za (fun K hK=>?_))|((refine zh [] (by rw [Tryz.results247,Lf.zy]) (zj ?_) ?_)<;>(try (first|exact zi|exact stT)))|(refine hK _ _ ?_;clear hK K))
 all_goals exact yG (by omega)
end Go.Proofs.YtdalcgfnlbofdaaGreatDoor
namespace Go.Lf
open Go
theorem zdg {M : Nat → Prop} {w : World} : ∀ l : List UInt8, PVl M w (l.map zf).flatten (l.map fun x => Value.int .u8 x.toNat)
 | []=>by simp [PVl]
 | x :: l=>by simp only [List.map_cons,List.flatten_cons,zf,List.cons_append,List.nil_append,PVl,PV];exact ⟨trivial,zdg l⟩
theorem zg8 {P : Program} {N : Nat} {o : Oper} {Γ : Env} {σ : Sto} {K : AV → Sto → Prop} {t t2 e : Nat} {x : Operand} {l : List UInt8} (ho : o.op = .convert t2 t x) (hs : P.underlying t2 = some .string) (ht : P.underlying t = some (.slice e)) (he : P.underlying e = some (.int .u8))
    (hx : ev Γ x = .lit (.string ⟨l.toArray⟩)) (hl : l.length ≤ 9223372036854775807) (hK : K (.sl false false (l.map zf)) σ) : SOp P N o Γ σ K:=by
  intro ρ w a next Q hF hr hn'
  have hv:=hF.ev x
  rw [hx] at hv
  simp only [VR] at hv
  have hrun0:=Go.Lib.run_convert_string_bytes (P:=P) w t2 t e ⟨l.toArray⟩ hs ht he
  have hls : (⟨l.toArray⟩ : ByteArray).size = l.length:=rfl
  have hrun : (execOp a.eval o).run P w = .ok (.value (.slice (some ⟨w.heap.size,0,none⟩) l.length (grownCap w l.length 0 e))) (Go.Lib.bytesWorld w e ⟨l.toArray⟩):=by
    rw [hls] at hrun0
    simp [execOp,ho,hv,hrun0]
  obtain ⟨w',hw⟩ : ∃ w',Go.Lib.bytesWorld w e ⟨l.toArray⟩ = w':=⟨_,rfl⟩
  have hsz : w'.heap.size = w.heap.size + 1:=by rw [← hw];exact Go.Lib.bytesWorld_size w e _
  have hkk : ∀ b,b < w.heap.size → w'.heap[b]? = w.heap[b]?:=fun b hb=>by rw [← hw];exact Go.Lib.bytesWorld_at_old w e _ b hb
  have hcell : ∀ j (hj : j < l.length),w'.cell? ⟨w.heap.size,j,none⟩ = some (.int .u8 (l[j].toNat : Int)):=by
    intro j hj
    rw [← hw]
    have:=Go.Lib.bytesWorld_cell w e ⟨l.toArray⟩ j hj
    rw [this]
    simp [List.getD,hj]
  have hfl : w'.os = w.os ∧ w'.tape = w.tape ∧ w'.output = w.output:=by rw [← hw];unfold Go.Lib.bytesWorld World.freeze;rw [if_neg (by decide)];exact ⟨rfl,rfl,rfl⟩
  have st : Step σ.length σ ρ w σ ρ w':=⟨hfl.1,hfl.2.1,hfl.2.2,by omega,fun b hb _=>hkk b hb,fun b hb=>.inl hb,Nat.le_refl _,Nat.le_refl _,fun o ho=>.refl _ _ (by simp;omega),rfl⟩
  have hr' : Rel σ ρ w':=by
    refine ⟨fun o ob h=>?_,hr.inj,fun b hb=>Nat.lt_of_lt_of_le (hr.fol b hb) (by omega),hr.dis⟩
    have hO:=hr.obj _ _ h
    cases hl : ob.live with
    | false=>cases ob<;>simp [Ob.live] at hl;trivial
    | true=>exact hO.carry st (fun b hb'=>hkk b (hr.blk_lt _ _ _ h hl hb'))
  unfold Oper.wp
  rw [hrun,Oper.upon_value,hw]
  refine hn' _ _ _ _ _ hK hr' ?_ st
  simp only [VR]
  refine ⟨some ⟨w.heap.size,0,none⟩,grownCap w l.length 0 e,1,by rw [List.length_map],by rw [List.length_map];exact grownCap_ge w _ _ _,grownCap_le_maxLen w _ _ _ (by simp only [maxLen];omega),by simp,by simp,by intro y hy;simp only [List.mem_map] at hy;obtain ⟨_,_,rfl⟩:=hy;rfl,fun _=>⟨w.heap.size,0,rfl,by omega,?_,?_⟩⟩
  · intro hB
    rcases (Bset.mset hB) with ⟨o2,ob2,q1,q2,q3⟩|q
    · have := hr.blk_lt _ _ _ q1 q2 q3
      omega
    · have := hr.fol _ q
      omega
  · refine jT _ _ _ ?_
    refine j9 _ (l.map fun x=>Value.int .u8 x.toNat) _ _ ?_ ?_ (fun j u hj=>?_)
    · exact zdg l
    · intro v hv
      simp only [List.mem_map] at hv
      obtain ⟨y,_,rfl⟩:=hv
      rfl
    · rw [Nat.zero_add]
      rw [List.getElem?_map] at hj
      cases hg : l[j]? with
      | none=>rw [hg] at hj;cases hj
      | some y=>
        obtain ⟨hjl,hy⟩:=List.getElem?_eq_some_iff.1 hg
        rw [hg] at hj
        simp only [Option.map_some,Option.some.injEq] at hj
        rw [hcell j hjl,hy,← hj]
theorem zg9 {P : Program} {N : Nat} {o : Oper} {Γ : Env} {σ : Sto} {K : AV → Sto → Prop} {t t2 e : Nat} {x : Operand} {l : List UInt8} (ho : o.op = .convert t2 t x) (hs : P.underlying t2 = some .string) (ht : P.underlying t = some (.slice e)) (he : P.underlying e = some (.int .u8))
    (hx : ev Γ x = .lit (.string ⟨l.toArray⟩)) (hl : l.length ≤ 9223372036854775807) (hK : K (.sl false false (l.map zf)) σ) : SOp P N o Γ σ K:=zg8 ho hs ht he hx hl hK
end Go.Lf
namespace Go.Proofs.YtdalcgfnlbofdaaGreatDoor
open Go Go.Lf Go.Proofs
attribute [local irreducible] Lf.rg Lf.ro Lf.PWp Lf.SOp Lf.ACall Lf.Scoped Lf.dg Lf.dw
set_option maxRecDepth 20000
set_option maxHeartbeats 4000000
section
variable {P : Program} {N : Nat} {o : Oper} {Γ : Env} {σ : Sto} {K : AV → Sto → Prop} {x y : Operand} {ts : Array TypeId} {k k' : IntKind} {a b : Int}
theorem j2 (ho : o.op = .call { callee:=.builtin .max,args:=#[x,y],argTypes:=ts }) (hx : ev Γ x = .lit (.int k a)) (hy : ev Γ y = .lit (.int k' b)) (h : b ≤ a) (hK : K (.lit (.int k a)) σ) : SOp P N o Γ σ K:=by
 refine SOp.pure (.lit (.int k a)) (fun ρ w ac hf hr=>⟨.int k a,?_,rfl⟩) hK
 have e1:=hf.lit hx
 have e2:=hf.lit hy
 have h2 : ¬ b > a:=by omega
 simp [execOp,ho,resolve,invoke,builtin,Builtin.max_,Builtin.max2,e1,e2,h2]
theorem zaX (ho : o.op = .call { callee:=.builtin .max,args:=#[x,y],argTypes:=ts }) (hx : ev Γ x = .lit (.int k a)) (hy : ev Γ y = .lit (.int k' b)) (h : a ≤ b) (hK : K (.lit (.int k b)) σ) : SOp P N o Γ σ K:=by
 refine SOp.pure (.lit (.int k b)) (fun ρ w ac hf hr=>⟨.int k b,?_,rfl⟩) hK
 have e1:=hf.lit hx
 have e2:=hf.lit hy
 by_cases h2 : b > a
 ·simp [execOp,ho,resolve,invoke,builtin,Builtin.max_,Builtin.max2,e1,e2,h2]
 ·obtain rfl : a = b := by omega
  simp [execOp,ho,resolve,invoke,builtin,Builtin.max_,Builtin.max2,e1,e2]
theorem zd5 (ho : o.op = .call { callee:=.builtin .max,args:=#[x,y],argTypes:=ts }) (hx : ev Γ x = .lit (.int k a)) (hy : ev Γ y = .lit (.int k b)) (hK : K (.lit (.int k (max a b))) σ) : SOp P N o Γ σ K:=by
 by_cases h : b ≤ a
 ·rw [show max a b = a from by omega] at hK
  exact j2 ho hx hy h hK
 ·rw [show max a b = b from by omega] at hK
  exact zaX ho hx hy (by omega) hK
end
end Go.Proofs.YtdalcgfnlbofdaaGreatDoor
namespace Go.Proofs.YtdalcgfnlbofdaaGreatDoor
open Go Go.Lf Go.Proofs
attribute [local irreducible] Lf.rg Lf.ro Lf.PWp Lf.SOp Lf.ACall Lf.Scoped Lf.dg Lf.dw
set_option maxRecDepth 20000
set_option maxHeartbeats 4000000
@[go_sem] theorem ztn {i : Nat} {r : List Operand} : tl (.global i :: r) = tl r:=rfl
def zha (x : Int) : Int:=if 128 ≤ x then 1 else if 64 ≤ x then 2 else if 32 ≤ x then 5 else if 16 ≤ x then 4 else 3
def frI (k : Int) : Int:=if k = 1 then 128 else if k = 2 then 64 else if k = 5 then 32 else if k = 4 then 16 else 0
def biI (k : Int) : Int:=if k = 1 then 7 else if k = 2 then 6 else if k = 5 then 5 else 4
def txB (k : Int) : Bool:=k == 2 || k == 3 || k == 4
def wiB (n : Int) : Bool:=decide (0 ≤ n) && decide (n ≤ 2147483647)
def bM (x : Int) (k : Nat) : Int:=if k ≤ 1 then 3 else if 128 ≤ x then 1 else if k = 2 then 3 else if 64 ≤ x then 2 else if k ≤ 4 then 3 else if k = 5 then (if 16 ≤ x then 4 else 3) else if 32 ≤ x then 5 else if 16 ≤ x then 4 else 3
attribute [local irreducible] bM zha
theorem zac (k : Int) : AEq Tryz.prog 198 [i64 k] [] (bl (txB k)) []:=by
 refine zc Tryz.func198 rfl Tryz.ntmps198 (by simp) (fun hsc=>?_);simp only [Lf.enter,Nat.reduceAdd];clear hsc
 have hU:=True.intro
 repeat' (first|(refine goR ?_)|(refine za (fun K hK=>?_))|((refine zh [] (by rw [Tryz.results198,Lf.zy]) (zj ?_) ?_)<;>(try (first|exact zi|exact stT)))|(refine hK _ _ ?_;clear hK K))
 all_goals exact yc rfl
theorem zmG (n : Int) : AEq Tryz.prog 220 [i64 n] [] (bl (wiB n)) []:=by
 refine zc Tryz.func220 rfl Tryz.ntmps220 (by simp) (fun hsc=>?_);simp only [Lf.enter,Nat.reduceAdd];clear hsc
 have hU:=True.intro
 repeat' (first|(refine goR ?_)|(refine za (fun K hK=>?_))|((refine zh [] (by rw [Tryz.results220,Lf.zy]) (zj ?_) ?_)<;>(try (first|exact zi|exact stT)))|(refine hK _ _ ?_;clear hK K))
 all_goals exact yc rfl
end Go.Proofs.YtdalcgfnlbofdaaGreatDoor
namespace Go.Proofs.YtdalcgfnlbofdaaGreatDoor
open Go Go.Lf Go.Proofs
attribute [local irreducible] Lf.rg Lf.ro Lf.PWp Lf.SOp Lf.ACall Lf.Scoped Lf.dg Lf.dw
set_option maxRecDepth 20000
set_option maxHeartbeats 4000000
theorem zhb {P : Program} {N : Nat} {o : Oper} {Γ : Env} {σ : Sto} {K : AV → Sto → Prop} {f : FuncId} {x : Operand} {args : Array Operand} {ts : Array TypeId} (ho : o.op = .call { callee := .value x, args := args, argTypes := ts }) (hx : Lf.ev Γ x = .lit (.func (.func f) #[] #[]))
    (hc : ∀ (args : Array Value) (w : World),(callFunc f args).run P w = .ok (.enter f args) w) (h : ACall P f (args.toList.map (Lf.ev Γ)) σ K) : SOp P N o Γ σ K:=by
  unfold SOp
  unfold ACall at h
  intro ρ w a next Q hf hr hn
  have e:=hf.lit hx
  have hrun : (execOp a.eval o).run P w = .ok (.enter f (args.map a.eval)) w:=by
    simp [execOp,ho,resolve,Deferred.ofValue,e,invoke,hc]
  unfold Oper.wp
  rw [hrun,Oper.upon_enter]
  have hvs : ∀ l : List Operand,VRl σ ρ w (l.map (Lf.ev Γ)) (l.map a.eval):=by
    intro l
    induction l with
    | nil=>simp [VRl]
    | cons x l ih=>simp only [List.map_cons,VRl];exact ⟨hf.ev x,ih⟩
  have:=h ρ w (args.toList.map a.eval) hr hf.2.1.2 (hvs _)
  have harr : (args.toList.map a.eval).toArray = args.map a.eval:=Array.ext' (by simp)
  rw [harr] at this
  refine this.mono ?_
  rintro e w' ⟨r,σ',ρ',v,rfl,h2,h3,h4,h5⟩
  exact hn r σ' ρ' w' v h2 h3 h4 h5
theorem zcg {P : Program} {N : Nat} {o : Oper} {Γ : Env} {σ : Sto} {K : AV → Sto → Prop} {f : FuncId} {x : Operand} {args : Array Operand} {ts : Array TypeId} {ys : List AV} (ho : o.op = .call { callee := .value x, args := args, argTypes := ts }) (hx : Lf.ev Γ x = .lit (.func (.func f) #[] #[]))
    (hc : ∀ (args : Array Value) (w : World),(callFunc f args).run P w = .ok (.enter f args) w) (has : args.toList.map (Lf.ev Γ) = ys) (h : ACall P f ys σ K) : SOp P N o Γ σ K:=by
  subst has
  exact zhb ho hx hc h
end Go.Proofs.YtdalcgfnlbofdaaGreatDoor
namespace Go.Lf
open Go
theorem zfS {P : Program} {N : Nat} {o : Oper} {Γ : Env} {σ : Sto} {K : AV → Sto → Prop} {k : FuncId} {cs : Array Operand} (ho : o.op = .makeFunc (.func k) #[] cs) (hK : K (.fn k (cs.toList.map (ev Γ))) σ) : SOp P N o Γ σ K:=by
 refine SOp.pure _ (fun ρ w a hf hr=>⟨.func (.func k) #[] (cs.map a.eval),by simp [execOp,ho,Instr.makeFunc],?_⟩) hK
 simp only [VR]
 refine ⟨cs.toList.map a.eval,by rw [← Array.toList_map,Array.toArray_toList],?_⟩
 generalize cs.toList = l
 induction l with
 | nil=>simp [VRl]
 | cons x l ih=>simp only [List.map_cons,VRl];exact ⟨hf.ev x,ih⟩
theorem jB {P : Program} {N : Nat} {o : Oper} {Γ : Env} {σ : Sto} {K : AV → Sto → Prop} {k : FuncId} {cs : Array Operand} {ys : List AV} (ho : o.op = .makeFunc (.func k) #[] cs) (hy : cs.toList.map (ev Γ) = ys) (hK : K (.fn k ys) σ) : SOp P N o Γ σ K:=by
 subst hy
 exact zfS ho hK
theorem zhc {P : Program} {N : Nat} {o : Oper} {Γ : Env} {σ : Sto} {K : AV → Sto → Prop} {f : FuncId} {x : Operand} {ys : List AV} {args : Array Operand} {ts : Array TypeId} (ho : o.op = .call { callee := .value x, args := args, argTypes := ts }) (hx : Lf.ev Γ x = .fn f ys)
    (hc : ∀ (args : Array Value) (w : World),(callFunc f args).run P w = .ok (.enter f args) w) (h : ACall P f (args.toList.map (Lf.ev Γ) ++ ys) σ K) : SOp P N o Γ σ K:=by
  unfold SOp
  unfold ACall at h
  intro ρ w a next Q hf hr hn
  have hv:=hf.ev x
  rw [hx] at hv
  simp only [VR] at hv
  obtain ⟨cv,e,hcv⟩:=hv
  have hrun : (execOp a.eval o).run P w = .ok (.enter f (args.map a.eval ++ cv.toArray)) w:=by
    simp [execOp,ho,resolve,Deferred.ofValue,e,invoke,hc]
  unfold Oper.wp
  rw [hrun,Oper.upon_enter]
  have hvs : ∀ l : List Operand,VRl σ ρ w (l.map (Lf.ev Γ)) (l.map a.eval):=by
    intro l
    induction l with
    | nil=>simp [VRl]
    | cons x l ih=>simp only [List.map_cons,VRl];exact ⟨hf.ev x,ih⟩
  have:=h ρ w (args.toList.map a.eval ++ cv) hr hf.2.1.2 (yD _ _ _ _ (hvs _) hcv)
  have harr : (args.toList.map a.eval ++ cv).toArray = args.map a.eval ++ cv.toArray:=Array.ext' (by simp)
  rw [harr] at this
  refine this.mono ?_
  rintro e w' ⟨r,σ',ρ',v,rfl,h2,h3,h4,h5⟩
  exact hn r σ' ρ' w' v h2 h3 h4 h5
theorem zch {P : Program} {N : Nat} {o : Oper} {Γ : Env} {σ : Sto} {K : AV → Sto → Prop} {f : FuncId} {x : Operand} {ys zs : List AV} {args : Array Operand} {ts : Array TypeId} (ho : o.op = .call { callee := .value x, args := args, argTypes := ts }) (hx : Lf.ev Γ x = .fn f ys)
    (hc : ∀ (args : Array Value) (w : World),(callFunc f args).run P w = .ok (.enter f args) w) (has : args.toList.map (Lf.ev Γ) ++ ys = zs) (h : ACall P f zs σ K) : SOp P N o Γ σ K:=by
  subst has
  exact zhc ho hx hc h
end Go.Lf
namespace Go.Proofs.YtdalcgfnlbofdaaGreatDoor
open Go Go.Lf Go.Proofs
attribute [local irreducible] Lf.rg Lf.ro Lf.PWp Lf.SOp Lf.ACall Lf.Scoped Lf.dg Lf.dw
set_option maxRecDepth 20000
set_option maxHeartbeats 4000000
@[go_sem] def bsA (b : List UInt8) : List AV:=[.sl false false (b.map zf)]
@[go_sem] theorem zto (l : List (List UInt8)) : vn (l.map bsA).flatten = true:=yd (fun a=>by simp [bsA,vn,pur]) l
@[go_sem] theorem zjQ {κ : List Nat} {σ : Sto} (l : List (List UInt8)) : List.map (fzl κ σ) (l.map bsA) = l.map bsA:=vG (fun _=>rfl) l
def zd6 (d : List UInt8) : List (List UInt8) → Int → Int
 | [],_=>-1
 | x :: l,i=>if x = d then i else zd6 d l (i + 1)
end Go.Proofs.YtdalcgfnlbofdaaGreatDoor
