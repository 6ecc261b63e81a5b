import Derived.Test.YtdalcgfnlbofdaaGreatDoorTg
import Derived.Test.YtdalcgfnlbofdaaGreatDoorTy
import Derived.Test.YtdalcgfnlbofdaaGreatDoorLc
set_option linter.unusedVariables false
set_option linter.unusedSimpArgs false
namespace Go.Proofs.YtdalcgfnlbofdaaGreatDoor
open Go Go.Lf Go.Proofs
attribute [local irreducible] Lf.rg Lf.ro Lf.PWp Lf.SOp Lf.ACall Lf.Scoped Lf.dg Lf.dw
set_option maxRecDepth 20000
set_option maxHeartbeats 4000000
theorem z9 {α : Type} {l : List α} {i : Nat} {x : α} (h : l[i]? = some x) : l.take (i + 1) = l.take i ++ [x]:=by
 rw [List.take_add_one,h];rfl
theorem zhk (f g q r : Bool) (a b : List UInt8) (hb : a.length ≤ 4000000000000000000) : AEq Tryz.prog 75 [.sl f q (a.map zf),.sl g r (b.map zf)] [] (bl (decide (a = b))) []:=by
  by_cases h : a.length = b.length
  · refine zc Tryz.func75 rfl Tryz.ntmps75 (by simp) (fun hsc => ?_); simp only [Lf.enter, Nat.reduceAdd]; clear hsc
    have hU:=True.intro
    repeat' (first|(refine goR ?_)|(refine za (fun K hK=>?_))|((refine zb (fun hcd=>?_) (fun hcd=>?_))<;>(try simp only [hcP] at hcd)<;>(try exact cdT))|(refine hK _ _ ?_;clear hK K))
    refine zo [4,5,11,12,13,14,15,16,17,18,19,20,21,22,23,24,25] (fun i : Nat=>[(5,i64 i)]) (fun _=>[]) (fun i=>i ≤ a.length ∧ a.take i = b.take i) (fun i=>a.length - i) 0 ⟨Nat.zero_le _,rfl⟩ ?_ rfl ?_
    · (refine ⟨⟨_,sT,?_⟩,trivial⟩<;>(try (first|exact zh)))
    · rintro i ⟨hi, ht⟩
      simp only [yn,List.map_cons,List.map_nil,List.cons_append,List.nil_append]
      by_cases hlt : i < a.length
      · obtain ⟨x, hx⟩ : ∃ x, a[i]? = some x := ⟨a[i], List.getElem?_eq_getElem hlt⟩
        obtain ⟨y,hy⟩ : ∃ y,b[i]? = some y:=⟨b[i],List.getElem?_eq_getElem (by omega)⟩
        repeat' (first|(refine goR ?_)|(refine za (fun K hK=>?_))|(guard_target =~ PWp _ _ _ _ _ _ _;refine zG mixed (by kernel_rfl) ?_)|((refine zb (fun hcd=>?_) (fun hcd=>?_))<;>(try simp only [hcP] at hcd)<;>(try exact cdT))|((refine ze [] (by rw [Tryz.results75,Lf.zt]) (zj ?_) ?_)<;>(try (first|exact zh|exact stT)))|(guard_target =~ dg _ _ _ _ _ _ _;first|(guard_target =~ dg _ _ _ (⟨_,.indexAddr _ _ _,_,_,_,none⟩ :: _) _ _ _;(refine yY (x:=_) (h:=zQ (h:=yP rfl (hK:=zi ⟨rfl,rfl⟩))) (hk:=?_))))|(refine hK _ _ ?_;clear hK K))
        · have hne : a ≠ b:=by
            rintro rfl
            rw [hx] at hy
            cases hy
            exact hcd rfl
          exact zA (by simp [hne])
        · have hxy : x = y := UInt8.toNat_inj.1 (by omega)
          refine ⟨i + 1,⟨by omega,by rw [z9 hx,z9 hy,ht,hxy]⟩,by omega,?_,arT,rfl⟩
          (refine ⟨⟨_,sT,?_⟩,trivial⟩<;>(try (first|exact zh)))
      · have hab : a = b:=by
          have h1 : a.take i = a:=List.take_of_length_le (by omega)
          have h2 : b.take i = b:=List.take_of_length_le (by omega)
          rw [← h1,← h2];exact ht
        subst hab
        repeat' (first|(refine goR ?_)|(refine za (fun K hK=>?_))|((refine zb (fun hcd=>?_) (fun hcd=>?_))<;>(try simp only [hcP] at hcd)<;>(try exact cdT))|((refine ze [] (by rw [Tryz.results75,Lf.zt]) (zj ?_) ?_)<;>(try (first|exact zh|exact stT)))|(refine hK _ _ ?_;clear hK K)|(apply_assumption (exfalso:=false) (symm:=false)))
        exact zA (by simp)
  · have : a ≠ b := fun e => h (by rw [e])
    rw [show decide (a = b) = false by simp [this]]
    refine zc Tryz.func75 rfl Tryz.ntmps75 (by simp) (fun hsc=>?_);simp only [Lf.enter,Nat.reduceAdd];clear hsc
    have hU:=True.intro
    repeat' (first|(refine goR ?_)|(refine za (fun K hK=>?_))|((refine zb (fun hcd=>?_) (fun hcd=>?_))<;>(try simp only [hcP] at hcd)<;>(try exact cdT))|((refine ze [] (by rw [Tryz.results75,Lf.zt]) (zj ?_) ?_)<;>(try (first|exact zh|exact stT)))|(refine hK _ _ ?_;clear hK K))
theorem zdX (f q : Bool) (l : List UInt8) (h : l.length ≤ 100000000000000) : AEq Tryz.prog 143 [.sl f q (l.map zf)] [] (.sl false false (l.map zf)) []:=by
  refine zc Tryz.func143 rfl Tryz.ntmps143 (by simp) (fun hsc=>?_);simp only [Lf.enter,Nat.reduceAdd];clear hsc
  have hU:=True.intro
  repeat' (first|(refine goS ?_)|(refine za (fun K hK=>?_))|((refine zb (fun hcd=>?_) (fun hcd=>?_))<;>(try simp only [hcP] at hcd)<;>(try exact cdT))|(guard_target =~ SOp _ _ ⟨_,.binOp _ _ _ _ _,_,_,_,none⟩ _ _ _;refine zmV (ne:=false) rfl (hx:=⟨_,sT,rfl⟩) (hK:=(fun b hb=>?_)))|((refine ze [] (by rw [Tryz.results143,Lf.zt]) (zj ?_) ?_)<;>(try (first|exact zh|exact stT)))|(refine hK _ _ ?_;clear hK K))
  · have : l = []:=by
      cases l with
      | nil=>rfl
      | cons x l=>simp_all
    subst this
    exact zaQ (by simp)
theorem zcj {P : Program} {N : Nat} {o : Oper} {Γ : Env} {σ : Sto} {K : AV → Sto → Prop} {x y : Operand} {t e sz bt : Nat} {z : Value} {f q : Bool} {xs ys : List (List AV)} {X Y : AV}
    (ho : o.op = .call { callee:=.builtin .append,args:=#[x,y],argTypes:=#[t,t] }) (ht : P.underlying t = some (.slice e)) (he : EO P e sz bt z)
    (hx : ev Γ x = .sl f q xs) (hY : ev Γ y = Y) (hy : rd σ Y = some ys) (hys : ys = []) (hX : AV.sl f q xs = X) (hK : K X σ) : SOp P N o Γ σ K:=by
  subst hY;subst hX;subst hys
  refine SOp.pure (.sl f q xs) (fun ρ w a hf hr=>?_) hK
  have hX:=hf.ev x
  rw [hx] at hX
  obtain ⟨ay,cy,vy,ey,ly,my,ny,sy,ry,oy,Vy⟩:=zaL hr (hf.ev y) hy
  have hX':=hX
  simp only [VR] at hX'
  obtain ⟨ax,cap,sz',e1,e2,_⟩:=hX'
  refine ⟨.slice ax xs.length cap,?_,?_⟩
  · apply v3 ho
    rw [e1,ey]
    exact yG ht he _ _ _ e2 _ _
  · rw [← e1];exact hX
def kc (x : UInt8) : List Int:=[(x.toNat : Int) / 128 % 2,(x.toNat : Int) / 64 % 2,(x.toNat : Int) / 32 % 2,(x.toNat : Int) / 16 % 2,(x.toNat : Int) / 8 % 2,(x.toNat : Int) / 4 % 2,(x.toNat : Int) / 2 % 2,(x.toNat : Int) / 1 % 2]
def y7 (b : List UInt8) : List Int:=b.flatMap kc
def ye (l : List Int) : Int:=l.foldl (fun v x=>2 * v + x) 0
theorem j2 (l : List Int) (x : Int) : ye (l ++ [x]) = 2 * ye l + x:=by simp [ye]
theorem zbF (l : List Int) (h : ∀ x ∈ l,x = 0 ∨ x = 1) : 0 ≤ ye l ∧ ye l < 2 ^ l.length:=by
 have key : ∀ (l : List Int) (v : Int),(∀ x ∈ l,x = 0 ∨ x = 1) → 0 ≤ v → 0 ≤ l.foldl (fun v x=>2 * v + x) v ∧ l.foldl (fun v x=>2 * v + x) v < (v + 1) * 2 ^ l.length:=by
  intro l
  induction l with
  | nil=>intro v _ hv;simp;omega
  | cons x l ih=>
   intro v hx hv
   have h1:=hx x List.mem_cons_self
   have:=ih (2 * v + x) (fun y hy=>hx y (List.mem_cons_of_mem _ hy)) (by omega)
   simp only [List.foldl_cons,List.length_cons]
   refine ⟨this.1,Int.lt_of_lt_of_le this.2 ?_⟩
   rw [Int.pow_succ,Int.mul_comm (2 ^ l.length) 2,← Int.mul_assoc]
   exact Int.mul_le_mul_of_nonneg_right (by omega) (Int.le_of_lt (Int.pow_pos (by decide)))
 have:=key l 0 h (Int.le_refl 0)
 simpa [ye] using this
theorem zdg (l : List Int) (h : ∀ x ∈ l,x = 0 ∨ x = 1) (hl : l.length ≤ 32) : 0 ≤ ye l ∧ ye l ≤ 4294967295:=by
 have h1:=zbF l h
 have h2 : (2 : Int) ^ l.length ≤ 2 ^ 32:=by
  rw [show (2 : Int) ^ l.length = ((2 ^ l.length : Nat) : Int) from by simp,show (2 : Int) ^ 32 = ((2 ^ 32 : Nat) : Int) from by simp]
  exact Int.ofNat_le.2 (Nat.pow_le_pow_right (by decide) hl)
 omega
theorem zdY (n : Int) : AEq Tryz.prog 248 [i64 n] [] (bl (decide (0 ≤ n) && decide (n ≤ 32))) []:=by
 refine zc Tryz.func248 rfl Tryz.ntmps248 (by simp) (fun hsc=>?_);simp only [Lf.enter,Nat.reduceAdd];clear hsc
 have hU:=True.intro
 repeat' (first|(refine goR ?_)|(refine za (fun K hK=>?_))|((refine ze [] (by rw [Tryz.results248,Lf.zt]) (zj ?_) ?_)<;>(try (first|exact zh|exact stT)))|(refine hK _ _ ?_;clear hK K))
theorem zj9 (a b : Int) : 0 ≤ zaP .u8 a b ∧ zaP .u8 a b ≤ 255:=by
 unfold zaP
 have h:=(BitVec.ofInt (IntKind.bits .u8) a &&& ~~~ BitVec.ofInt (IntKind.bits .u8) b).isLt
 have h2 : (BitVec.ofInt (IntKind.bits .u8) a &&& ~~~ BitVec.ofInt (IntKind.bits .u8) b).toNat < 256:=h
 rw [wu8 (by omega)]
 omega
def zns (y : UInt8) (j : Nat) : UInt8:=UInt8.ofNat (zaP .u8 (y.toNat : Int) (128 / 2 ^ j)).toNat
theorem zeX (y : UInt8) (j : Nat) : ((zns y j).toNat : Int) = zaP .u8 (y.toNat : Int) (128 / 2 ^ j):=by
 have:=zj9 (y.toNat : Int) (128 / 2 ^ j)
 unfold zns
 rw [UInt8.toNat_ofNat_of_lt' (by simp;omega)]
 omega
theorem zfV : ∀ (y : Fin 256) (j : Fin 8),kc (zns (UInt8.ofNat y.val) j.val) = (kc (UInt8.ofNat y.val)).set j.val 0:=by decide +kernel
theorem zhl (y : UInt8) (j : Nat) (hj : j < 8) : kc (zns y j) = (kc y).set j 0:=by
 have:=zfV ⟨y.toNat,y.toNat_lt⟩ ⟨j,hj⟩
 simpa using this
def zbq (bs : List UInt8) (k : Nat) (x : Int) : List UInt8:=
 if x = 0 then (if k % 8 = 0 then bs ++ [255] else bs).set (k / 8) (zns ((if k % 8 = 0 then bs ++ [255] else bs).getD (k / 8) 0) (k % 8)) else (if k % 8 = 0 then bs ++ [255] else bs)
def zs9 (L : List Int) : List UInt8 × Nat:=L.foldl (fun p x=>(zbq p.1 p.2 x,p.2 + 1)) ([],0)
def yu (L : List Int) : List UInt8:=(zs9 L).1
theorem zq1 (L : List Int) : (zs9 L).2 = L.length:=by
 have key : ∀ (L : List Int) (p : List UInt8 × Nat),(L.foldl (fun p x=>(zbq p.1 p.2 x,p.2 + 1)) p).2 = p.2 + L.length:=by
  intro L
  induction L with
  | nil=>intro p;rfl
  | cons x L ih=>intro p;rw [List.foldl_cons,ih];simp;omega
 have:=key L ([],0)
 simpa [zs9] using this
theorem zaW (L : List Int) (x : Int) : yu (L ++ [x]) = zbq (yu L) L.length x:=by
 have:=zq1 L
 unfold yu zs9 at *
 rw [List.foldl_append,List.foldl_cons,List.foldl_nil,this]
theorem zaX (bs : List UInt8) (k : Nat) (x : Int) : (zbq bs k x).length = if k % 8 = 0 then bs.length + 1 else bs.length:=by
 unfold zbq
 split<;>split<;>simp
theorem kF (L : List Int) : (yu L).length = (L.length + 7) / 8:=by
 have key : ∀ n (L : List Int),L.length = n → (yu L).length = (L.length + 7) / 8:=by
  intro n
  induction n with
  | zero=>intro L h;rw [List.eq_nil_of_length_eq_zero h];rfl
  | succ n ih=>
   intro L h
   obtain ⟨x,hx⟩ : ∃ x,L[n]? = some x:=⟨L[n],List.getElem?_eq_getElem (by omega)⟩
   have e : L = L.take n ++ [x]:=by rw [← z9 hx,List.take_of_length_le (by omega)]
   have hl : (L.take n).length = n:=by rw [List.length_take];omega
   rw [e,zaW,zaX,ih _ hl,List.length_append,List.length_singleton,hl]
   split<;>omega
 exact key _ L rfl
def msb (v : Int) : Nat → List Int
 | 0=>[]
 | m + 1=>(v / 2 ^ m % 2) :: msb v m
theorem znt (v : Int) (n : Nat) : (msb v n).length = n:=by induction n with|zero=>rfl|succ n ih=>simp [msb,ih]
def rpE (v n : Int) : Int:=if n < 0 ∨ 32 < n then 1 else if v < 0 ∨ 2 ^ n.toNat ≤ v then 5 else 0
def rpL (L : List Int) (v n : Int) : List Int:=if rpE v n = 0 then L ++ msb v n.toNat else L
theorem zq2 (v : Int) (m : Nat) (h0 : 0 ≤ v) (h1 : v ≤ 9223372036854775807) : zbh .i64 (v.fdiv (2 ^ (((m + 1 : Nat) : Int) - 1).toNat)) 1 = v / 2 ^ m % 2:=by
 rw [show (((m + 1 : Nat) : Int) - 1).toNat = m from by omega]
 obtain ⟨k,rfl⟩:=Int.eq_ofNat_of_zero_le h0
 have e : ((k : Int)).fdiv (2 ^ m) = ((k / 2 ^ m : Nat) : Int):=by
  rw [Int.fdiv_eq_ediv_of_nonneg _ (Int.le_of_lt (Int.pow_pos (by decide)))];simp
 have e2 : (k : Int) / 2 ^ m = ((k / 2 ^ m : Nat) : Int):=by simp
 have hq : k / 2 ^ m < 9223372036854775808:=Nat.lt_of_le_of_lt (Nat.div_le_self _ _) (by omega)
 rw [e,e2]
 generalize k / 2 ^ m = q at *
 show IntKind.i64.wrap ((BitVec.ofInt 64 (q : Int) &&& BitVec.ofInt 64 1).toNat : Int) = _
 have e : BitVec.ofInt 64 (q : Int) = BitVec.ofNat 64 q:=rfl
 have e1 : BitVec.ofInt 64 1 = BitVec.ofNat 64 1:=rfl
 rw [e,e1,BitVec.toNat_and,BitVec.toNat_ofNat,BitVec.toNat_ofNat,Nat.mod_eq_of_lt (by omega),show 1 % 2 ^ 64 = 1 from rfl,Nat.and_one_is_mod]
 have:=w64 (n:=((q % 2 : Nat) : Int)) (by omega)
 rw [this];simp
theorem zq3 (L : List Int) (v n : Int) (hL : L.length ≤ 1000000000) : AEq Tryz.prog 238 [.ptr 0 0,i64 v,i64 n] [.box [.row 1 (yu L).length,i64 L.length],.row (yu L).length 5 1 ((yu L).map zf)] (i64 (rpE v n)) [.box [.row 1 (yu (rpL L v n)).length,i64 (rpL L v n).length],.row (yu (rpL L v n)).length 5 1 ((yu (rpL L v n)).map zf)]:=by
  by_cases hn : n < 0 ∨ 32 < n
  · have h1 : rpE v n = 1 := if_pos hn
    have h2 : rpL L v n = L:=by simp [rpL,h1]
    rw [h1,h2]
    refine zc Tryz.func238 rfl Tryz.ntmps238 (by simp) (fun hsc=>?_);simp only [Lf.enter,Nat.reduceAdd];clear hsc
    have hU:=True.intro
    repeat' (first|(refine goR ?_)|(refine za (fun K hK=>?_))|((refine zb (fun hcd=>?_) (fun hcd=>?_))<;>(try simp only [hcP] at hcd)<;>(try exact cdT))|(refine zd (f:=248) rfl Tryz.call248 (h:=AEq.pure' agT (zdY _) (hq:=?_)))|((refine ze [0,1] (by rw [Tryz.results238,Lf.zt]) (zj ?_) ?_)<;>(try (first|exact zh|exact stT)))|(refine hK _ _ ?_;clear hK K))
  have hp : (2 : Int) ^ n.toNat ≤ 4294967296 ∧ 1 ≤ (2 : Int) ^ n.toNat:=by
    have h1 : 2 ^ n.toNat ≤ 2 ^ 32:=Nat.pow_le_pow_right (by decide) (by omega)
    have h2 : 0 < 2 ^ n.toNat:=Nat.pow_pos (by decide)
    have e : (2 : Int) ^ n.toNat = ((2 ^ n.toNat : Nat) : Int):=by simp
    rw [e];omega
  by_cases hv : v < 0 ∨ 2 ^ n.toNat ≤ v
  · have h1 : rpE v n = 5 := by simp only [rpE]; rw [if_neg hn, if_pos hv]
    have h2 : rpL L v n = L:=by simp [rpL,h1]
    rw [h1,h2]
    refine zc Tryz.func238 rfl Tryz.ntmps238 (by simp) (fun hsc=>?_);simp only [Lf.enter,Nat.reduceAdd];clear hsc
    have hU:=True.intro
    repeat' (first|(refine goR ?_)|(refine za (fun K hK=>?_))|((refine zb (fun hcd=>?_) (fun hcd=>?_))<;>(try simp only [hcP] at hcd)<;>(try exact cdT))|(refine zd (f:=248) rfl Tryz.call248 (h:=AEq.pure' agT (zdY _) (hq:=?_)))|((refine ze [0,1] (by rw [Tryz.results238,Lf.zt]) (zj ?_) ?_)<;>(try (first|exact zh|exact stT)))|(refine hK _ _ ?_;clear hK K))
  have h1 : rpE v n = 0:=by simp only [rpE];rw [if_neg hn,if_neg hv]
  have h2 : rpL L v n = L ++ msb v n.toNat:=by simp [rpL,h1]
  rw [h1,h2]
  generalize hM : L ++ msb v n.toNat = M
  refine zc Tryz.func238 rfl Tryz.ntmps238 (by simp) (fun hsc=>?_);simp only [Lf.enter,Nat.reduceAdd];clear hsc
  have hU:=True.intro
  repeat' (first|(refine goR ?_)|(refine za (fun K hK=>?_))|((refine zb (fun hcd=>?_) (fun hcd=>?_))<;>(try simp only [hcP] at hcd)<;>(try exact cdT))|(refine zd (f:=248) rfl Tryz.call248 (h:=AEq.pure' agT (zdY _) (hq:=?_)))|(refine hK _ _ ?_;clear hK K))
  refine zo [2,24,25,26,27,28,29,30,31,32,33,34,35,36,37,38,39,40,41,42,43,44,45,46,47,48,49,50,51,52,53,54,55,56,57,58,59,60,61,62,63,64,65,66,67,68,69,70,71,72,73,74,75] (fun s : List Int × Nat=>[(2,i64 s.2)]) (fun s=>[.box [.row 1 (yu s.1).length,i64 s.1.length],.row (yu s.1).length 5 1 ((yu s.1).map zf)]) (fun s=>s.1 ++ msb v s.2 = M ∧ s.2 ≤ 32 ∧ s.1.length + s.2 ≤ 1000000032) (fun s=>s.2) (L,n.toNat) ⟨hM,by dsimp only;omega,by dsimp only;omega⟩ ?_ rfl ?_
  · (refine ⟨⟨_, sT, ?_⟩, trivial⟩ <;> (try (first | exact zh)))
    all_goals exact zT (by omega)
  · rintro ⟨C, m⟩ ⟨hk, hm, hC⟩
    dsimp only at hk hm hC
    simp only [yn,List.map_cons,List.map_nil,List.cons_append,List.nil_append]
    have hlen:=kF C
    cases m with
    | zero=>
      rw [msb,List.append_nil] at hk
      subst hk
      repeat' (first|(refine goR ?_)|(refine za (fun K hK=>?_))|((refine zb (fun hcd=>?_) (fun hcd=>?_))<;>(try simp only [hcP] at hcd)<;>(try exact cdT))|((refine ze [0,1] (by rw [Tryz.results238,Lf.zt]) (zj ?_) ?_)<;>(try (first|exact zh|exact stT)))|(refine hK _ _ ?_;clear hK K)|(apply_assumption (exfalso:=false) (symm:=false)))
    | succ m=>
      have hb:=zq2 v m (by omega) (by omega)
      have hs:=zaW C (v / 2 ^ m % 2)
      have hk2 : (C ++ [v / 2 ^ m % 2]) ++ msb v m = M:=by rw [← hk];simp [msb]
      have hl2 : (C ++ [v / 2 ^ m % 2]).length = C.length + 1:=by simp
      by_cases h8 : C.length % 8 = 0
      · have hr : (List.map zf (yu C) ++ [[AV.lit (.int .u8 255)]])[((C.length : Int) / 8).toNat]? = some [AV.lit (.int .u8 255)]:=by
          rw [List.getElem?_append_right (by rw [List.length_map];omega),List.length_map,show ((C.length : Int) / 8).toNat - (yu C).length = 0 from by omega];rfl
        have hRl : (yu (C ++ [v / 2 ^ m % 2])).length = (yu C).length + 1:=by rw [hs,zaX,if_pos h8]
        have hR0 : v / 2 ^ m % 2 = 0 → List.map zf (yu (C ++ [v / 2 ^ m % 2])) = (List.map zf (yu C) ++ [[AV.lit (.int .u8 255)]]).set ((C.length : Int) / 8).toNat [AV.lit (.int .u8 (zaP .u8 255 (Int.fdiv 128 (2 ^ ((C.length : Int) % 8).toNat))))]:=by
          intro hx
          have hy : (yu C ++ [255]).getD (C.length / 8) 0 = 255:=by
            rw [List.getD_eq_getElem?_getD,List.getElem?_append_right (by omega),show C.length / 8 - (yu C).length = 0 from by omega];rfl
          rw [hs,zbq,if_pos hx,if_pos h8,hy,List.map_set,List.map_append,show ((C.length : Int) / 8).toNat = C.length / 8 from by omega,show ((C.length : Int) % 8).toNat = C.length % 8 from by omega]
          have:=zeX 255 (C.length % 8)
          congr 1
          show [AV.lit (.int .u8 (zns 255 (C.length % 8)).toNat)] = _
          rw [this,Int.fdiv_eq_ediv_of_nonneg _ (Int.le_of_lt (Int.pow_pos (by decide)))];rfl
        have hR1 : ¬ v / 2 ^ m % 2 = 0 → List.map zf (yu (C ++ [v / 2 ^ m % 2])) = List.map zf (yu C) ++ [[AV.lit (.int .u8 255)]]:=by
          intro hx
          rw [hs,zbq,if_neg hx,if_pos h8,List.map_append];rfl
        have hU:=And.intro @hr (@hb)
        repeat' (first|(refine goS ?_)|(guard_target =~ PWp _ _ _ _ _ _ _;refine yI (id:=12) 20 mixed (by kernel_rfl) (by kernel_rfl) (by kernel_rfl) rfl rfl ?_)|(refine za (fun K hK=>?_))|((refine zb (fun hcd=>?_) (fun hcd=>?_))<;>(try simp only [hcP] at hcd)<;>(try exact cdT))|(refine hK _ _ ?_;clear hK K)|(guard_target =~ dg _ _ _ _ _ _ _;first|(guard_target =~ dg _ _ _ (⟨_,.indexAddr _ _ _,_,_,_,none⟩ :: _) _ _ _;(refine yY (x:=_) (h:=zQ (h:=yQ rfl (hK:=zi ⟨rfl,rfl⟩))) (hk:=?_))))|(dsimp only [Lf.yW,Lf.kf]))
        · refine ⟨(C ++ [v / 2 ^ m % 2], m), ⟨hk2, by dsimp only; omega, by dsimp only; omega⟩, by dsimp only; omega, ?_, arT, by first | (dsimp only; rw [hRl, hR0 hcd, hl2]; rfl) | fail⟩
          (refine ⟨⟨_,sT,?_⟩,trivial⟩<;>(try (first|exact zh)))
          all_goals exact zT (by omega)
        · refine ⟨(C ++ [v / 2 ^ m % 2], m), ⟨hk2, by dsimp only; omega, by dsimp only; omega⟩, by dsimp only; omega, ?_, arT, by first | (dsimp only; rw [hRl, hR1 hcd, hl2]; rfl) | fail⟩
          (refine ⟨⟨_,sT,?_⟩,trivial⟩<;>(try (first|exact zh)))
          all_goals exact zT (by omega)
      · obtain ⟨y, hy⟩ : ∃ y, (yu C)[C.length / 8]? = some y := ⟨(yu C)[C.length / 8], List.getElem?_eq_getElem (by omega)⟩
        have hr : (List.map zf (yu C))[((C.length : Int) / 8).toNat]? = some [AV.lit (.int .u8 y.toNat)]:=by
          rw [show ((C.length : Int) / 8).toNat = C.length / 8 from by omega,List.getElem?_map,hy];rfl
        have hRl : (yu (C ++ [v / 2 ^ m % 2])).length = (yu C).length:=by rw [hs,zaX,if_neg h8]
        have hR0 : v / 2 ^ m % 2 = 0 → List.map zf (yu (C ++ [v / 2 ^ m % 2])) = (List.map zf (yu C)).set ((C.length : Int) / 8).toNat [AV.lit (.int .u8 (zaP .u8 y.toNat (Int.fdiv 128 (2 ^ ((C.length : Int) % 8).toNat))))]:=by
          intro hx
          have hy : (yu C).getD (C.length / 8) 0 = y:=by rw [List.getD_eq_getElem?_getD,hy];rfl
          rw [hs,zbq,if_pos hx,if_neg h8,hy,List.map_set,show ((C.length : Int) / 8).toNat = C.length / 8 from by omega,show ((C.length : Int) % 8).toNat = C.length % 8 from by omega]
          have:=zeX y (C.length % 8)
          congr 1
          show [AV.lit (.int .u8 (zns y (C.length % 8)).toNat)] = _
          rw [this,Int.fdiv_eq_ediv_of_nonneg _ (Int.le_of_lt (Int.pow_pos (by decide)))]
        have hR1 : ¬ v / 2 ^ m % 2 = 0 → List.map zf (yu (C ++ [v / 2 ^ m % 2])) = List.map zf (yu C):=by
          intro hx
          rw [hs,zbq,if_neg hx,if_neg h8]
        have hU:=And.intro @hr (@hb)
        repeat' (first|(refine goR ?_)|(guard_target =~ PWp _ _ _ _ _ _ _;refine yI (id:=12) 20 mixed (by kernel_rfl) (by kernel_rfl) (by kernel_rfl) rfl rfl ?_)|(refine za (fun K hK=>?_))|((refine zb (fun hcd=>?_) (fun hcd=>?_))<;>(try simp only [hcP] at hcd)<;>(try exact cdT))|(refine hK _ _ ?_;clear hK K)|(guard_target =~ dg _ _ _ _ _ _ _;first|(guard_target =~ dg _ _ _ (⟨_,.indexAddr _ _ _,_,_,_,none⟩ :: _) _ _ _;(refine yY (x:=_) (h:=zQ (h:=yQ rfl (hK:=zi ⟨rfl,rfl⟩))) (hk:=?_))))|(dsimp only [Lf.yW,Lf.kf]))
        · refine ⟨(C ++ [v / 2 ^ m % 2], m), ⟨hk2, by dsimp only; omega, by dsimp only; omega⟩, by dsimp only; omega, ?_, arT, by first | (dsimp only; rw [hRl, hR0 hcd, hl2]; rfl) | fail⟩
          (refine ⟨⟨_,sT,?_⟩,trivial⟩<;>(try (first|exact zh)))
          all_goals exact zT (by omega)
        · refine ⟨(C ++ [v / 2 ^ m % 2], m), ⟨hk2, by dsimp only; omega, by dsimp only; omega⟩, by dsimp only; omega, ?_, arT, by first | (dsimp only; rw [hRl, hR1 hcd, hl2]; rfl) | fail⟩
          (refine ⟨⟨_,sT,?_⟩,trivial⟩<;>(try (first|exact zh)))
          all_goals exact zT (by omega)
theorem zka (b : List UInt8) (n : Int) (hb : b.length ≤ 1000000000) : AEq Tryz.prog 240 [.ptr 0 0] [.box [.row 1 b.length,i64 n],.row b.length 5 1 (b.map zf)] (.sl false false (b.map zf)) [.box [.row 1 b.length,i64 n],.row b.length 5 1 (b.map zf)]:=by
 refine zc Tryz.func240 rfl Tryz.ntmps240 (by simp) (fun hsc=>?_);simp only [Lf.enter,Nat.reduceAdd];clear hsc
 have hU:=True.intro
 repeat' (first|(refine goR ?_)|(refine za (fun K hK=>?_))|((refine zb (fun hcd=>?_) (fun hcd=>?_))<;>(try simp only [hcP] at hcd)<;>(try exact cdT))|(refine zd (f:=143) rfl Tryz.call143 (h:=AEq.pure' agT (zdX _ _ _ (by omega)) (hq:=?_)))|((refine ze [0,1] (by rw [Tryz.results240,Lf.zt]) (zj ?_) ?_)<;>(try (first|exact zh|exact stT)))|(refine hK _ _ ?_;clear hK K))
theorem zhm (a b : List UInt8) : y7 (a ++ b) = y7 a ++ y7 b:=by simp [y7]
theorem vP (x : UInt8) : (kc x).length = 8:=rfl
theorem zhn (b : List UInt8) (c j : Nat) (y z : UInt8) (hj : j < 8) (hz : kc z = (kc y).set j 0) (hy : b[c]? = some y) : y7 (b.set c z) = (y7 b).set (8 * c + j) 0:=by
 induction b generalizing c with
 | nil=>simp at hy
 | cons x b ih=>
  cases c with
  | zero=>
   simp at hy;subst hy
   show kc z ++ y7 b = (kc x ++ y7 b).set (8 * 0 + j) 0
   rw [hz,List.set_append_left _ _ (by rw [vP];omega)]
   simp
  | succ c=>
   simp only [List.getElem?_cons_succ] at hy
   show kc x ++ y7 (b.set c z) = (kc x ++ y7 b).set (8 * (c + 1) + j) 0
   rw [ih c hy,List.set_append_right _ _ (by rw [vP];omega),vP]
   congr 2;omega
theorem zkb (L : List Int) (h : ∀ x ∈ L,x = 0 ∨ x = 1) : y7 (yu L) = L ++ List.replicate (8 * (yu L).length - L.length) 1:=by
 have key : ∀ n (L : List Int),(∀ x ∈ L,x = 0 ∨ x = 1) → L.length = n → y7 (yu L) = L ++ List.replicate (8 * (yu L).length - L.length) 1:=by
  intro n
  induction n with
  | zero=>intro L _ h;rw [List.eq_nil_of_length_eq_zero h];rfl
  | succ n ih=>
   intro L hb h
   obtain ⟨x,hx⟩ : ∃ x,L[n]? = some x:=⟨L[n],List.getElem?_eq_getElem (by omega)⟩
   have e : L = L.take n ++ [x]:=by rw [← z9 hx,List.take_of_length_le (by omega)]
   have hl : (L.take n).length = n:=by rw [List.length_take];omega
   have hx01:=hb x (List.mem_of_getElem? hx)
   have ihn:=ih (L.take n) (fun y hy=>hb y (List.mem_of_mem_take hy)) hl
   generalize L.take n = M at *
   subst e
   have hlen:=kF M
   have hM : y7 (if M.length % 8 = 0 then yu M ++ [255] else yu M) = M ++ 1 :: List.replicate (8 * (M.length / 8 + 1) - M.length - 1) 1:=by
    by_cases h8 : M.length % 8 = 0
    ·rw [if_pos h8, zhm, ihn, show 8 * (yu M).length - M.length = 0 from by omega, show 8 * (M.length / 8 + 1) - M.length - 1 = 7 from by omega]
     simp;rfl
    ·rw [if_neg h8, ihn, ← List.replicate_succ]
     congr 2;omega
   have hr : (if M.length % 8 = 0 then yu M ++ [255] else yu M).length = M.length / 8 + 1:=by
    split
    ·rw [List.length_append];simp;omega
    ·omega
   have h8l : (yu (M ++ [x])).length = M.length / 8 + 1:=by rw [kF,List.length_append];simp;omega
   rw [h8l,zaW,zbq]
   generalize hB : (if M.length % 8 = 0 then yu M ++ [255] else yu M) = B at *
   have hfin : 8 * (M.length / 8 + 1) - (M ++ [x]).length = 8 * (M.length / 8 + 1) - M.length - 1:=by rw [List.length_append];simp;omega
   rw [hfin]
   rcases hx01 with rfl|rfl
   ·rw [if_pos rfl]
    obtain ⟨y,hy⟩ : ∃ y,B[M.length / 8]? = some y:=⟨B[M.length / 8],List.getElem?_eq_getElem (by omega)⟩
    rw [zhn B (M.length / 8) (M.length % 8) y _ (by omega) (by rw [List.getD_eq_getElem?_getD,hy];exact zhl y _ (by omega)) hy,hM,show 8 * (M.length / 8) + M.length % 8 = M.length from by omega,List.set_append_right _ _ (Nat.le_refl _)]
    simp
   ·rw [if_neg (by decide),hM];simp
 exact key _ L h rfl
theorem zfW : ∀ y : Fin 256,ye (kc (UInt8.ofNat y.val)) = y.val:=by decide +kernel
theorem zho (y : UInt8) : ye (kc y) = y.toNat:=by
 have:=zfW ⟨y.toNat,y.toNat_lt⟩
 simpa using this
def chunk (L : List Int) (c : Nat) : List Int:=(List.range 8).map fun j=>L.getD (8 * c + j) 1
def zfX (L : List Int) : List UInt8:=(List.range ((L.length + 7) / 8)).map fun c=>UInt8.ofNat (ye (chunk L c)).toNat
theorem zhp (b : List UInt8) (c : Nat) (y : UInt8) (h : b[c]? = some y) : ((y7 b).drop (8 * c)).take 8 = kc y:=by
 induction b generalizing c with
 | nil=>simp at h
 | cons x b ih=>
  cases c with
  | zero=>
   simp at h;subst h
   show ((kc x ++ y7 b).drop 0).take 8 = _
   rw [List.drop_zero,List.take_left' (vP x)]
  | succ c=>
   simp only [List.getElem?_cons_succ] at h
   show ((kc x ++ y7 b).drop (8 * (c + 1))).take 8 = _
   rw [List.drop_append,List.drop_eq_nil_of_le (by rw [vP];omega),List.nil_append,vP,show 8 * (c + 1) - 8 = 8 * c from by omega,ih c h]
theorem zkc (L : List Int) (h : ∀ x ∈ L,x = 0 ∨ x = 1) : zfX L = yu L:=by
 have hb:=zkb L h
 have hl:=kF L
 apply List.ext_getElem?
 intro c
 by_cases hc : c < (L.length + 7) / 8
 ·obtain ⟨y, hy⟩ : ∃ y, (yu L)[c]? = some y := ⟨(yu L)[c], List.getElem?_eq_getElem (by omega)⟩
  have h1:=zhp _ c y hy
  have h2 : chunk L c = kc y:=by
   rw [← h1,hb]
   apply List.ext_getElem?
   intro j
   simp only [chunk,List.getElem?_map]
   by_cases hj : j < 8
   ·rw [List.getElem?_range hj, List.getElem?_take, if_pos hj, List.getElem?_drop]; show some (L.getD (8 * c + j) 1) = _; rw [List.getD_eq_getElem?_getD]
    by_cases hL : 8 * c + j < L.length
    ·rw [List.getElem?_append_left hL,List.getElem?_eq_getElem hL];rfl
    ·rw [List.getElem?_append_right (by omega),List.getElem?_eq_none (Nat.not_lt.1 hL),List.getElem?_replicate,if_pos (by omega)];rfl
   ·rw [List.getElem?_eq_none (by simp;omega),List.getElem?_take,if_neg hj];rfl
  rw [hy,zfX,List.getElem?_map,List.getElem?_range hc,Option.map_some,h2,zho]
  simp
 ·rw [List.getElem?_eq_none (by rw [zfX,List.length_map,List.length_range];omega),List.getElem?_eq_none (by omega)]
theorem zus (v : Int) (n : Nat) : ∀ x ∈ msb v n,x = 0 ∨ x = 1:=by
  induction n with
  | zero=>intro x h;simp [msb] at h
  | succ n ih => intro x h; simp only [msb, List.mem_cons] at h; rcases h with rfl | h; · omega
                 exact ih x h
theorem zut (n : Int) (h0 : 0 ≤ n) (h1 : n ≤ 32) : AEq Tryz.prog 241 [i64 n] [] (i64 (2 ^ n.toNat)) []:=by
 refine zc Tryz.func241 rfl Tryz.ntmps241 (by simp) (fun hsc=>?_);simp only [Lf.enter,Nat.reduceAdd];clear hsc
 have hU:=True.intro
 repeat' (first|(refine goR ?_)|(refine za (fun K hK=>?_))|(refine hK _ _ ?_;clear hK K))
 refine zo [3,4,5,6,7,8,9,10,11] (fun i : Nat=>[(3,i64 (2 ^ i)),(4,i64 i)]) (fun i=>[]) (fun i=>i ≤ n.toNat) (fun i=>n.toNat - i) 0 (Nat.zero_le _) ?_ rfl ?_
 ·(refine ⟨⟨_,sT,?_⟩,⟨_,sT,?_⟩,trivial⟩<;>(try (first|exact zh)))
 ·rintro i hi
  simp only [yn,List.map_cons,List.map_nil,List.cons_append,List.nil_append]
  have hp : (2 : Int) ^ i ≤ 4294967296 ∧ 1 ≤ (2 : Int) ^ i:=by
   have h1 : 2 ^ i ≤ 2 ^ 32:=Nat.pow_le_pow_right (by decide) (by omega)
   have h2 : 0 < 2 ^ i:=Nat.pow_pos (by decide)
   have e : (2 : Int) ^ i = ((2 ^ i : Nat) : Int):=by simp
   rw [e];omega
  by_cases hlt : i < n.toNat
  ·repeat' (first | (refine goR ?_) | (refine za (fun K hK => ?_)) | ((refine zb (fun hcd => ?_) (fun hcd => ?_)) <;> (try simp only [hcP] at hcd) <;> (try exact cdT)) | (refine hK _ _ ?_; clear hK K))
   refine ⟨i + 1,by omega,by omega,?_,arT,srT⟩
   (refine ⟨⟨_,sT,?_⟩,⟨_,sT,?_⟩,trivial⟩<;>(try (first|exact zh)))
   all_goals exact zT (by rw [Int.pow_succ];omega)
  ·repeat' (first | (refine goR ?_) | (refine za (fun K hK => ?_)) | ((refine zb (fun hcd => ?_) (fun hcd => ?_)) <;> (try simp only [hcP] at hcd) <;> (try exact cdT)) | ((refine ze [] (by rw [Tryz.results241, Lf.zt]) (zj ?_) ?_) <;> (try (first | exact zh | exact stT))) | (refine hK _ _ ?_; clear hK K) | (apply_assumption (exfalso := false) (symm := false)))
   ·exact zT (by rw [show n.toNat = i from by omega])
end Go.Proofs.YtdalcgfnlbofdaaGreatDoor
