import Derived.Test.YtdalcgfnlbofdaaGreatDoorTg
import Derived.Test.YtdalcgfnlbofdaaGreatDoorZ04
import Derived.Test.YtdalcgfnlbofdaaGreatDoorLc
import Derived.Lib.ConvBytes
import Derived.Test.YtdalcgfnlbofdaaGreatDoorZ02
import Derived.Test.YtdalcgfnlbofdaaGreatDoorZ01
import Derived.Test.YtdalcgfnlbofdaaGreatDoorTy
set_option linter.unusedVariables false
set_option linter.unusedSimpArgs false
namespace Go.Proofs.YtdalcgfnlbofdaaGreatDoor
open Go Go.Lf Go.Proofs
attribute [local irreducible] Lf.rg Lf.ro Lf.PWp Lf.SOp Lf.ACall Lf.Scoped Lf.dg
set_option maxRecDepth 20000
set_option maxHeartbeats 4000000
end Go.Proofs.YtdalcgfnlbofdaaGreatDoor
namespace Go.Lf
open Go
theorem zdh {M : Nat → Prop} {w : World} : ∀ l : List UInt8, PVl M w (l.map zf).flatten (l.map fun x => Value.int .u8 x.toNat)
 | []=>by simp [PVl]
 | x :: l=>by simp only [List.map_cons,List.flatten_cons,zf,List.cons_append,List.nil_append,PVl,PV];exact ⟨trivial,zdh l⟩
theorem zhH {P : Program} {N : Nat} {o : Oper} {Γ : Env} {σ : Sto} {K : AV → Sto → Prop} {t t2 e : Nat} {x : Operand} {l : List UInt8} (ho : o.op = .convert t2 t x) (hs : P.underlying t2 = some .string) (ht : P.underlying t = some (.slice e)) (he : P.underlying e = some (.int .u8))
    (hx : ev Γ x = .lit (.string ⟨l.toArray⟩)) (hl : l.length ≤ 9223372036854775807) (hK : K (.sl false false (l.map zf)) σ) : SOp P N o Γ σ K:=by
  intro ρ w a next Q hF hr hn'
  have hv:=hF.ev x
  rw [hx] at hv
  simp only [VR] at hv
  have hrun0:=Go.Lib.run_convert_string_bytes (P:=P) w t2 t e ⟨l.toArray⟩ hs ht he
  have hls : (⟨l.toArray⟩ : ByteArray).size = l.length:=rfl
  have hrun : (execOp a.eval o).run P w = .ok (.value (.slice (some ⟨w.heap.size,0,none⟩) l.length (grownCap w l.length 0 e))) (Go.Lib.bytesWorld w e ⟨l.toArray⟩):=by
    rw [hls] at hrun0
    simp [execOp,ho,hv,hrun0]
  obtain ⟨w',hw⟩ : ∃ w',Go.Lib.bytesWorld w e ⟨l.toArray⟩ = w':=⟨_,rfl⟩
  have hsz : w'.heap.size = w.heap.size + 1:=by rw [← hw];exact Go.Lib.bytesWorld_size w e _
  have hkk : ∀ b,b < w.heap.size → w'.heap[b]? = w.heap[b]?:=fun b hb=>by rw [← hw];exact Go.Lib.bytesWorld_at_old w e _ b hb
  have hcell : ∀ j (hj : j < l.length),w'.cell? ⟨w.heap.size,j,none⟩ = some (.int .u8 (l[j].toNat : Int)):=by
    intro j hj
    rw [← hw]
    have:=Go.Lib.bytesWorld_cell w e ⟨l.toArray⟩ j hj
    rw [this]
    simp [List.getD,hj]
  have hfl : w'.os = w.os ∧ w'.tape = w.tape ∧ w'.output = w.output:=by rw [← hw];unfold Go.Lib.bytesWorld World.freeze;rw [if_neg (by decide)];exact ⟨rfl,rfl,rfl⟩
  have st : Step σ.length σ ρ w σ ρ w':=⟨hfl.1,hfl.2.1,hfl.2.2,by omega,fun b hb _=>hkk b hb,fun b hb=>.inl hb,Nat.le_refl _,Nat.le_refl _,fun o ho=>.refl _ _ (by simp;omega),rfl⟩
  have hr' : Rel σ ρ w':=by
    refine ⟨fun o ob h=>?_,hr.inj,fun b hb=>Nat.lt_of_lt_of_le (hr.fol b hb) (by omega),hr.dis⟩
    have hO:=hr.obj _ _ h
    cases hl : ob.live with
    | false=>cases ob<;>simp [Ob.live] at hl;trivial
    | true=>exact hO.carry st (fun b hb'=>hkk b (hr.blk_lt _ _ _ h hl hb'))
  unfold Oper.wp
  rw [hrun,Oper.upon_value,hw]
  refine hn' _ _ _ _ _ hK hr' ?_ st
  simp only [VR]
  refine ⟨some ⟨w.heap.size,0,none⟩,grownCap w l.length 0 e,1,by rw [List.length_map],by rw [List.length_map];exact grownCap_ge w _ _ _,grownCap_le_maxLen w _ _ _ (by simp only [maxLen];omega),by simp,by simp,by intro y hy;simp only [List.mem_map] at hy;obtain ⟨_,_,rfl⟩:=hy;rfl,fun _=>⟨w.heap.size,0,rfl,by omega,?_,?_⟩⟩
  · intro hB
    rcases (Bset.mset hB) with ⟨o2,ob2,q1,q2,q3⟩|q
    · have := hr.blk_lt _ _ _ q1 q2 q3
      omega
    · have := hr.fol _ q
      omega
  · refine jG _ _ _ ?_
    refine j0 _ (l.map fun x=>Value.int .u8 x.toNat) _ _ ?_ ?_ (fun j u hj=>?_)
    · exact zdh l
    · intro v hv
      simp only [List.mem_map] at hv
      obtain ⟨y,_,rfl⟩:=hv
      rfl
    · rw [Nat.zero_add]
      rw [List.getElem?_map] at hj
      cases hg : l[j]? with
      | none=>rw [hg] at hj;cases hj
      | some y=>
        obtain ⟨hjl,hy⟩:=List.getElem?_eq_some_iff.1 hg
        rw [hg] at hj
        simp only [Option.map_some,Option.some.injEq] at hj
        rw [hcell j hjl,hy,← hj]
theorem zcm {P : Program} {N : Nat} {o : Oper} {Γ : Env} {σ : Sto} {K : AV → Sto → Prop} {t t2 e : Nat} {x : Operand} {l : List UInt8} (ho : o.op = .convert t2 t x) (hs : P.underlying t2 = some .string) (ht : P.underlying t = some (.slice e)) (he : P.underlying e = some (.int .u8))
    (hx : ev Γ x = .lit (.string ⟨l.toArray⟩)) (hl : l.length ≤ 9223372036854775807) (hK : K (.sl false false (l.map zf)) σ) : SOp P N o Γ σ K:=zhH ho hs ht he hx hl hK
end Go.Lf
namespace Go.Proofs.YtdalcgfnlbofdaaGreatDoor
open Go Go.Lf Go.Proofs
attribute [local irreducible] Lf.rg Lf.ro Lf.PWp Lf.SOp Lf.ACall Lf.Scoped Lf.dg Lf.dw
set_option maxRecDepth 20000
set_option maxHeartbeats 4000000
/-! bit by bit,of numbers from 0 on -/
theorem zuC (a b : Nat) (ha : a < 2 ^ 62) (hb : b < 2 ^ 62) : zbh .i64 (a : Int) (b : Int) = ((a &&& b : Nat) : Int):=by
 show IntKind.i64.wrap ((BitVec.ofInt 64 (a : Int) &&& BitVec.ofInt 64 (b : Int)).toNat : Int) = _
 have e1 : BitVec.ofInt 64 (a : Int) = BitVec.ofNat 64 a:=rfl
 have e2 : BitVec.ofInt 64 (b : Int) = BitVec.ofNat 64 b:=rfl
 rw [e1,e2,BitVec.toNat_and,BitVec.toNat_ofNat,BitVec.toNat_ofNat,Nat.mod_eq_of_lt (by omega),Nat.mod_eq_of_lt (by omega)]
 have:=Nat.and_le_left (n:=a) (m:=b)
 exact w64 (by omega)
theorem zAJ (a b : Nat) (ha : a < 2 ^ 62) (hb : b < 2 ^ 62) : ior .i64 (a : Int) (b : Int) = ((a ||| b : Nat) : Int):=by
 show IntKind.i64.wrap ((BitVec.ofInt 64 (a : Int) ||| BitVec.ofInt 64 (b : Int)).toNat : Int) = _
 have e1 : BitVec.ofInt 64 (a : Int) = BitVec.ofNat 64 a:=rfl
 have e2 : BitVec.ofInt 64 (b : Int) = BitVec.ofNat 64 b:=rfl
 rw [e1,e2,BitVec.toNat_or,BitVec.toNat_ofNat,BitVec.toNat_ofNat,Nat.mod_eq_of_lt (by omega),Nat.mod_eq_of_lt (by omega)]
 have:=Nat.or_lt_two_pow ha hb
 exact w64 (by omega)
theorem zko (a b : Int) : ior .i64 a b = ior .i64 b a:=by
 show IntKind.i64.wrap ((BitVec.ofInt 64 a ||| BitVec.ofInt 64 b).toNat : Int) = IntKind.i64.wrap ((BitVec.ofInt 64 b ||| BitVec.ofInt 64 a).toNat : Int)
 rw [BitVec.or_comm]
def pwI (b : Int) : Int:=2 ^ b.toNat
theorem zuD : pwI 0 = 1:=by decide
theorem znP : pwI 7 = 128:=by decide
theorem ze7 {b : Int} (h1 : 1 ≤ b) (h8 : b ≤ 8) : 2 ≤ pwI b ∧ pwI b ≤ 256:=by
 obtain rfl|rfl|rfl|rfl|rfl|rfl|rfl|rfl : b = 1 ∨ b = 2 ∨ b = 3 ∨ b = 4 ∨ b = 5 ∨ b = 6 ∨ b = 7 ∨ b = 8:=by omega
 all_goals decide
theorem zhI {b n : Int} (h1 : 1 ≤ b) (h8 : b ≤ 8) (hn : 0 ≤ n) (hn2 : n ≤ 4294967296) : zbh .i64 n (pwI b - 1) = n % pwI b:=by
 obtain ⟨k,rfl⟩ : ∃ k : Nat,n = k:=⟨n.toNat,by omega⟩
 have hk : 2 ^ b.toNat ≤ 2 ^ 8:=Nat.pow_le_pow_right (by decide) (by omega)
 have hk0 : 0 < 2 ^ b.toNat:=Nat.pow_pos (by decide)
 have e : pwI b - 1 = ((2 ^ b.toNat - 1 : Nat) : Int):=by
  unfold pwI
  have : (2 : Int) ^ b.toNat = ((2 ^ b.toNat : Nat) : Int):=by simp
  rw [this];omega
 rw [e,zuC k _ (by omega) (by omega),Nat.and_two_pow_sub_one_eq_mod]
 unfold pwI
 simp
theorem zdi {b f n : Int} (h1 : 1 ≤ b) (h8 : b ≤ 8) (hf : f % pwI b = 0) (hf0 : 0 ≤ f) (hf1 : f ≤ 255) (hn : 0 ≤ n) (hn2 : n < pwI b) : ior .i64 f n = f + n ∧ f + pwI b ≤ 256:=by
 obtain ⟨k,rfl⟩ : ∃ k : Nat,n = k:=⟨n.toNat,by omega⟩
 obtain ⟨g,rfl⟩ : ∃ k : Nat,f = k:=⟨f.toNat,by omega⟩
 have e : pwI b = ((2 ^ b.toNat : Nat) : Int):=by unfold pwI;simp
 have hbd:=ze7 h1 h8
 rw [e] at hf hn2 hbd ⊢
 obtain ⟨q,hq⟩ : ∃ q,g = 2 ^ b.toNat * q:=⟨g / 2 ^ b.toNat,by
  have h3:=Nat.div_add_mod g (2 ^ b.toNat)
  have h4 : ((g % 2 ^ b.toNat : Nat) : Int) = 0:=by rw [Int.natCast_emod];exact hf
  omega⟩
 refine ⟨?_,?_⟩
 ·rw [zAJ _ _ (by omega) (by omega)]
  have:=Nat.two_pow_add_eq_or_of_lt (i:=b.toNat) (b:=k) (by omega) q
  rw [hq,← this];simp
 ·obtain rfl | rfl | rfl | rfl | rfl | rfl | rfl | rfl : b = 1 ∨ b = 2 ∨ b = 3 ∨ b = 4 ∨ b = 5 ∨ b = 6 ∨ b = 7 ∨ b = 8 := by omega
  all_goals (simp at hq ⊢;omega)
def byI (x : Int) : UInt8:=UInt8.ofNat x.toNat
theorem znQ {x : Int} (h0 : 0 ≤ x) (h1 : x ≤ 255) : ((byI x).toNat : Int) = x:=by unfold byI;simp;omega
def zdj (x : Int) : List UInt8:=[byI x]
theorem vf (x : Int) : (zdj x).length = 1:=rfl
theorem vg {x : Int} (h0 : 0 ≤ x) (h1 : x ≤ 255) : List.map zf (zdj x) = [[AV.lit (.int .u8 x)]]:=by
 show [[AV.lit (.int .u8 ((byI x).toNat : Int))]] = _
 rw [znQ h0 h1]
def zcn : Nat → Int → List UInt8
 | 0,n=>zdj n
 | k + 1,n=>if n < 128 then zdj n else zdj (128 + n % 128) ++ zcn k (n / 128)
theorem zd5 {k : Nat} {n : Int} (h : n < 128) : zcn k n = zdj n:=by cases k with|zero=>rfl|succ k=>rw [zcn,if_pos h]
theorem zhJ {k : Nat} {n : Int} (h : ¬ n < 128) : zcn (k + 1) n = zdj (128 + n % 128) ++ zcn k (n / 128):=by rw [zcn,if_neg h]
theorem zat : ∀ (k : Nat) (n : Int), 1 ≤ (zcn k n).length ∧ (zcn k n).length ≤ k + 1
 | 0,n=>by rw [zcn,vf];omega
 | k + 1,n=>by
  rw [zcn]
  have:=zat k (n / 128)
  split
  ·rw [vf];omega
  ·rw [List.length_append,vf];omega
def zaf (f b n : Int) : List UInt8:=if n < pwI b - 1 then zdj (f + n) else zdj (f + pwI b - 1) ++ zcn 4 (n - (pwI b - 1))
theorem zhK {f b n : Int} (h : n < pwI b - 1) : zaf f b n = zdj (f + n):=by rw [zaf,if_pos h]
theorem zhL {f b n : Int} (h : ¬ n < pwI b - 1) : zaf f b n = zdj (f + pwI b - 1) ++ zcn 4 (n - (pwI b - 1)):=by rw [zaf,if_neg h]
attribute [local irreducible] pwI zdj zcn zaf
theorem zrg (b : Int) (h1 : 1 ≤ b) (h8 : b ≤ 8) : AEq Tryz.prog 221 [i64 b] [] (.tu [i64 (pwI b - 1),bl true]) []:=by
 have hp:=ze7 h1 h8
 have hwr : IntKind.i64.wrap (IntKind.i64.wrap (2 ^ b.toNat) - 1) = pwI b - 1:=by
  have e : (2 : Int) ^ b.toNat = pwI b:=by unfold pwI;rfl
  rw [e,w64 (n:=pwI b) (by omega),w64 (by omega)]
 refine zc Tryz.func221 rfl Tryz.ntmps221 (by simp) (fun hsc=>?_);simp only [Lf.enter,Nat.reduceAdd];clear hsc
 have hU:=@hwr
 repeat' (first|(refine goR ?_)|(refine za (fun K hK=>?_))|((refine zb (fun hcd=>?_) (fun hcd=>?_))<;>(try simp only [hcP] at hcd)<;>(try exact cdT))|((refine ze [] (by rw [Tryz.results221,Lf.yb]) (zu ?_ ?_) ?_)<;>(try (first|exact zh|exact stT)))|(refine hK _ _ ?_;clear hK K))
theorem zlQ (b : Int) (h0 : 0 ≤ b) (h8 : b ≤ 28) : AEq Tryz.prog 190 [i64 b] [] (i64 (pwI b)) []:=by
  obtain ⟨k,rfl⟩ : ∃ k : Nat,b = k:=⟨b.toNat,by omega⟩
  refine zc Tryz.func190 rfl Tryz.ntmps190 (by simp) (fun hsc=>?_);simp only [Lf.enter,Nat.reduceAdd];clear hsc
  have hU:=True.intro
  repeat' (first|(refine goR ?_)|(refine za (fun K hK=>?_))|(refine hK _ _ ?_;clear hK K))
  refine zo [3,4,5,6,7,8,9,10,11] (fun i : Nat=>[(4,i64 i),(3,i64 (pwI i))]) (fun i=>[]) (fun i=>i ≤ k) (fun i=>k - i) 0 (Nat.zero_le _) ?_ rfl ?_
  · (refine ⟨⟨_, sT, ?_⟩, ⟨_, sT, ?_⟩, trivial⟩ <;> (try (first | exact zh)))
    all_goals exact zA (by rw [show (((0 : Nat) : Int)) = 0 from rfl,zuD])
  · rintro i hi
    simp only [yn,List.map_cons,List.map_nil,List.cons_append,List.nil_append]
    have hpb : 1 ≤ pwI (i : Int) ∧ pwI (i : Int) ≤ 268435456:=by
      have h5 : 2 ^ i ≤ 2 ^ 28:=Nat.pow_le_pow_right (by decide) (by omega)
      have h6 : 0 < 2 ^ i:=Nat.pow_pos (by decide)
      have e : pwI (i : Int) = ((2 ^ i : Nat) : Int):=by unfold pwI;simp
      rw [e];omega
    by_cases hlt : i < k
    · have hps : pwI ((i + 1 : Nat) : Int) = 2 * pwI (i : Int):=by
        unfold pwI
        rw [Int.toNat_natCast,Int.toNat_natCast,Int.pow_succ];omega
      repeat' (first|(refine goR ?_)|(refine za (fun K hK=>?_))|((refine zb (fun hcd=>?_) (fun hcd=>?_))<;>(try simp only [hcP] at hcd)<;>(try exact cdT))|(refine hK _ _ ?_;clear hK K))
      refine ⟨i + 1,by omega,by omega,?_,arT,srT⟩
      (refine ⟨⟨_,sT,?_⟩,⟨_,sT,?_⟩,trivial⟩<;>(try (first|exact zh)))
      all_goals exact zT hps.symm
    · have hik : i = k := by omega
      subst hik
      repeat' (first|(refine goR ?_)|(refine za (fun K hK=>?_))|((refine zb (fun hcd=>?_) (fun hcd=>?_))<;>(try simp only [hcP] at hcd)<;>(try exact cdT))|((refine ze [] (by rw [Tryz.results190,Lf.zt]) (zj ?_) ?_)<;>(try (first|exact zh|exact stT)))|(refine hK _ _ ?_;clear hK K)|(apply_assumption (exfalso:=false) (symm:=false)))
theorem zuE : ∀ (k : Nat) (n : Int),k ≤ 4 → 0 ≤ n → n < 128 ^ (k + 1) → n ≤ 4294967296 → AEq Tryz.prog 206 [i64 n] [] (.sl false false ((zcn k n).map zf)) []:=by
 intro k
 induction k with
 | zero=>
  intro n hk4 h0 h1 h2
  have hlt : n < 128:=h1
  have hone:=vg h0 (by omega)
  rw [zd5 hlt,hone]
  refine zc Tryz.func206 rfl Tryz.ntmps206 (by simp) (fun hsc=>?_);simp only [Lf.enter,Nat.reduceAdd];clear hsc
  have hU:=@hone
  repeat' (first|(refine goS ?_)|(refine za (fun K hK=>?_))|((refine zb (fun hcd=>?_) (fun hcd=>?_))<;>(try simp only [hcP] at hcd)<;>(try exact cdT))|((refine ze [] (by rw [Tryz.results206,Lf.zt]) (zj ?_) ?_)<;>(try (first|exact zh|exact stT)))|(refine hK _ _ ?_;clear hK K))
 | succ k ih=>
  intro n hk4 h0 h1 h2
  by_cases hlt : n < 128
  ·have hone := vg h0 (by omega)
   rw [zd5 hlt,hone]
   refine zc Tryz.func206 rfl Tryz.ntmps206 (by simp) (fun hsc=>?_);simp only [Lf.enter,Nat.reduceAdd];clear hsc
   have hU:=@hone
   repeat' (first|(refine goS ?_)|(refine za (fun K hK=>?_))|((refine zb (fun hcd=>?_) (fun hcd=>?_))<;>(try simp only [hcP] at hcd)<;>(try exact cdT))|((refine ze [] (by rw [Tryz.results206,Lf.zt]) (zj ?_) ?_)<;>(try (first|exact zh|exact stT)))|(refine hK _ _ ?_;clear hK K))
  ·have hone := vg (x := 128 + n % 128) (by omega) (by omega)
   rw [Int.pow_succ] at h1
   have hdl:=zat k (n / 128)
   rw [zhJ hlt,List.map_append,hone]
   have hdn : List.map zf (zcn k (n / 128)) ≠ []:=by intro h;have:=congrArg List.length h;rw [List.length_map] at this;simp at this;rw [this] at hdl;simp at hdl
   have hq : n / 128 < 128 ^ (k + 1):=by omega
   refine zc Tryz.func206 rfl Tryz.ntmps206 (by simp) (fun hsc=>?_);simp only [Lf.enter,Nat.reduceAdd];clear hsc
   have hU:=@hone
   repeat' (first|(refine goR ?_)|(refine za (fun K hK=>?_))|((refine zb (fun hcd=>?_) (fun hcd=>?_))<;>(try simp only [hcP] at hcd)<;>(try exact cdT))|(guard_target =~ SOp _ _ ⟨_,.buildSlice _ _ _,_,_,_,none⟩ _ _ _;refine zF rfl (he:=eoT) (hK:=?_))|(guard_target =~ SOp _ _ ⟨_,.call ⟨.builtin .append,_,_⟩,_,_,_,none⟩ _ _ _;refine y6 rfl (he:=eoT) (hne:=by first|exact .inl rfl|exact .inr (by assumption)|exact .inr (by simp;done)|fail) (hK:=?_))|(refine zd (f:=206) rfl Tryz.call206 (h:=AEq.pure' (by refine ⟨?_,trivial⟩;exact yf) (ih _ (by omega) (by omega) (by omega) (by omega)) (hq:=?_)))|((refine ze [] (by rw [Tryz.results206,Lf.zt]) (zj ?_) ?_)<;>(try (first|exact zh|exact stT)))|(refine hK _ _ ?_;clear hK K))
theorem zAK (n : Int) (h0 : 0 ≤ n) (h1 : n ≤ 4294967295) : AEq Tryz.prog 206 [i64 n] [] (.sl false false ((zcn 4 n).map zf)) []:=zuE 4 n (by omega) h0 (by omega) (by omega)
theorem kW (f b n : Int) (h1 : 1 ≤ b) (h8 : b ≤ 8) (h0 : 0 ≤ f) (h255 : f ≤ 255) (hf : f % pwI b = 0) (hn0 : 0 ≤ n) (hn1 : n ≤ 2147483647) : AEq Tryz.prog 197 [i64 f,i64 b,i64 n] [] (.tu [.row 0 ((zaf f b n).length - 1),i64 0]) [.row ((zaf f b n).length - 1) 5 1 ((zaf f b n).map zf)]:=by
  have hp:=ze7 h1 h8
  have hand:=zhI (n:=f) h1 h8 h0 (by omega)
  rw [hf] at hand
  by_cases hlt : n < pwI b - 1
  · obtain ⟨hor, hle⟩ := zdi h1 h8 hf h0 h255 hn0 (by omega)
    have hone:=vg (x:=f + n) (by omega) (by omega)
    rw [zhK hlt,hone,vf]
    refine zc Tryz.func197 rfl Tryz.ntmps197 (by simp) (fun hsc=>?_);simp only [Lf.enter,Nat.reduceAdd];clear hsc
    have hU:=And.intro @hand (@hor)
    repeat' (first|(refine goR ?_)|(refine za (fun K hK=>?_))|((refine zb (fun hcd=>?_) (fun hcd=>?_))<;>(try simp only [hcP] at hcd)<;>(try exact cdT))|(guard_target =~ SOp _ _ ⟨_,.buildSlice _ _ _,_,_,_,none⟩ _ _ _;refine zci rfl sT eoT bT bT bT sT sT sT bT sT sT sT ?_)|(refine zd (f:=221) rfl Tryz.call221 (h:=AEq.pure' agT (zrg _ (by assumption) (by assumption)) (hq:=?_)))|((refine ze [0] (by rw [Tryz.results197,Lf.yb]) (zu ?_ ?_) ?_)<;>(try (first|exact zh|exact stT)))|(refine hK _ _ ?_;clear hK K))
  · obtain ⟨hor, hle⟩ := zdi (n := pwI b - 1) h1 h8 hf h0 h255 (by omega) (by omega)
    have hone:=vg (x:=f + (pwI b - 1)) (by omega) (by omega)
    have hol1:=vf (f + (pwI b - 1))
    rw [zhL hlt]
    rw [show f + pwI b - 1 = f + (pwI b - 1) from by omega]
    obtain ⟨tot,htot⟩ : ∃ l,zdj (f + (pwI b - 1)) ++ zcn 4 (n - (pwI b - 1)) = l:=⟨_,rfl⟩
    rw [htot]
    refine zc Tryz.func197 rfl Tryz.ntmps197 (by simp) (fun hsc=>?_);simp only [Lf.enter,Nat.reduceAdd];clear hsc
    have hU:=And.intro @hand (@hor)
    repeat' (first|(refine goR ?_)|(refine za (fun K hK=>?_))|((refine zb (fun hcd=>?_) (fun hcd=>?_))<;>(try simp only [hcP] at hcd)<;>(try exact cdT))|(guard_target =~ SOp _ _ ⟨_,.buildSlice _ _ _,_,_,_,none⟩ _ _ _;refine zci rfl sT eoT bT bT bT sT sT sT bT sT sT sT ?_)|(refine zd (f:=221) rfl Tryz.call221 (h:=AEq.pure' agT (zrg _ (by assumption) (by assumption)) (hq:=?_)))|(refine hK _ _ ?_;clear hK K))
    refine zo [2,10,57,58,59,60,61,62,63,64,65,66,67] (fun s : List UInt8 × Nat × Int=>[(10,.row 0 (s.1.length - 1)),(2,i64 s.2.2)]) (fun s=>[.row (s.1.length - 1) 5 1 (s.1.map zf)]) (fun s=>s.2.1 ≤ 4 ∧ 0 ≤ s.2.2 ∧ s.2.2 ≤ 4294967295 ∧ s.2.2 < 128 ^ (s.2.1 + 1) ∧ s.1.length + s.2.1 = 5 ∧ s.1 ++ zcn s.2.1 s.2.2 = tot) (fun s=>s.2.1) (zdj (f + (pwI b - 1)),4,n - (pwI b - 1)) ⟨Nat.le_refl _,by dsimp only;omega,by dsimp only;omega,by dsimp only;omega,by dsimp only;omega,htot⟩ ?_ (by dsimp only;rw [hone,hol1]) ?_
    · dsimp only
      rw [hol1]
      have hU:=True.intro
      (refine ⟨⟨_,sT,?_⟩,⟨_,sT,?_⟩,trivial⟩<;>(try (first|exact zh)))
    · rintro ⟨o, k, m⟩ ⟨hk, hm0, hm1, hm2, hol, hot⟩
      dsimp only at hk hm0 hm1 hm2 hol hot ⊢
      simp only [yn,List.map_cons,List.map_nil,List.cons_append,List.nil_append]
      by_cases hge : m < 128
      · rw [zd5 hge] at hot
        have hon:=vg hm0 (by omega)
        have hapt : List.map zf o ++ [[AV.lit (.int .u8 m)]] = List.map zf tot:=by rw [← hot,List.map_append,hon]
        have hln : tot.length - 1 = o.length - 1 + 1:=by rw [← hot,List.length_append,vf];omega
        have hU:=@hapt
        repeat' (first|(refine goS ?_)|(refine za (fun K hK=>?_))|((refine zb (fun hcd=>?_) (fun hcd=>?_))<;>(try simp only [hcP] at hcd)<;>(try exact cdT))|((refine ze [0] (by rw [Tryz.results197,Lf.yb]) (zu ?_ ?_) ?_)<;>(try (first|exact zh|exact stT)))|(refine hK _ _ ?_;clear hK K)|(apply_assumption (exfalso:=false) (symm:=false)))
        all_goals first|exact zA (by rw [hln])|(rw [hln];exact stq rfl)|trace_state
      · obtain ⟨k,rfl⟩ : ∃ j,k = j + 1:=⟨k - 1,by
          cases k with
          | zero=>simp at hm2;omega
          | succ k=>rfl⟩
        rw [zhJ hge,← List.append_assoc] at hot
        rw [Int.pow_succ] at hm2
        have h127 : zbh .i64 m 127 = m % 128:=by
          have:=zhI (b:=7) (n:=m) (by decide) (by decide) hm0 (by omega)
          rw [znP] at this;exact this
        have h128 : ior .i64 (m % 128) 128 = 128 + m % 128:=by
          have:=(zdi (b:=7) (f:=128) (n:=m % 128) (by decide) (by decide) (by rw [znP];decide) (by decide) (by decide) (by omega) (by rw [znP];omega)).1
          rw [zko];exact this
        have hon:=vg (x:=128 + m % 128) (by omega) (by omega)
        have hapl : List.map zf o ++ [[AV.lit (.int .u8 (128 + m % 128))]] = List.map zf (o ++ zdj (128 + m % 128)):=by rw [List.map_append,hon]
        have hln : (o ++ zdj (128 + m % 128)).length = o.length + 1:=by rw [List.length_append,vf]
        have hln2 : o.length - 1 + 1 = o.length + 1 - 1:=by omega
        have hU:=And.intro @h127 ( And.intro @h128 (@hapl))
        repeat' (first|(refine goS ?_)|(refine za (fun K hK=>?_))|((refine zb (fun hcd=>?_) (fun hcd=>?_))<;>(try simp only [hcP] at hcd)<;>(try exact cdT))|(refine hK _ _ ?_;clear hK K)|(dsimp only [Lf.yW,Lf.kf]))
        refine ⟨(o ++ zdj (128 + m % 128),k,m / 128),⟨by dsimp only;omega,by dsimp only;omega,by dsimp only;omega,by dsimp only;omega,by dsimp only;rw [hln];omega,hot⟩,by dsimp only;omega,?_,arT,?_⟩
        · dsimp only
          rw [hln,← hln2]
          (refine ⟨⟨_,sT,?_⟩,⟨_,sT,?_⟩,trivial⟩<;>(try (first|exact zh)))
        · dsimp only
          rw [hln,← hln2]
end Go.Proofs.YtdalcgfnlbofdaaGreatDoor
namespace Go.Proofs.YtdalcgfnlbofdaaGreatDoor
open Go Go.Lf Go.Proofs
attribute [local irreducible] Lf.rg Lf.ro Lf.PWp Lf.SOp Lf.ACall Lf.Scoped Lf.dg Lf.dw
set_option maxRecDepth 20000
set_option maxHeartbeats 4000000
def pst (b n : Int) : Nat:=if n < pwI b - 1 then 0 else 1
theorem zrh {b n : Int} (h : n < pwI b - 1) : pst b n = 0:=if_pos h
theorem zri {b n : Int} (h : ¬ n < pwI b - 1) : pst b n = 1:=if_neg h
def pgF (b : List UInt8) : Nat → Nat → Int → Int × Int × Int
 | 0,_,_=>(0,0,5)
 | k + 1, a, n => match b[a + 1]? with
  | none=>(0,0,3)
  | some x=>if (x.toNat : Int) < 128 then (if 2147483647 < n + (x.toNat : Int) % 128 * pwI (7 * (a : Int)) then (0,0,5) else (n + (x.toNat : Int) % 128 * pwI (7 * (a : Int)),(a : Int) + 2,0)) else pgF b k (a + 1) (n + (x.toNat : Int) % 128 * pwI (7 * (a : Int)))
def pgG (b : List UInt8) (c : Int) : Int × Int × Int := match b[0]? with
 | none=>(0,0,3)
 | some x=>if (x.toNat : Int) % pwI c < pwI c - 1 then ((x.toNat : Int) % pwI c,1,0) else pgF b 5 0 ((x.toNat : Int) % pwI c)
attribute [local irreducible] pwI pgF
theorem yV (f b n : Int) (h1 : 1 ≤ b) (h8 : b ≤ 8) (h0 : 0 ≤ f) (h255 : f ≤ 255) (hf : f % pwI b = 0) (hn0 : 0 ≤ n) (hn1 : n ≤ 2147483647) : AEq Tryz.prog 180 [i64 f,i64 b,i64 n] [] (.tu [.row 0 (pst b n),i64 0]) [.row (pst b n) 5 1 ((zaf f b n).map zf)]:=by
 have hp:=ze7 h1 h8
 by_cases hlt : n < pwI b - 1
 ·have hle := (zdi h1 h8 hf h0 h255 hn0 (by omega)).2
  have hone:=vg (x:=f + n) (by omega) (by omega)
  rw [zhK hlt,hone,zrh hlt]
  refine zc Tryz.func180 rfl Tryz.ntmps180 (by simp) (fun hsc=>?_);simp only [Lf.enter,Nat.reduceAdd];clear hsc
  have hU:=@hf
  repeat' (first|(refine goR ?_)|(refine za (fun K hK=>?_))|((refine zb (fun hcd=>?_) (fun hcd=>?_))<;>(try simp only [hcP] at hcd)<;>(try exact cdT))|(guard_target =~ rg _ _ _ (⟨_,_,_,_,_,some _⟩ :: _) _ _ _;(first|refine zv gT (fun hcd=>?_) (fun hcd=>?_)|refine zp gT (fun hcd=>?_) (fun hcd=>?_))<;>(try simp only [hcd])<;>(try (simp only [Bool.not_eq_true',Bool.not_eq_false'] at hcd;try simp only [hcd]))<;>(refine vC (Γ2:=_) ewT ?_)<;>(try simp only [hcP] at hcd)<;>(try exact cdT))|(guard_target =~ SOp _ _ ⟨_,.buildSlice _ _ _,_,_,_,none⟩ _ _ _;refine zci rfl sT eoT bT bT bT sT sT sT bT sT sT sT ?_)|(refine zd (f:=190) rfl Tryz.call190 (h:=AEq.pure' agT (zlQ _ (by omega) (by omega)) (hq:=?_)))|((refine ze [0] (by rw [Tryz.results180,Lf.yb]) (zu ?_ ?_) ?_)<;>(try (first|exact zh|exact stT)))|(refine hK _ _ ?_;clear hK K))
 ·have hle := (zdi (n := pwI b - 1) h1 h8 hf h0 h255 (by omega) (by omega)).2
  have hone:=vg (x:=f + (pwI b - 1)) (by omega) (by omega)
  have hdl:=zat 4 (n - (pwI b - 1))
  have hdn : List.map zf (zcn 4 (n - (pwI b - 1))) ≠ []:=by intro h;have:=congrArg List.length h;rw [List.length_map] at this;simp at this;rw [this] at hdl;simp at hdl
  rw [zhL hlt,zri hlt,List.map_append,show f + pwI b - 1 = f + (pwI b - 1) from by omega,hone]
  refine zc Tryz.func180 rfl Tryz.ntmps180 (by simp) (fun hsc=>?_);simp only [Lf.enter,Nat.reduceAdd];clear hsc
  have hU:=@hf
  repeat' (first|(refine goR ?_)|(refine za (fun K hK=>?_))|((refine zb (fun hcd=>?_) (fun hcd=>?_))<;>(try simp only [hcP] at hcd)<;>(try exact cdT))|(guard_target =~ rg _ _ _ (⟨_,_,_,_,_,some _⟩ :: _) _ _ _;(first|refine zv gT (fun hcd=>?_) (fun hcd=>?_)|refine zp gT (fun hcd=>?_) (fun hcd=>?_))<;>(try simp only [hcd])<;>(try (simp only [Bool.not_eq_true',Bool.not_eq_false'] at hcd;try simp only [hcd]))<;>(refine vC (Γ2:=_) ewT ?_)<;>(try simp only [hcP] at hcd)<;>(try exact cdT))|(guard_target =~ SOp _ _ ⟨_,.buildSlice _ _ _,_,_,_,none⟩ _ _ _;refine zci rfl sT eoT bT bT bT sT sT sT bT sT sT sT ?_)|(refine zd (f:=190) rfl Tryz.call190 (h:=AEq.pure' agT (zlQ _ (by omega) (by omega)) (hq:=?_)))|(guard_target =~ SOp _ _ ⟨_,.call ⟨.builtin .append,_,_⟩,_,_,_,none⟩ _ _ _;refine zC rfl (he:=eoT) (hK:=?_))|(refine zd (f:=206) rfl Tryz.call206 (h:=AEq.pure' agT (zAK _ (by omega) (by omega)) (hq:=?_)))|((refine ze [0] (by rw [Tryz.results180,Lf.yb]) (zu ?_ ?_) ?_)<;>(try (first|exact zh|exact stT)))|(refine hK _ _ ?_;clear hK K))
end Go.Proofs.YtdalcgfnlbofdaaGreatDoor
namespace Go.Proofs.YtdalcgfnlbofdaaGreatDoor
open Go Go.Lf Go.Proofs
attribute [local irreducible] Lf.rg Lf.ro Lf.PWp Lf.SOp Lf.ACall Lf.Scoped Lf.dg
set_option maxRecDepth 20000
set_option maxHeartbeats 4000000
/-! what is put is got -/
end Go.Proofs.YtdalcgfnlbofdaaGreatDoor
namespace Go.Proofs.YtdalcgfnlbofdaaGreatDoor
open Go Go.Lf Go.Proofs
attribute [local irreducible] Lf.rg Lf.ro Lf.PWp Lf.SOp Lf.ACall Lf.Scoped Lf.dg Lf.dw
set_option maxRecDepth 20000
set_option maxHeartbeats 4000000
section
variable {P : Program} {N : Nat} {o : Oper} {Γ : Env} {σ : Sto} {K : AV → Sto → Prop} {x y : Operand} {ts : Array TypeId} {k k' : IntKind} {a b : Int}
theorem zd6 (ho : o.op = .call { callee:=.builtin .max,args:=#[x,y],argTypes:=ts }) (hx : ev Γ x = .lit (.int k a)) (hy : ev Γ y = .lit (.int k' b)) (h : b ≤ a) (hK : K (.lit (.int k a)) σ) : SOp P N o Γ σ K:=by
 refine SOp.pure (.lit (.int k a)) (fun ρ w ac hf hr=>⟨.int k a,?_,rfl⟩) hK
 have e1:=hf.lit hx
 have e2:=hf.lit hy
 have h2 : ¬ b > a:=by omega
 simp [execOp,ho,resolve,invoke,builtin,Builtin.max_,Builtin.max2,e1,e2,h2]
theorem zd7 (ho : o.op = .call { callee:=.builtin .max,args:=#[x,y],argTypes:=ts }) (hx : ev Γ x = .lit (.int k a)) (hy : ev Γ y = .lit (.int k' b)) (h : a ≤ b) (hK : K (.lit (.int k b)) σ) : SOp P N o Γ σ K:=by
 refine SOp.pure (.lit (.int k b)) (fun ρ w ac hf hr=>⟨.int k b,?_,rfl⟩) hK
 have e1:=hf.lit hx
 have e2:=hf.lit hy
 by_cases h2 : b > a
 ·simp [execOp,ho,resolve,invoke,builtin,Builtin.max_,Builtin.max2,e1,e2,h2]
 ·obtain rfl : a = b := by omega
  simp [execOp,ho,resolve,invoke,builtin,Builtin.max_,Builtin.max2,e1,e2]
theorem zd8 (ho : o.op = .call { callee:=.builtin .max,args:=#[x,y],argTypes:=ts }) (hx : ev Γ x = .lit (.int k a)) (hy : ev Γ y = .lit (.int k b)) (hK : K (.lit (.int k (max a b))) σ) : SOp P N o Γ σ K:=by
 by_cases h : b ≤ a
 ·rw [show max a b = a from by omega] at hK
  exact zd6 ho hx hy h hK
 ·rw [show max a b = b from by omega] at hK
  exact zd7 ho hx hy (by omega) hK
end
end Go.Proofs.YtdalcgfnlbofdaaGreatDoor
namespace Go.Proofs.YtdalcgfnlbofdaaGreatDoor
open Go Go.Lf Go.Proofs
attribute [local irreducible] Lf.rg Lf.ro Lf.PWp Lf.SOp Lf.ACall Lf.Scoped Lf.dg Lf.dw
set_option maxRecDepth 20000
set_option maxHeartbeats 4000000
/-! the greater of two by zd8 -/
def slB (s : Bool) (l : List UInt8) : List UInt8:=if s then yu (encL l) else l
def slF (s : Bool) : Int:=if s then 128 else 0
def slP (s : Bool) (l : List UInt8) : List UInt8:=zaf (slF s) 7 ((slB s l).length : Int) ++ slB s l
theorem zrj (l : List UInt8) : slP false l = zaf 0 7 (l.length : Int) ++ l:=rfl
theorem zrk (l : List UInt8) : slP true l = zaf 128 7 ((yu (encL l)).length : Int) ++ yu (encL l):=rfl
theorem zhM (l : List UInt8) : (yu (encL l)).length ≤ 4 * l.length:=by
 have h1:=ju l
 rw [kF];omega
theorem zN (f b n : Int) : 1 ≤ (zaf f b n).length ∧ (zaf f b n).length ≤ 6:=by
 unfold zaf
 split
 ·rw [vf];omega
 ·have := zat 4 (n - (pwI b - 1))
  rw [List.length_append,vf];omega
theorem zv1 : (0 : Int) % pwI 7 = 0:=by decide
theorem zlR : (128 : Int) % pwI 7 = 0:=by decide
def hiB (b : List UInt8) : Bool := match b[0]? with
 | some x=>decide (¬ (x.toNat : Int) < 128)
 | none=>false
def zpm (b : List UInt8) (k n : Nat) : List UInt8:=(b.drop k).take n
def slG (b : List UInt8) (most : Int) : List UInt8 × Bool × Int × Int:=
 if (pgG b 7).2.2 ≠ 0 then ([],false,0,(pgG b 7).2.2)
 else if max most 0 < (pgG b 7).1 then ([],false,0,9)
 else if (b.length : Int) - (pgG b 7).2.1 < (pgG b 7).1 then ([],false,0,3)
 else if hiB b = false then (zpm b (pgG b 7).2.1.toNat (pgG b 7).1.toNat,false,(pgG b 7).2.1 + (pgG b 7).1,0)
 else if (huM (y7 (zpm b (pgG b 7).2.1.toNat (pgG b 7).1.toNat)) 0 0 []).2 ≠ 0 then ([],false,0,(huM (y7 (zpm b (pgG b 7).2.1.toNat (pgG b 7).1.toNat)) 0 0 []).2)
 else ((huM (y7 (zpm b (pgG b 7).2.1.toNat (pgG b 7).1.toNat)) 0 0 []).1,true,(pgG b 7).2.1 + (pgG b 7).1,0)
attribute [local irreducible] pwI zaf pgF pgG huM y7 yu encL
theorem zpn (l : List UInt8) (s : Bool) (hl : l.length ≤ 100000) : AEq Tryz.prog 199 [.lit (.string ⟨l.toArray⟩),bl s] [] (.sl false false ((slP s l).map zf)) []:=by
 have h70:=zv1
 have h71:=zlR
 have hel:=zhM l
 cases s with
 | false=>
  have hpl:=zN 0 7 (l.length : Int)
  rw [zrj,List.map_append]
  refine zc Tryz.func199 rfl Tryz.ntmps199 (by simp) (fun hsc=>?_);simp only [Lf.enter,Nat.reduceAdd];clear hsc
  have hU:=True.intro
  repeat' (first|(refine goS ?_)|(refine za (fun K hK=>?_))|((refine zb (fun hcd=>?_) (fun hcd=>?_))<;>(try simp only [hcP] at hcd)<;>(try exact cdT))|(refine zd (f:=197) rfl Tryz.call197 (h:=AEq.sub' [] (hc:=kW _ _ _ aoT aoT aoT aoT aoT aoT aoT) (hq:=?_)))|(guard_target =~ SOp _ _ ⟨_,.convert _ _ _,_,_,_,none⟩ _ _ _;refine zcm rfl bT sT bT sT lmT ?_)|((refine ze [] (by rw [Tryz.results199,Lf.zt]) (zj ?_) ?_)<;>(try (first|exact zh|exact stT)))|(refine hK _ _ ?_;clear hK K))
 | true=>
  have hpl:=zN 128 7 ((yu (encL l)).length : Int)
  rw [zrk,List.map_append]
  refine zc Tryz.func199 rfl Tryz.ntmps199 (by simp) (fun hsc=>?_);simp only [Lf.enter,Nat.reduceAdd];clear hsc
  have hU:=True.intro
  repeat' (first|(refine goS ?_)|(refine za (fun K hK=>?_))|((refine zb (fun hcd=>?_) (fun hcd=>?_))<;>(try simp only [hcP] at hcd)<;>(try exact cdT))|(refine zd (f:=197) rfl Tryz.call197 (h:=AEq.sub' [] (hc:=kW _ _ _ aoT aoT aoT aoT aoT aoT aoT) (hq:=?_)))|(refine zd (f:=222) rfl Tryz.call222 (h:=AEq.pure' agT (znN _ _ _ aoT) (hq:=?_)))|(guard_target =~ SOp _ _ ⟨_,.convert _ _ _,_,_,_,none⟩ _ _ _;refine zcm rfl bT sT bT sT lmT ?_)|((refine ze [] (by rw [Tryz.results199,Lf.zt]) (zj ?_) ?_)<;>(try (first|exact zh|exact stT)))|(refine hK _ _ ?_;clear hK K))
theorem zf7 (l : List UInt8) (s : Bool) (hl : l.length ≤ 100000) : AEq Tryz.prog 181 [.lit (.string ⟨l.toArray⟩),bl s] [] (.sl false false ((slP s l).map zf)) []:=by
 have h70:=zv1
 have h71:=zlR
 have hel:=zhM l
 cases s with
 | false=>
  have hpl:=zN 0 7 (l.length : Int)
  rw [zrj,List.map_append]
  refine zc Tryz.func181 rfl Tryz.ntmps181 (by simp) (fun hsc=>?_);simp only [Lf.enter,Nat.reduceAdd];clear hsc
  have hU:=True.intro
  repeat' (first|(refine goS ?_)|(refine za (fun K hK=>?_))|((refine zb (fun hcd=>?_) (fun hcd=>?_))<;>(try simp only [hcP] at hcd)<;>(try exact cdT))|(refine zd (f:=180) rfl Tryz.call180 (h:=AEq.sub' [] (hc:=yV _ _ _ aoT aoT aoT aoT aoT aoT aoT) (hq:=?_)))|(guard_target =~ SOp _ _ ⟨_,.convert _ _ _,_,_,_,none⟩ _ _ _;refine zcm rfl bT sT bT sT lmT ?_)|((refine ze [] (by rw [Tryz.results181,Lf.zt]) (zj ?_) ?_)<;>(try (first|exact zh|exact stT)))|(refine hK _ _ ?_;clear hK K))
 | true=>
  have hpl:=zN 128 7 ((yu (encL l)).length : Int)
  rw [zrk,List.map_append]
  refine zc Tryz.func181 rfl Tryz.ntmps181 (by simp) (fun hsc=>?_);simp only [Lf.enter,Nat.reduceAdd];clear hsc
  have hU:=True.intro
  repeat' (first|(refine goS ?_)|(refine za (fun K hK=>?_))|((refine zb (fun hcd=>?_) (fun hcd=>?_))<;>(try simp only [hcP] at hcd)<;>(try exact cdT))|(refine zd (f:=207) rfl Tryz.call207 (h:=AEq.pure' agT (znO _ _ _ aoT) (hq:=?_)))|(refine zd (f:=180) rfl Tryz.call180 (h:=AEq.sub' [] (hc:=yV _ _ _ aoT aoT aoT aoT aoT aoT aoT) (hq:=?_)))|(guard_target =~ SOp _ _ ⟨_,.convert _ _ _,_,_,_,none⟩ _ _ _;refine zcm rfl bT sT bT sT lmT ?_)|((refine ze [] (by rw [Tryz.results181,Lf.zt]) (zj ?_) ?_)<;>(try (first|exact zh|exact stT)))|(refine hK _ _ ?_;clear hK K))
attribute [local irreducible] slG zpm
end Go.Proofs.YtdalcgfnlbofdaaGreatDoor
namespace Go.Proofs.YtdalcgfnlbofdaaGreatDoor
open Go Go.Lf Go.Proofs
attribute [local irreducible] Lf.rg Lf.ro Lf.PWp Lf.SOp Lf.ACall Lf.Scoped Lf.dg Lf.dw
set_option maxRecDepth 20000
set_option maxHeartbeats 4000000
attribute [local irreducible] pwI zaf pgG huM y7 yu encL slG zpm
end Go.Proofs.YtdalcgfnlbofdaaGreatDoor
