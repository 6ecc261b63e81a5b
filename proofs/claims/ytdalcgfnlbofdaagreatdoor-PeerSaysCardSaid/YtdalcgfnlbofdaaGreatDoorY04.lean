import Derived.Test.YtdalcgfnlbofdaaGreatDoorPg
import Derived.Test.YtdalcgfnlbofdaaGreatDoorY01
import Derived.Test.YtdalcgfnlbofdaaGreatDoorPc
import Derived.Laws.Strings
set_option linter.unusedVariables false
set_option linter.unusedSimpArgs false
namespace Go.Proofs.YtdalcgfnlbofdaaGreatDoor
open Go Go.Lf Go.Proofs
attribute [local irreducible] Lf.rg Lf.ro Lf.PWp Lf.SOp Lf.ACall Lf.Scoped Lf.dg Lf.dw
set_option maxRecDepth 20000
set_option maxHeartbeats 4000000
/-! bit by bit,of numbers from 0 on -/
theorem ztx (a b : Nat) (ha : a < 2 ^ 62) (hb : b < 2 ^ 62) : zbg .i64 (a : Int) (b : Int) = ((a &&& b : Nat) : Int):=by
 show IntKind.i64.wrap ((BitVec.ofInt 64 (a : Int) &&& BitVec.ofInt 64 (b : Int)).toNat : Int) = _
 have e1 : BitVec.ofInt 64 (a : Int) = BitVec.ofNat 64 a:=rfl
 have e2 : BitVec.ofInt 64 (b : Int) = BitVec.ofNat 64 b:=rfl
 rw [e1,e2,BitVec.toNat_and,BitVec.toNat_ofNat,BitVec.toNat_ofNat,Nat.mod_eq_of_lt (by omega),Nat.mod_eq_of_lt (by omega)]
 have:=Nat.and_le_left (n:=a) (m:=b)
 exact w64 (by omega)
theorem zzj (a b : Nat) (ha : a < 2 ^ 62) (hb : b < 2 ^ 62) : ior .i64 (a : Int) (b : Int) = ((a ||| b : Nat) : Int):=by
 show IntKind.i64.wrap ((BitVec.ofInt 64 (a : Int) ||| BitVec.ofInt 64 (b : Int)).toNat : Int) = _
 have e1 : BitVec.ofInt 64 (a : Int) = BitVec.ofNat 64 a:=rfl
 have e2 : BitVec.ofInt 64 (b : Int) = BitVec.ofNat 64 b:=rfl
 rw [e1,e2,BitVec.toNat_or,BitVec.toNat_ofNat,BitVec.toNat_ofNat,Nat.mod_eq_of_lt (by omega),Nat.mod_eq_of_lt (by omega)]
 have:=Nat.or_lt_two_pow ha hb
 exact w64 (by omega)
theorem zj0 (a b : Int) : ior .i64 a b = ior .i64 b a:=by
 show IntKind.i64.wrap ((BitVec.ofInt 64 a ||| BitVec.ofInt 64 b).toNat : Int) = IntKind.i64.wrap ((BitVec.ofInt 64 b ||| BitVec.ofInt 64 a).toNat : Int)
 rw [BitVec.or_comm]
def pwI (b : Int) : Int:=2 ^ b.toNat
theorem zmQ : pwI 7 = 128:=by decide
theorem zhn {b : Int} (h1 : 1 ≤ b) (h8 : b ≤ 8) : 2 ≤ pwI b ∧ pwI b ≤ 256:=by
 obtain rfl|rfl|rfl|rfl|rfl|rfl|rfl|rfl : b = 1 ∨ b = 2 ∨ b = 3 ∨ b = 4 ∨ b = 5 ∨ b = 6 ∨ b = 7 ∨ b = 8:=by omega
 all_goals decide
theorem zho {b n : Int} (h1 : 1 ≤ b) (h8 : b ≤ 8) (hn : 0 ≤ n) (hn2 : n ≤ 4294967296) : zbg .i64 n (pwI b - 1) = n % pwI b:=by
 obtain ⟨k,rfl⟩ : ∃ k : Nat,n = k:=⟨n.toNat,by omega⟩
 have hk : 2 ^ b.toNat ≤ 2 ^ 8:=Nat.pow_le_pow_right (by decide) (by omega)
 have hk0 : 0 < 2 ^ b.toNat:=Nat.pow_pos (by decide)
 have e : pwI b - 1 = ((2 ^ b.toNat - 1 : Nat) : Int):=by
  unfold pwI
  have : (2 : Int) ^ b.toNat = ((2 ^ b.toNat : Nat) : Int):=by simp
  rw [this];omega
 rw [e,ztx k _ (by omega) (by omega),Nat.and_two_pow_sub_one_eq_mod]
 unfold pwI
 simp
theorem zhp {b f n : Int} (h1 : 1 ≤ b) (h8 : b ≤ 8) (hf : f % pwI b = 0) (hf0 : 0 ≤ f) (hf1 : f ≤ 255) (hn : 0 ≤ n) (hn2 : n < pwI b) : ior .i64 f n = f + n ∧ f + pwI b ≤ 256:=by
 obtain ⟨k,rfl⟩ : ∃ k : Nat,n = k:=⟨n.toNat,by omega⟩
 obtain ⟨g,rfl⟩ : ∃ k : Nat,f = k:=⟨f.toNat,by omega⟩
 have e : pwI b = ((2 ^ b.toNat : Nat) : Int):=by unfold pwI;simp
 have hbd:=zhn h1 h8
 rw [e] at hf hn2 hbd ⊢
 obtain ⟨q,hq⟩ : ∃ q,g = 2 ^ b.toNat * q:=⟨g / 2 ^ b.toNat,by
  have h3:=Nat.div_add_mod g (2 ^ b.toNat)
  have h4 : ((g % 2 ^ b.toNat : Nat) : Int) = 0:=by rw [Int.natCast_emod];exact hf
  omega⟩
 refine ⟨?_,?_⟩
 ·rw [zzj _ _ (by omega) (by omega)]
  have:=Nat.two_pow_add_eq_or_of_lt (i:=b.toNat) (b:=k) (by omega) q
  rw [hq,← this];simp
 ·obtain rfl | rfl | rfl | rfl | rfl | rfl | rfl | rfl : b = 1 ∨ b = 2 ∨ b = 3 ∨ b = 4 ∨ b = 5 ∨ b = 6 ∨ b = 7 ∨ b = 8 := by omega
  all_goals (simp at hq ⊢;omega)
def byI (x : Int) : UInt8:=UInt8.ofNat x.toNat
theorem zmR {x : Int} (h0 : 0 ≤ x) (h1 : x ≤ 255) : ((byI x).toNat : Int) = x:=by unfold byI;simp;omega
def zdh (x : Int) : List UInt8:=[byI x]
theorem vt (x : Int) : (zdh x).length = 1:=rfl
theorem zau {x : Int} (h0 : 0 ≤ x) (h1 : x ≤ 255) : List.map zf (zdh x) = [[AV.lit (.int .u8 x)]]:=by
 show [[AV.lit (.int .u8 ((byI x).toNat : Int))]] = _
 rw [zmR h0 h1]
def zec : Nat → Int → List UInt8
 | 0,n=>zdh n
 | k + 1,n=>if n < 128 then zdh n else zdh (128 + n % 128) ++ zec k (n / 128)
theorem zmS {k : Nat} {n : Int} (h : n < 128) : zec k n = zdh n:=by cases k with|zero=>rfl|succ k=>rw [zec,if_pos h]
theorem zmT {k : Nat} {n : Int} (h : ¬ n < 128) : zec (k + 1) n = zdh (128 + n % 128) ++ zec k (n / 128):=by rw [zec,if_neg h]
theorem ze3 : ∀ (k : Nat) (n : Int), 1 ≤ (zec k n).length ∧ (zec k n).length ≤ k + 1
 | 0,n=>by rw [zec,vt];omega
 | k + 1,n=>by
  rw [zec]
  have:=ze3 k (n / 128)
  split
  ·rw [vt];omega
  ·rw [List.length_append,vt];omega
def zav (f b n : Int) : List UInt8:=if n < pwI b - 1 then zdh (f + n) else zdh (f + pwI b - 1) ++ zec 4 (n - (pwI b - 1))
theorem zmU {f b n : Int} (h : n < pwI b - 1) : zav f b n = zdh (f + n):=by rw [zav,if_pos h]
theorem zmV {f b n : Int} (h : ¬ n < pwI b - 1) : zav f b n = zdh (f + pwI b - 1) ++ zec 4 (n - (pwI b - 1)):=by rw [zav,if_neg h]
attribute [local irreducible] pwI zdh zec zav
theorem zqw (b : Int) (h1 : 1 ≤ b) (h8 : b ≤ 8) : AEq Tryz.prog 221 [i64 b] [] (.tu [i64 (pwI b - 1),bl true]) []:=by
 have hp:=zhn h1 h8
 have hwr : IntKind.i64.wrap (IntKind.i64.wrap (2 ^ b.toNat) - 1) = pwI b - 1:=by
  have e : (2 : Int) ^ b.toNat = pwI b:=by unfold pwI;rfl
  rw [e,w64 (n:=pwI b) (by omega),w64 (by omega)]
 refine zc Tryz.func221 rfl Tryz.ntmps221 (by simp) (fun hsc=>?_);simp only [Lf.enter,Nat.reduceAdd];clear hsc
 have hU:=@hwr
 repeat' (first|(refine goR ?_)|(refine za (fun K hK=>?_))|((refine zb (fun hcd=>?_) (fun hcd=>?_))<;>(try simp only [hcP] at hcd)<;>(try exact cdT))|((refine zh [] (by rw [Tryz.results221,Lf.yE]) (zA ?_ ?_) ?_)<;>(try (first|exact zi|exact stT)))|(refine hK _ _ ?_;clear hK K))
theorem kY (f b n : Int) (h1 : 1 ≤ b) (h8 : b ≤ 8) (h0 : 0 ≤ f) (h255 : f ≤ 255) (hf : f % pwI b = 0) (hn0 : 0 ≤ n) (hn1 : n ≤ 2147483647) : AEq Tryz.prog 197 [i64 f,i64 b,i64 n] [] (.tu [.row 0 ((zav f b n).length - 1),i64 0]) [.row ((zav f b n).length - 1) 5 1 ((zav f b n).map zf)]:=by
  have hp:=zhn h1 h8
  have hand:=zho (n:=f) h1 h8 h0 (by omega)
  rw [hf] at hand
  by_cases hlt : n < pwI b - 1
  · obtain ⟨hor, hle⟩ := zhp h1 h8 hf h0 h255 hn0 (by omega)
    have hone:=zau (x:=f + n) (by omega) (by omega)
    rw [zmU hlt,hone,vt]
    refine zc Tryz.func197 rfl Tryz.ntmps197 (by simp) (fun hsc=>?_);simp only [Lf.enter,Nat.reduceAdd];clear hsc
    have hU:=And.intro @hand (@hor)
    repeat' (first|(refine goR ?_)|(refine za (fun K hK=>?_))|((refine zb (fun hcd=>?_) (fun hcd=>?_))<;>(try simp only [hcP] at hcd)<;>(try exact cdT))|(guard_target =~ SOp _ _ ⟨_,.buildSlice _ _ _,_,_,_,none⟩ _ _ _;refine zg3 rfl sT eoT bT bT bT sT sT sT bT sT sT sT ?_)|(refine zd (f:=221) rfl Tryz.call221 (h:=AEq.pure' agT (zqw _ (by assumption) (by assumption)) (hq:=?_)))|((refine zh [0] (by rw [Tryz.results197,Lf.yE]) (zA ?_ ?_) ?_)<;>(try (first|exact zi|exact stT)))|(refine hK _ _ ?_;clear hK K))
  · obtain ⟨hor, hle⟩ := zhp (n := pwI b - 1) h1 h8 hf h0 h255 (by omega) (by omega)
    have hone:=zau (x:=f + (pwI b - 1)) (by omega) (by omega)
    have hol1:=vt (f + (pwI b - 1))
    rw [zmV hlt]
    rw [show f + pwI b - 1 = f + (pwI b - 1) from by omega]
    obtain ⟨tot,htot⟩ : ∃ l,zdh (f + (pwI b - 1)) ++ zec 4 (n - (pwI b - 1)) = l:=⟨_,rfl⟩
    rw [htot]
    refine zc Tryz.func197 rfl Tryz.ntmps197 (by simp) (fun hsc=>?_);simp only [Lf.enter,Nat.reduceAdd];clear hsc
    have hU:=And.intro @hand (@hor)
    repeat' (first|(refine goR ?_)|(refine za (fun K hK=>?_))|((refine zb (fun hcd=>?_) (fun hcd=>?_))<;>(try simp only [hcP] at hcd)<;>(try exact cdT))|(guard_target =~ SOp _ _ ⟨_,.buildSlice _ _ _,_,_,_,none⟩ _ _ _;refine zg3 rfl sT eoT bT bT bT sT sT sT bT sT sT sT ?_)|(refine zd (f:=221) rfl Tryz.call221 (h:=AEq.pure' agT (zqw _ (by assumption) (by assumption)) (hq:=?_)))|(refine hK _ _ ?_;clear hK K))
    refine zz [2,10,57,58,59,60,61,62,63,64,65,66,67] (fun s : List UInt8 × Nat × Int=>[(10,.row 0 (s.1.length - 1)),(2,i64 s.2.2)]) (fun s=>[.row (s.1.length - 1) 5 1 (s.1.map zf)]) (fun s=>s.2.1 ≤ 4 ∧ 0 ≤ s.2.2 ∧ s.2.2 ≤ 4294967295 ∧ s.2.2 < 128 ^ (s.2.1 + 1) ∧ s.1.length + s.2.1 = 5 ∧ s.1 ++ zec s.2.1 s.2.2 = tot) (fun s=>s.2.1) (zdh (f + (pwI b - 1)),4,n - (pwI b - 1)) ⟨Nat.le_refl _,by dsimp only;omega,by dsimp only;omega,by dsimp only;omega,by dsimp only;omega,htot⟩ ?_ (by dsimp only;rw [hone,hol1]) ?_
    · dsimp only
      rw [hol1]
      have hU:=True.intro
      (refine ⟨⟨_,sT,?_⟩,⟨_,sT,?_⟩,trivial⟩<;>(try (first|exact zi)))
    · rintro ⟨o, k, m⟩ ⟨hk, hm0, hm1, hm2, hol, hot⟩
      dsimp only at hk hm0 hm1 hm2 hol hot ⊢
      simp only [vf,List.map_cons,List.map_nil,List.cons_append,List.nil_append]
      by_cases hge : m < 128
      · rw [zmS hge] at hot
        have hon:=zau hm0 (by omega)
        have hapt : List.map zf o ++ [[AV.lit (.int .u8 m)]] = List.map zf tot:=by rw [← hot,List.map_append,hon]
        have hln : tot.length - 1 = o.length - 1 + 1:=by rw [← hot,List.length_append,vt];omega
        have hU:=@hapt
        repeat' (first|(refine goS ?_)|(refine za (fun K hK=>?_))|((refine zb (fun hcd=>?_) (fun hcd=>?_))<;>(try simp only [hcP] at hcd)<;>(try exact cdT))|((refine zh [0] (by rw [Tryz.results197,Lf.yE]) (zA ?_ ?_) ?_)<;>(try (first|exact zi|exact stT)))|(refine hK _ _ ?_;clear hK K)|(apply_assumption (exfalso:=false) (symm:=false)))
        all_goals first|exact yc (by rw [hln])|(rw [hln];exact stq rfl)|trace_state
      · obtain ⟨k,rfl⟩ : ∃ j,k = j + 1:=⟨k - 1,by
          cases k with
          | zero=>simp at hm2;omega
          | succ k=>rfl⟩
        rw [zmT hge,← List.append_assoc] at hot
        rw [Int.pow_succ] at hm2
        have h127 : zbg .i64 m 127 = m % 128:=by
          have:=zho (b:=7) (n:=m) (by decide) (by decide) hm0 (by omega)
          rw [zmQ] at this;exact this
        have h128 : ior .i64 (m % 128) 128 = 128 + m % 128:=by
          have:=(zhp (b:=7) (f:=128) (n:=m % 128) (by decide) (by decide) (by rw [zmQ];decide) (by decide) (by decide) (by omega) (by rw [zmQ];omega)).1
          rw [zj0];exact this
        have hon:=zau (x:=128 + m % 128) (by omega) (by omega)
        have hapl : List.map zf o ++ [[AV.lit (.int .u8 (128 + m % 128))]] = List.map zf (o ++ zdh (128 + m % 128)):=by rw [List.map_append,hon]
        have hln : (o ++ zdh (128 + m % 128)).length = o.length + 1:=by rw [List.length_append,vt]
        have hln2 : o.length - 1 + 1 = o.length + 1 - 1:=by omega
        have hU:=And.intro @h127 ( And.intro @h128 (@hapl))
        repeat' (first|(refine goS ?_)|(refine za (fun K hK=>?_))|((refine zb (fun hcd=>?_) (fun hcd=>?_))<;>(try simp only [hcP] at hcd)<;>(try exact cdT))|(refine hK _ _ ?_;clear hK K)|(dsimp only [Lf.y6,Lf.vL]))
        refine ⟨(o ++ zdh (128 + m % 128),k,m / 128),⟨by dsimp only;omega,by dsimp only;omega,by dsimp only;omega,by dsimp only;omega,by dsimp only;rw [hln];omega,hot⟩,by dsimp only;omega,?_,arT,?_⟩
        · dsimp only
          rw [hln,← hln2]
          (refine ⟨⟨_,sT,?_⟩,⟨_,sT,?_⟩,trivial⟩<;>(try (first|exact zi)))
        · dsimp only
          rw [hln,← hln2]
end Go.Proofs.YtdalcgfnlbofdaaGreatDoor
namespace Go.Proofs.YtdalcgfnlbofdaaGreatDoor
open Go Go.Lf Go.Proofs
attribute [local irreducible] Lf.rg Lf.ro Lf.PWp Lf.SOp Lf.ACall Lf.Scoped Lf.dg Lf.dw
set_option maxRecDepth 20000
set_option maxHeartbeats 4000000
def pgF (b : List UInt8) : Nat → Nat → Int → Int × Int × Int
 | 0,_,_=>(0,0,5)
 | k + 1, a, n => match b[a + 1]? with
  | none=>(0,0,3)
  | some x=>if (x.toNat : Int) < 128 then (if 2147483647 < n + (x.toNat : Int) % 128 * pwI (7 * (a : Int)) then (0,0,5) else (n + (x.toNat : Int) % 128 * pwI (7 * (a : Int)),(a : Int) + 2,0)) else pgF b k (a + 1) (n + (x.toNat : Int) % 128 * pwI (7 * (a : Int)))
def pgG (b : List UInt8) (c : Int) : Int × Int × Int := match b[0]? with
 | none=>(0,0,3)
 | some x=>if (x.toNat : Int) % pwI c < pwI c - 1 then ((x.toNat : Int) % pwI c,1,0) else pgF b 5 0 ((x.toNat : Int) % pwI c)
attribute [local irreducible] pwI pgF
end Go.Proofs.YtdalcgfnlbofdaaGreatDoor
namespace Go.Proofs.YtdalcgfnlbofdaaGreatDoor
open Go Go.Lf Go.Proofs
attribute [local irreducible] Lf.rg Lf.ro Lf.PWp Lf.SOp Lf.ACall Lf.Scoped Lf.dg
set_option maxRecDepth 20000
set_option maxHeartbeats 4000000
/-! what is put is got -/
end Go.Proofs.YtdalcgfnlbofdaaGreatDoor
namespace Go.Proofs.YtdalcgfnlbofdaaGreatDoor
open Go Go.Lf Go.Proofs
attribute [local irreducible] Lf.rg Lf.ro Lf.PWp Lf.SOp Lf.ACall Lf.Scoped Lf.dg Lf.dw
set_option maxRecDepth 20000
set_option maxHeartbeats 4000000
theorem zhq (l : List UInt8) : ((⟨l.toArray⟩ : ByteArray).toList == (⟨#[]⟩ : ByteArray).toList) = decide (l = []):=by
 rw [ByteArray.toList_eq,ByteArray.toList_eq]
 cases l<;>simp
def RP (k i : Int) (nm : List UInt8) (ns : Bool) (vl : List UInt8) (vs : Bool) (sz : Int) : Prop:=
 (1 ≤ k ∧ k ≤ 5) ∧ (0 ≤ i ∧ i ≤ 2147483647) ∧ (0 ≤ sz ∧ sz ≤ 2147483647) ∧ ((k = 5 ∧ i = 0 ∧ (nm = [] ∧ ns = false) ∧ (vl = [] ∧ vs = false)) ∨ (k = 1 ∧ sz = 0 ∧ 0 < i ∧ (nm = [] ∧ ns = false) ∧ (vl = [] ∧ vs = false)) ∨ (k ≠ 5 ∧ k ≠ 1 ∧ sz = 0 ∧ (i = 0 ∨ (nm = [] ∧ ns = false))))
instance (k i : Int) (nm : List UInt8) (ns : Bool) (vl : List UInt8) (vs : Bool) (sz : Int) : Decidable (RP k i nm ns vl vs sz):=by unfold RP;exact inferInstance
def rOk (k i : Int) (nm : List UInt8) (ns : Bool) (vl : List UInt8) (vs : Bool) (sz : Int) : Bool:=decide (RP k i nm ns vl vs sz)
theorem zad (k i : Int) (nm : List UInt8) (ns : Bool) (vl : List UInt8) (vs : Bool) (sz : Int) : AEq Tryz.prog 196 [.ag [i64 k,i64 i,.lit (.string ⟨nm.toArray⟩),bl ns,.lit (.string ⟨vl.toArray⟩),bl vs,i64 sz]] [] (bl (rOk k i nm ns vl vs sz)) []:=by
 have hn:=zhq nm
 have hv:=zhq vl
 have hwi : wiB i = (decide (0 ≤ i) && decide (i ≤ 2147483647)):=rfl
 have hwz : wiB sz = (decide (0 ≤ sz) && decide (sz ≤ 2147483647)):=rfl
 refine zc Tryz.func196 rfl Tryz.ntmps196 (by simp) (fun hsc=>?_);simp only [Lf.enter,Nat.reduceAdd];clear hsc
 have hU:=And.intro @hn ( And.intro @hv ( And.intro @hwi (@hwz)))
 repeat' (first|(refine goR ?_)|(refine za (fun K hK=>?_))|((refine zb (fun hcd=>?_) (fun hcd=>?_))<;>(try simp only [hcP] at hcd)<;>(try exact cdT))|(guard_target =~ rg _ _ _ (⟨_,_,_,_,_,some _⟩ :: _) _ _ _;(first|refine zH gT (fun hcd=>?_) (fun hcd=>?_)|refine zw gT (fun hcd=>?_) (fun hcd=>?_))<;>(try simp only [hcd])<;>(try (simp only [Bool.not_eq_true',Bool.not_eq_false'] at hcd;try simp only [hcd]))<;>(refine ku (Γ2:=_) ewT ?_)<;>(try simp only [hcP] at hcd)<;>(try exact cdT))|(guard_target =~ SOp _ _ ⟨_,.binOp _ _ _ _ _,_,_,_,none⟩ _ _ _;refine zV (ne:=false) rfl (by first|exact zqb|exact zqc|fail) (hc:=rfl) (hK:=?_))|(guard_target =~ SOp _ _ ⟨_,.binOp _ _ _ _ _,_,_,_,some _⟩ _ _ _;refine zV (ne:=false) rfl (by first|exact zqb|exact zqc|fail) (hc:=rfl) (hK:=?_))|(refine zd (f:=220) rfl Tryz.call220 (h:=AEq.pure' agT (zmG _) (hq:=?_)))|((refine zh [] (by rw [Tryz.results196,Lf.zy]) (zj ?_) ?_)<;>(try (first|exact zi|exact stT)))|(refine hK _ _ ?_;clear hK K))
 all_goals first|exact zt (by unfold rOk RP;grind)|trace_state
def stTab : List (ByteArray × ByteArray):=[(⟨#[58,97,117,116,104,111,114,105,116,121]⟩,⟨#[]⟩),(⟨#[58,109,101,116,104,111,100]⟩,⟨#[71,69,84]⟩),(⟨#[58,109,101,116,104,111,100]⟩,⟨#[80,79,83,84]⟩),(⟨#[58,112,97,116,104]⟩,⟨#[47]⟩),(⟨#[58,112,97,116,104]⟩,⟨#[47,105,110,100,101,120,46,104,116,109,108]⟩),(⟨#[58,115,99,104,101,109,101]⟩,⟨#[104,116,116,112]⟩),(⟨#[58,115,99,104,101,109,101]⟩,⟨#[104,116,116,112,115]⟩),(⟨#[58,115,116,97,116,117,115]⟩,⟨#[50,48,48]⟩),(⟨#[58,115,116,97,116,117,115]⟩,⟨#[50,48,52]⟩),(⟨#[58,115,116,97,116,117,115]⟩,⟨#[50,48,54]⟩),(⟨#[58,115,116,97,116,117,115]⟩,⟨#[51,48,52]⟩),(⟨#[58,115,116,97,116,117,115]⟩,⟨#[52,48,48]⟩),(⟨#[58,115,116,97,116,117,115]⟩,⟨#[52,48,52]⟩),(⟨#[58,115,116,97,116,117,115]⟩,⟨#[53,48,48]⟩),(⟨#[97,99,99,101,112,116,45,99,104,97,114,115,101,116]⟩,⟨#[]⟩),(⟨#[97,99,99,101,112,116,45,101,110,99,111,100,105,110,103]⟩,⟨#[103,122,105,112,44,32,100,101,102,108,97,116,101]⟩),(⟨#[97,99,99,101,112,116,45,108,97,110,103,117,97,103,101]⟩,⟨#[]⟩),(⟨#[97,99,99,101,112,116,45,114,97,110,103,101,115]⟩,⟨#[]⟩),(⟨#[97,99,99,101,112,116]⟩,⟨#[]⟩),(⟨#[97,99,99,101,115,115,45,99,111,110,116,114,111,108,45,97,108,108,111,119,45,111,114,105,103,105,110]⟩,⟨#[]⟩),(⟨#[97,103,101]⟩,⟨#[]⟩),(⟨#[97,108,108,111,119]⟩,⟨#[]⟩),(⟨#[97,117,116,104,111,114,105,122,97,116,105,111,110]⟩,⟨#[]⟩),(⟨#[99,97,99,104,101,45,99,111,110,116,114,111,108]⟩,⟨#[]⟩),(⟨#[99,111,110,116,101,110,116,45,100,105,115,112,111,115,105,116,105,111,110]⟩,⟨#[]⟩),(⟨#[99,111,110,116,101,110,116,45,101,110,99,111,100,105,110,103]⟩,⟨#[]⟩),(⟨#[99,111,110,116,101,110,116,45,108,97,110,103,117,97,103,101]⟩,⟨#[]⟩),(⟨#[99,111,110,116,101,110,116,45,108,101,110,103,116,104]⟩,⟨#[]⟩),(⟨#[99,111,110,116,101,110,116,45,108,111,99,97,116,105,111,110]⟩,⟨#[]⟩),(⟨#[99,111,110,116,101,110,116,45,114,97,110,103,101]⟩,⟨#[]⟩),(⟨#[99,111,110,116,101,110,116,45,116,121,112,101]⟩,⟨#[]⟩),(⟨#[99,111,111,107,105,101]⟩,⟨#[]⟩),(⟨#[100,97,116,101]⟩,⟨#[]⟩),(⟨#[101,116,97,103]⟩,⟨#[]⟩),(⟨#[101,120,112,101,99,116]⟩,⟨#[]⟩),(⟨#[101,120,112,105,114,101,115]⟩,⟨#[]⟩),(⟨#[102,114,111,109]⟩,⟨#[]⟩),(⟨#[104,111,115,116]⟩,⟨#[]⟩),(⟨#[105,102,45,109,97,116,99,104]⟩,⟨#[]⟩),(⟨#[105,102,45,109,111,100,105,102,105,101,100,45,115,105,110,99,101]⟩,⟨#[]⟩),(⟨#[105,102,45,110,111,110,101,45,109,97,116,99,104]⟩,⟨#[]⟩),(⟨#[105,102,45,114,97,110,103,101]⟩,⟨#[]⟩),(⟨#[105,102,45,117,110,109,111,100,105,102,105,101,100,45,115,105,110,99,101]⟩,⟨#[]⟩),(⟨#[108,97,115,116,45,109,111,100,105,102,105,101,100]⟩,⟨#[]⟩),(⟨#[108,105,110,107]⟩,⟨#[]⟩),(⟨#[108,111,99,97,116,105,111,110]⟩,⟨#[]⟩),(⟨#[109,97,120,45,102,111,114,119,97,114,100,115]⟩,⟨#[]⟩),(⟨#[112,114,111,120,121,45,97,117,116,104,101,110,116,105,99,97,116,101]⟩,⟨#[]⟩),(⟨#[112,114,111,120,121,45,97,117,116,104,111,114,105,122,97,116,105,111,110]⟩,⟨#[]⟩),(⟨#[114,97,110,103,101]⟩,⟨#[]⟩),(⟨#[114,101,102,101,114,101,114]⟩,⟨#[]⟩),(⟨#[114,101,102,114,101,115,104]⟩,⟨#[]⟩),(⟨#[114,101,116,114,121,45,97,102,116,101,114]⟩,⟨#[]⟩),(⟨#[115,101,114,118,101,114]⟩,⟨#[]⟩),(⟨#[115,101,116,45,99,111,111,107,105,101]⟩,⟨#[]⟩),(⟨#[115,116,114,105,99,116,45,116,114,97,110,115,112,111,114,116,45,115,101,99,117,114,105,116,121]⟩,⟨#[]⟩),(⟨#[116,114,97,110,115,102,101,114,45,101,110,99,111,100,105,110,103]⟩,⟨#[]⟩),(⟨#[117,115,101,114,45,97,103,101,110,116]⟩,⟨#[]⟩),(⟨#[118,97,114,121]⟩,⟨#[]⟩),(⟨#[118,105,97]⟩,⟨#[]⟩),(⟨#[119,119,119,45,97,117,116,104,101,110,116,105,99,97,116,101]⟩,⟨#[]⟩)]
def kh (i : Int) : ByteArray × ByteArray:=if 1 ≤ i then stTab.getD (i.toNat - 1) (⟨#[]⟩,⟨#[]⟩) else (⟨#[]⟩,⟨#[]⟩)
@[go_sem] def zhr (f : ByteArray × ByteArray) : List AV:=[.lit (.string f.1),.lit (.string f.2),bl false]
abbrev comA : List AV:=(stTab.take 14).flatMap fun p=>[str p.1,str p.2]
abbrev zsp : List AV:=(stTab.drop 14).map fun p=>str p.1
theorem zC (f : Nat → Nat) : rnl f comA = comA:=rfl
theorem zD (f : Nat → Nat) : rnl f zsp = zsp:=rfl
theorem za2 : stTab.length = 61:=rfl
theorem ze4 (i : Int) (h : 1 ≤ i ∧ i ≤ 61) : ∃ h2 : i.toNat - 1 < stTab.length,kh i = stTab[i.toNat - 1]:=by
 refine ⟨by rw [za2];omega,?_⟩
 unfold kh
 rw [if_pos h.1,List.getD_eq_getElem?_getD,List.getElem?_eq_getElem (by rw [za2];omega)];rfl
theorem ze5 (p : ByteArray × ByteArray → Bool) (h : (stTab.drop 14).all p = true) (i : Int) (hi : 15 ≤ i ∧ i ≤ 61) : p (kh i) = true:=by
 obtain ⟨h2,e⟩:=ze4 i ⟨by omega,hi.2⟩
 rw [e]
 refine List.all_eq_true.1 h _ ?_
 rw [List.mem_iff_getElem?]
 refine ⟨i.toNat - 15,?_⟩
 rw [List.getElem?_drop,List.getElem?_eq_some_iff]
 refine ⟨by rw [za2];omega,?_⟩
 congr 1
 omega
theorem zty (i : Int) (hi : 15 ≤ i ∧ i ≤ 61) (h : (kh i).1 = ⟨#[97,99,99,101,112,116,45,101,110,99,111,100,105,110,103]⟩) : (kh i).2 = ⟨#[103,122,105,112,44,32,100,101,102,108,97,116,101]⟩:=by
 have:=ze5 (fun f=>decide (f.1 = ⟨#[97,99,99,101,112,116,45,101,110,99,111,100,105,110,103]⟩ → f.2 = ⟨#[103,122,105,112,44,32,100,101,102,108,97,116,101]⟩)) (by decide) i hi
 exact of_decide_eq_true this h
theorem zqx (i : Int) (hi : 15 ≤ i ∧ i ≤ 61) (h : ¬ (kh i).1 = ⟨#[97,99,99,101,112,116,45,101,110,99,111,100,105,110,103]⟩) : (kh i).2 = ⟨#[]⟩:=by
 have:=ze5 (fun f=>decide (¬ f.1 = ⟨#[97,99,99,101,112,116,45,101,110,99,111,100,105,110,103]⟩ → f.2 = ⟨#[]⟩)) (by decide) i hi
 exact of_decide_eq_true this h
theorem zm (i : Int) (h : 15 ≤ i ∧ i ≤ 61) : zsp[(i - 1 - 14).toNat * 1]? = some (str (kh i).1):=by
 obtain ⟨h2,e⟩:=ze4 i ⟨by omega,by omega⟩
 have hj : 14 + (i - 1 - 14).toNat * 1 = i.toNat - 1:=by omega
 rw [List.getElem?_map,List.getElem?_drop,hj,List.getElem?_eq_getElem h2,e]
 rfl
theorem zk (i : Int) (h : 1 ≤ i ∧ i ≤ 14) : List.take 2 (List.drop ((i - 1).toNat * 2) comA) = [str (kh i).1,str (kh i).2]:=by
 have hi : i = 1 ∨ i = 2 ∨ i = 3 ∨ i = 4 ∨ i = 5 ∨ i = 6 ∨ i = 7 ∨ i = 8 ∨ i = 9 ∨ i = 10 ∨ i = 11 ∨ i = 12 ∨ i = 13 ∨ i = 14:=by omega
 rcases hi with rfl|rfl|rfl|rfl|rfl|rfl|rfl|rfl|rfl|rfl|rfl|rfl|rfl|rfl<;>rfl
@[go_sem] theorem zBe (a b : ByteArray) : (a.toList == b.toList) = decide (a = b):=by
 obtain ⟨⟨a⟩⟩:=a;obtain ⟨⟨b⟩⟩:=b
 rw [ByteArray.toList_eq,ByteArray.toList_eq]
 by_cases h : a = b<;>simp [h]
theorem zq : comA.length = 28:=rfl
theorem zhs : AEq Tryz.prog 245 [] [] (.ag comA) []:=by
 refine zc Tryz.func245 rfl Tryz.ntmps245 (by simp) (fun hsc=>?_);simp only [Lf.enter,Nat.reduceAdd];clear hsc
 have hU:=True.intro
 repeat' (first|(refine goR ?_)|(refine za (fun K hK=>?_))|((refine yv [] exT (by rfl) (by rw [Tryz.results245,Lf.jh];(try simp (disch:=omega) only [Lf.zG,go_sem,seval,↓reduceIte,hU]);rfl) sT sT (zj ?_) ?_)<;>(try (first|exact zi|exact stT)))|(refine hK _ _ ?_;clear hK K))
theorem zj1 : AEq Tryz.prog 246 [] [] (.ag zsp) []:=by
 refine zc Tryz.func246 rfl Tryz.ntmps246 (by simp) (fun hsc=>?_);simp only [Lf.enter,Nat.reduceAdd];clear hsc
 have hU:=True.intro
 repeat' (first|(refine goR ?_)|(refine za (fun K hK=>?_))|((refine yv [] exT (by rfl) (by rw [Tryz.results246,Lf.jh];(try simp (disch:=omega) only [Lf.zG,go_sem,seval,↓reduceIte,hU]);rfl) sT sT (zj ?_) ?_)<;>(try (first|exact zi|exact stT)))|(refine hK _ _ ?_;clear hK K))
theorem zbD (i : Int) (h : 1 ≤ i ∧ i ≤ 61) : AEq Tryz.prog 234 [i64 i] [] (.tu [.ag (zhr (kh i)),bl true]) []:=by
 refine zc Tryz.func234 rfl Tryz.ntmps234 (by simp) (fun hsc=>?_);simp only [Lf.enter,Nat.reduceAdd];clear hsc
 repeat' (first|(guard_target =~ PWp _ _ _ _ _ _ _;first|(refine za (fun K hK=>?_))|(refine ya ?_)|(refine zn ?_)|(refine zJ ?_)|(refine zE ?_)|((refine zeE (by (try simp (disch:=omega) only [go_sem,seval,↓reduceIte,zC,zD,zm,zk,zq,if_pos])<;>rfl) (fun hcd=>?_) (fun hcd=>?_))<;>(try simp only [hcP] at hcd)<;>(try exact cdT)))|(guard_target =~ rg _ _ _ _ _ _ _;first|(guard_target =~ rg _ _ _ (⟨_,.move _,_,_,_,none⟩ :: _) _ _ _;first|(refine vV rfl (by (try simp (disch:=omega) only [go_sem,seval,↓reduceIte,zC,zD,zm,zk,zq,if_pos])<;>rfl) ?_))|(guard_target =~ rg _ _ _ (⟨_,.binOp _ _ _ _ _,_,_,_,none⟩ :: _) _ _ _;first|(refine vV rfl (by (try simp (disch:=omega) only [go_sem,seval,↓reduceIte,zC,zD,zm,zk,zq,if_pos])<;>rfl) ?_)|(refine ka rfl ?_)|(refine zdL rfl ?_))|(guard_target =~ rg _ _ _ (⟨_,.assign _,_,_,_,none⟩ :: _) _ _ _;first|(refine ks rfl (by (try simp (disch:=omega) only [go_sem,seval,↓reduceIte,zC,zD,zm,zk,zq,if_pos])<;>rfl) ?_))|(guard_target =~ rg _ _ _ (⟨_,.load _ _,_,_,_,none⟩ :: _) _ _ _;first|(refine vV rfl (by (try simp (disch:=omega) only [go_sem,seval,↓reduceIte,zC,zD,zm,zk,zq,if_pos])<;>rfl) ?_))|(guard_target =~ rg _ _ _ (⟨_,.fieldAddr _ _ _,_,_,_,none⟩ :: _) _ _ _;first|(refine vV rfl (by (try simp (disch:=omega) only [go_sem,seval,↓reduceIte,zC,zD,zm,zk,zq,if_pos])<;>rfl) ?_))|(guard_target =~ rg _ _ _ (⟨_,.index _ _ _,_,_,_,none⟩ :: _) _ _ _;first|(refine vV rfl (by (try simp (disch:=omega) only [go_sem,seval,↓reduceIte,zC,zD,zm,zk,zq,if_pos])<;>rfl) ?_))|(guard_target =~ rg _ _ _ (⟨_,.move _,_,_,_,some _⟩ :: _) _ _ _;first|(refine zI rfl (by simp only [go_sem,seval,↓reduceIte,zC,zD,zm,zk,zq,if_pos]<;>rfl) (by first|(simp only [go_sem,seval,↓reduceIte,zC,zD,zm,zk,zq,if_pos];done)|(simp only [go_sem,seval,↓reduceIte,zC,zD,zm,zk,zq,if_pos];rfl)|rfl) (by (try simp (disch:=omega) only [go_sem,seval,↓reduceIte,zC,zD,zm,zk,zq,if_pos])<;>rfl) ?_))|(guard_target =~ rg _ _ _ (⟨_,.pick _ _ _,_,_,_,none⟩ :: _) _ _ _;first|(refine vV rfl (by (try simp (disch:=omega) only [go_sem,seval,↓reduceIte,zC,zD,zm,zk,zq,if_pos])<;>rfl) ?_))|(guard_target =~ rg _ _ _ (⟨_,.binOp _ _ _ _ _,_,_,_,some _⟩ :: _) _ _ _;first|(refine zI rfl (by simp only [go_sem,seval,↓reduceIte,zC,zD,zm,zk,zq,if_pos]<;>rfl) (by first|(simp only [go_sem,seval,↓reduceIte,zC,zD,zm,zk,zq,if_pos];done)|(simp only [go_sem,seval,↓reduceIte,zC,zD,zm,zk,zq,if_pos];rfl)|rfl) (by (try simp (disch:=omega) only [go_sem,seval,↓reduceIte,zC,zD,zm,zk,zq,if_pos])<;>rfl) ?_))|(guard_target =~ rg _ _ _ [] _ _ _;first|(refine zS ?_))|(refine ka rfl ?_)|(refine zdL rfl ?_))|(guard_target =~ SOp _ _ _ _ _ _;first|(guard_target =~ SOp _ _ ⟨_,.store _ _ _,_,_,_,none⟩ _ _ _;first|(refine z6 rfl (by (try simp (disch:=omega) only [go_sem,seval,↓reduceIte,zC,zD,zm,zk,zq,if_pos])<;>rfl) (by (try simp (disch:=omega) only [go_sem,seval,↓reduceIte,zC,zD,zm,zk,zq,if_pos])<;>rfl) (by first|(simp (disch:=omega) only [go_sem,seval,↓reduceIte,zC,zD,zm,zk,zq,if_pos];done)|rfl) (by (try simp (disch:=omega) only [go_sem,seval,↓reduceIte,zC,zD,zm,zk,zq,if_pos])<;>rfl) (by (try simp (disch:=omega) only [go_sem,seval,↓reduceIte,zC,zD,zm,zk,zq,if_pos])<;>rfl) (by first|(simp (disch:=omega) only [go_sem,seval,↓reduceIte,zC,zD,zm,zk,zq,if_pos];done)|rfl) (by first|(simp (disch:=omega) only [go_sem,seval,↓reduceIte,zC,zD,zm,zk,zq,if_pos];done)|rfl) (by first|(simp (disch:=omega) only [go_sem,seval,↓reduceIte,zC,zD,zm,zk,zq,if_pos];done)|rfl) (by (try simp (disch:=omega) only [go_sem,seval,↓reduceIte,zC,zD,zm,zk,zq,if_pos])<;>rfl) (by (try simp (disch:=omega) only [go_sem,seval,↓reduceIte,zC,zD,zm,zk,zq,if_pos])<;>rfl) ?_))|(guard_target =~ SOp _ _ ⟨_,.call ⟨.value (.func 245),_,_⟩,_,_,_,none⟩ _ _ _;first|(refine zd (f:=245) rfl Tryz.call245 (by (try simp (disch:=omega) only [go_sem,seval,↓reduceIte,zC,zD,zm,zk,zq,if_pos])<;>rfl) (AEq.pure' agT zhs (by first|(simp (disch:=omega) only [go_sem,seval,↓reduceIte,zC,zD,zm,zk,zq,if_pos];done)|rfl) (by (try simp (disch:=omega) only [go_sem,seval,↓reduceIte,zC,zD,zm,zk,zq,if_pos])<;>rfl) ?_)))|(guard_target =~ SOp _ _ ⟨_,.build _ _,_,_,_,none⟩ _ _ _;first|(refine zX rfl (by first|exact zb9|exact zmz|exact zmB|exact zmD|fail) (by (try simp (disch:=omega) only [go_sem,seval,↓reduceIte,zC,zD,zm,zk,zq,if_pos])<;>rfl) (by (try simp (disch:=omega) only [go_sem,seval,↓reduceIte,zC,zD,zm,zk,zq,if_pos])<;>rfl) (by (try simp (disch:=omega) only [go_sem,seval,↓reduceIte,zC,zD,zm,zk,zq,if_pos])<;>rfl) (by first|(simp (disch:=omega) only [go_sem,seval,↓reduceIte,zC,zD,zm,zk,zq,if_pos];done)|rfl) ?_))|(guard_target =~ SOp _ _ ⟨_,.alloc _,_,_,_,none⟩ _ _ _;first|(refine yM rfl (by first|exact zv3|exact zv4|exact zv9|exact zdd|exact zmy|exact zmA|exact zmC|fail) (by first|(simp (disch:=omega) only [go_sem,seval,↓reduceIte,zC,zD,zm,zk,zq,if_pos];done)|rfl) (by (try simp (disch:=omega) only [go_sem,seval,↓reduceIte,zC,zD,zm,zk,zq,if_pos])<;>rfl) (by (try simp (disch:=omega) only [go_sem,seval,↓reduceIte,zC,zD,zm,zk,zq,if_pos])<;>rfl) (by (try simp (disch:=omega) only [go_sem,seval,↓reduceIte,zC,zD,zm,zk,zq,if_pos])<;>rfl) ?_))|(guard_target =~ SOp _ _ ⟨_,.indexAddr _ _ _,_,_,_,none⟩ _ _ _;first|(refine zP rfl (by (try simp (disch:=omega) only [go_sem,seval,↓reduceIte,zC,zD,zm,zk,zq,if_pos])<;>rfl) (by first|(simp (disch:=omega) only [go_sem,seval,↓reduceIte,zC,zD,zm,zk,zq,if_pos];done)|rfl) (by (try simp (disch:=omega) only [go_sem,seval,↓reduceIte,zC,zD,zm,zk,zq,if_pos])<;>rfl) (by first|(simp (disch:=omega) only [go_sem,seval,↓reduceIte,zC,zD,zm,zk,zq,if_pos];done)|rfl) (by (try simp (disch:=omega) only [go_sem,seval,↓reduceIte,zC,zD,zm,zk,zq,if_pos])<;>rfl) lmT (by (try simp (disch:=omega) only [go_sem,seval,↓reduceIte,zC,zD,zm,zk,zq,if_pos])<;>rfl) lmT (by (try simp (disch:=omega) only [go_sem,seval,↓reduceIte,zC,zD,zm,zk,zq,if_pos])<;>rfl) (by simp (disch:=omega) only [zsl,go_sem,seval,↓reduceIte,zC,zD,zm,zk,zq,if_pos];rfl) ?_))|(guard_target =~ SOp _ _ ⟨_,.call ⟨.value (.func 246),_,_⟩,_,_,_,none⟩ _ _ _;first|(refine zd (f:=246) rfl Tryz.call246 (by (try simp (disch:=omega) only [go_sem,seval,↓reduceIte,zC,zD,zm,zk,zq,if_pos])<;>rfl) (AEq.pure' agT zj1 (by first|(simp (disch:=omega) only [go_sem,seval,↓reduceIte,zC,zD,zm,zk,zq,if_pos];done)|rfl) (by (try simp (disch:=omega) only [go_sem,seval,↓reduceIte,zC,zD,zm,zk,zq,if_pos])<;>rfl) ?_))))|(guard_target =~ (_ ∨ _) ∧ _;first|((refine yv [] exT (by rfl) (by rw [Tryz.results234];exact Lf.kp (by (try simp (disch:=omega) only [Lf.zG,go_sem,seval,↓reduceIte,zC,zD,zm,zk,zq,if_pos]);rfl) (by (try simp (disch:=omega) only [Lf.zG,go_sem,seval,↓reduceIte,zC,zD,zm,zk,zq,if_pos]);rfl)) (by (try simp (disch:=omega) only [go_sem,seval,↓reduceIte,zC,zD,zm,zk,zq,if_pos])<;>rfl) (by (try simp (disch:=omega) only [go_sem,seval,↓reduceIte,zC,zD,zm,zk,zq,if_pos])<;>rfl) (zA ?_ ?_) ?_)<;>(try (first|exact zi|exact stq (by with_reducible rfl)|exact stq (by rfl)|exact stq (by simp (disch:=omega) only [go_sem,seval,↓reduceIte,zC,zD,zm,zk,zq,if_pos])))))|(refine hK _ _ ?_;clear hK K))
 ·exact yc (by simp only [zhr];rw [zty i (by omega) hcd])
 ·exact yc (by simp only [zhr];rw [zqx i (by omega) hcd])
def vj (p : Int → Bool) : Nat → Int
 | 0=>0
 | k + 1=>if vj p k ≠ 0 then vj p k else if p ((k : Int) + 1) = true then (k : Int) + 1 else 0
def IsFirst (p : Int → Bool) (r lo hi : Int) : Prop:=(r = 0 ∧ ∀ i,lo ≤ i → i ≤ hi → p i = false) ∨ (lo ≤ r ∧ r ≤ hi ∧ p r = true ∧ ∀ i,lo ≤ i → i < r → p i = false)
theorem y9 (p : Int → Bool) : ∀ k : Nat, IsFirst p (vj p k) 1 k
 | 0=>.inl ⟨rfl,fun i h1 h2=>by omega⟩
 | k + 1=>by
  have ih:=y9 p k
  unfold vj
  rcases ih with ⟨h,hn⟩|⟨h1,h2,h3,h4⟩
  ·rw [if_neg (by simp [h])]
   by_cases hp : p ((k : Int) + 1) = true
   ·rw [if_pos hp]
    exact .inr ⟨by omega,by omega,hp,fun i h1 h2=>hn i h1 (by omega)⟩
   ·rw [if_neg hp]
    refine .inl ⟨rfl,fun i h1 h2=>?_⟩
    by_cases hi : i = (k : Int) + 1
    ·subst hi;simpa using hp
    ·exact hn i h1 (by omega)
  ·rw [if_pos (by omega)]
   exact .inr ⟨h1,by omega,h3,h4⟩
theorem IsFirst.uniq {p : Int → Bool} {r s hi : Int} (h : IsFirst p r 1 hi) (k : IsFirst p s 1 hi) : r = s:=by
 rcases h with ⟨h,hn⟩|⟨h1,h2,h3,h4⟩<;>rcases k with ⟨k,kn⟩|⟨k1,k2,k3,k4⟩
 ·omega
 ·rw [hn s k1 k2] at k3;cases k3
 ·rw [kn r h1 h2] at h3;cases h3
 ·rcases Int.lt_trichotomy r s with c | c | c
  ·rw [k4 r h1 c] at h3;cases h3
  ·exact c
  ·rw [h4 s k1 c] at k3;cases k3
theorem IsFirst.up {p : Int → Bool} {r : Int} (h : IsFirst p r 1 61) : r = vj p 61:=h.uniq (y9 p 61)
def zgk (n : ByteArray) (i : Int) : Bool:=decide ((kh i).1 = n)
def zbh (n v : ByteArray) (i : Int) : Bool:=decide ((kh i).1 = n ∧ (kh i).2 = v)
def zj2 (n v : ByteArray) : Bool:=decide (vj (zbh n v) 61 ≠ 0)
def zcP (n v : ByteArray) : Int:=if vj (zbh n v) 61 ≠ 0 then vj (zbh n v) 61 else vj (zgk n) 61
theorem zht {n v : ByteArray} {i : Int} (h1 : 1 ≤ i ∧ i ≤ 61) (h2 : ∀ k,1 ≤ k → k < i → zbh n v k = false) (h3 : zbh n v i = true) : zcP n v = i ∧ zj2 n v = true:=by
 have : IsFirst (zbh n v) i 1 61:=.inr ⟨h1.1,h1.2,h3,h2⟩
 have:=this.up
 simp only [zcP,zj2,← this]
 rw [if_pos (by omega)]
 exact ⟨rfl,by simp;omega⟩
theorem zj3 {n v : ByteArray} {r : Int} (h1 : ∀ k,1 ≤ k → k ≤ 61 → zbh n v k = false) (h2 : IsFirst (zgk n) r 1 61) : zcP n v = r ∧ zj2 n v = false:=by
 have h0 : IsFirst (zbh n v) 0 1 61:=.inl ⟨rfl,h1⟩
 have:=h0.up
 have h3:=h2.up
 simp only [zcP,zj2,← this]
 simp [h3]
theorem ze6 (n v : ByteArray) : 0 ≤ zcP n v ∧ zcP n v ≤ 61:=by
 unfold zcP
 have a:=y9 (zbh n v) 61
 have b:=y9 (zgk n) 61
 split
 ·rcases a with ⟨a,_⟩|⟨a,a',_⟩<;>omega
 ·rcases b with ⟨b,_⟩|⟨b,b',_⟩<;>omega
theorem IsFirst.not {p : Int → Bool} {r k : Int} (h : IsFirst p r 1 k) (hp : p (k + 1) = false) : IsFirst p r 1 (k + 1):=by
 rcases h with ⟨h,hn⟩|⟨h1,h2,h3,h4⟩
 ·refine .inl ⟨h, fun i a b => ?_⟩
  by_cases hi : i = k + 1
  ·rw [hi];exact hp
  ·exact hn i a (by omega)
 ·exact .inr ⟨h1,by omega,h3,h4⟩
theorem IsFirst.old {p : Int → Bool} {r k : Int} (h : IsFirst p r 1 k) (hr : ¬ r = 0) : IsFirst p r 1 (k + 1):=by
 rcases h with ⟨h,hn⟩|⟨h1,h2,h3,h4⟩
 ·exact absurd h hr
 ·exact .inr ⟨h1,by omega,h3,h4⟩
theorem IsFirst.new {p : Int → Bool} {r k : Int} (h : IsFirst p r 1 k) (hk : 0 ≤ k) (hr : r = 0) (hp : p (k + 1) = true) : IsFirst p (k + 1) 1 (k + 1):=by
 rcases h with ⟨h,hn⟩|⟨h1,h2,h3,h4⟩
 ·exact .inr ⟨by omega,by omega,hp,fun i a b=>hn i a (by omega)⟩
 ·omega
theorem zed (p : Int → Bool) : IsFirst p 0 1 0:=.inl ⟨rfl,fun i a b=>by omega⟩
set_option maxRecDepth 20000 in
set_option maxHeartbeats 4000000 in
theorem zee (n v : ByteArray) : AEq Tryz.prog 225 [.lit (.string n),.lit (.string v)] [] (.tu [i64 (zcP n v),bl (zj2 n v)]) []:=by
 refine zc Tryz.func225 rfl Tryz.ntmps225 (by simp) (fun hsc=>?_);simp only [Lf.enter,Nat.reduceAdd];clear hsc
 have hU:=True.intro
 repeat' (first|(refine goR ?_)|(refine za (fun K hK=>?_))|(refine hK _ _ ?_;clear hK K))
 refine zU [4,5,6,7,8,9,10,11,12,13,14,15,16,17,18,19,20,21,22,23,24,25,26,27,28,29,30] [] (fun s : Int × Int=>[(7,i64 (s.1 + 1)),(6,i64 s.2)]) (fun _=>[]) (fun s=>0 ≤ s.1 ∧ s.1 ≤ 61 ∧ (∀ k,1 ≤ k → k ≤ s.1 → zbh n v k = false) ∧ IsFirst (zgk n) s.2 1 s.1) (fun s=>(61 - s.1).toNat) (0,0) (fun _=>rfl) rfl rfl ⟨by decide,by decide,fun k _ _=>by omega,zed _⟩ ?_ rfl (by intro s i x h;simp only [List.mem_cons,Prod.mk.injEq,List.not_mem_nil,or_false] at h;rcases h with ⟨rfl,_⟩|⟨rfl,_⟩<;>decide) ?_
 ·(refine ⟨⟨_,sT,?_⟩,⟨_,sT,?_⟩,trivial⟩<;>(try (first|exact zi)))
 ·rintro ⟨c, r⟩ ⟨h0, h1, hf, hr⟩
  dsimp only at h0 h1 hf hr
  simp only [vf,List.map_cons,List.map_nil,List.cons_append,List.nil_append]
  have ext : zbh n v (c + 1) = false → ∀ k,1 ≤ k → k ≤ c + 1 → zbh n v k = false:=by
   intro h k h1 h2
   by_cases hk : k = c + 1
   ·rw [hk];exact h
   ·exact hf k h1 (by omega)
  by_cases hlt : c < 61
  ·repeat' (first | (refine goR ?_) | (refine za (fun K hK => ?_)) | ((refine zb (fun hcd => ?_) (fun hcd => ?_)) <;> (try simp only [hcP] at hcd) <;> (try exact cdT)) | (refine zd (f := 234) rfl Tryz.call234 (h := AEq.pure' (hc := zbD _ (by omega)) (hq := ?_))) | ((refine zh [] (by rw [Tryz.results225, Lf.yE]) (zA ?_ ?_) ?_) <;> (try (first | exact zi | exact stT))) | (refine hK _ _ ?_; clear hK K) | (apply_assumption (exfalso := false) (symm := false)))
   ·refine ⟨(c + 1, r), ⟨by omega, by omega, ext (by simp [zbh, hcd]), hr.not (by simp [zgk, hcd])⟩, by dsimp only; omega, ?_, arT, srT⟩
    (refine ⟨⟨_,sT,?_⟩,⟨_,sT,?_⟩,trivial⟩<;>(try (first|exact zi)))
   ·rename_i ha _
    exact yc (by rw [(zht (i:=c + 1) ⟨by omega,by omega⟩ (fun k h1 h2=>hf k h1 (by omega)) (by simp [zbh, *])).1])
   ·exact yc (by rw [(zht (i:=c + 1) ⟨by omega,by omega⟩ (fun k h1 h2=>hf k h1 (by omega)) (by simp [zbh, *])).2])
   ·refine ⟨(c + 1, c + 1), ⟨by omega, by omega, ext (by simp [zbh, *]), hr.new h0 hcd (by simp [zgk, *])⟩, by dsimp only; omega, ?_, arT, srT⟩
    (refine ⟨⟨_,sT,?_⟩,⟨_,sT,?_⟩,trivial⟩<;>(try (first|exact zi)))
   ·refine ⟨(c + 1, r), ⟨by omega, by omega, ext (by simp [zbh, *]), hr.old hcd⟩, by dsimp only; omega, ?_, arT, srT⟩
    (refine ⟨⟨_,sT,?_⟩,⟨_,sT,?_⟩,trivial⟩<;>(try (first|exact zi)))
  ·obtain rfl : c = 61 := by omega
   have hm:=zj3 hf hr
   repeat' (first|(refine goR ?_)|(refine za (fun K hK=>?_))|((refine zb (fun hcd=>?_) (fun hcd=>?_))<;>(try simp only [hcP] at hcd)<;>(try exact cdT))|((refine zh [] (by rw [Tryz.results225,Lf.yE]) (zA ?_ ?_) ?_)<;>(try (first|exact zi|exact stT)))|(refine hK _ _ ?_;clear hK K)|(apply_assumption (exfalso:=false) (symm:=false)))
   ·exact yc (by rw [hm.1])
   ·exact yc (by rw [hm.2])
end Go.Proofs.YtdalcgfnlbofdaaGreatDoor
