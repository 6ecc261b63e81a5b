import Derived.Test.YtdalcgfnlbofdaaGreatDoorTg
import Derived.Test.YtdalcgfnlbofdaaGreatDoorZ16
import Derived.Test.YtdalcgfnlbofdaaGreatDoorLb
set_option linter.unusedVariables false
set_option linter.unusedSimpArgs false
namespace Go.Proofs.YtdalcgfnlbofdaaGreatDoor
open Go Go.Lf Go.Proofs
attribute [local irreducible] Lf.rg Lf.ro Lf.PWp Lf.SOp Lf.ACall Lf.Scoped Lf.dg
set_option maxRecDepth 20000
set_option maxHeartbeats 4000000
/-! Numbers and bytes: there and back. -/
theorem kr (k : Nat) : zX (k + 1) = 256 * zX k:=rfl
theorem jB (x : UInt8) (l : List UInt8) : yO (x :: l) = (x.toNat : Int) * zX l.length + yO l:=by
 have key : ∀ (l : List UInt8) (n : Int),l.foldl (fun n x=>n * 256 + (x.toNat : Int)) n = n * zX l.length + yO l:=by
  intro l
  induction l with
  | nil=>intro n;simp [yO,zX]
  | cons y l ih=>
   intro n
   have h1:=ih (n * 256 + (y.toNat : Int))
   have h2:=ih (0 * 256 + (y.toNat : Int))
   simp only [List.foldl_cons,List.length_cons,yO] at h1 h2 ⊢
   rw [h1,h2,kr,Int.add_mul,Int.mul_assoc n 256,Int.zero_mul,Int.zero_add,Int.add_assoc]
 have:=key l (0 * 256 + (x.toNat : Int))
 simpa [yO] using this
theorem zaz (k : Nat) : 0 < zX k:=by
 induction k with
 | zero=>decide
 | succ k ih=>rw [kr];omega
theorem zfu (n : Int) (h0 : 0 ≤ n) : ∀ k, yO (beB n k) = n % zX k
 | 0=>by simp [beB,yO,zX]
 | k + 1=>by
  show yO (byteAt n k :: beB n k) = _
  rw [jB,zM,zfu n h0 k,yS,kr]
  have hp:=zaz k
  have h1:=Int.emod_add_mul_ediv n (zX k)
  have h2:=Int.emod_add_mul_ediv (n / zX k) 256
  have h3:=Int.emod_nonneg n (show zX k ≠ 0 by omega)
  have h4:=Int.emod_lt_of_pos n hp
  have h5:=Int.emod_nonneg (n / zX k) (show (256 : Int) ≠ 0 by omega)
  have h6:=Int.emod_lt_of_pos (n / zX k) (show (0 : Int) < 256 by omega)
  have h7 : n / zX k % 256 * zX k ≤ 255 * zX k:=Int.mul_le_mul_of_nonneg_right (by omega) (by omega)
  have h8 : 0 ≤ n / zX k % 256 * zX k:=Int.mul_nonneg h5 (by omega)
  have e : n = (n / zX k % 256 * zX k + n % zX k) + (256 * zX k) * (n / zX k / 256):=by
   have h9 : zX k * (n / zX k) = n / zX k % 256 * zX k + (256 * zX k) * (n / zX k / 256):=by
    have:=congrArg (fun z=>zX k * z) h2
    simp only [Int.mul_add] at this
    rw [← this,Int.mul_comm (zX k) (n / zX k % 256),← Int.mul_assoc (zX k) 256,Int.mul_comm (zX k) 256]
   omega
  have e2 : n % (256 * zX k) = (n / zX k % 256 * zX k + n % zX k) % (256 * zX k):=by
   have:=congrArg (fun z=>z % (256 * zX k)) e
   rw [this,Int.add_mul_emod_self_left]
  rw [e2]
  exact (Int.emod_eq_of_lt (by omega) (by omega)).symm
theorem zcD (l : List UInt8) : 0 ≤ yO l ∧ yO l < zX l.length:=by
 induction l with
 | nil=>decide
 | cons x l ih=>
  rw [jB,List.length_cons,kr]
  have hx : (x.toNat : Int) ≤ 255:=by have:=x.toNat_lt;omega
  have hp:=zaz l.length
  have h1 : (x.toNat : Int) * zX l.length ≤ 255 * zX l.length:=Int.mul_le_mul_of_nonneg_right hx (by omega)
  have h2 : 0 ≤ (x.toNat : Int) * zX l.length:=Int.mul_nonneg (by omega) (by omega)
  omega
theorem zfv : ∀ l : List UInt8, beB (yO l) l.length = l
 | []=>rfl
 | x :: l=>by
  have hb:=zcD l
  have hp:=zaz l.length
  have hx:=x.toNat_lt
  show byteAt (yO (x :: l)) l.length :: beB (yO (x :: l)) l.length = x :: l
  have e1 : byteAt (yO (x :: l)) l.length = x:=by
   apply UInt8.toNat_inj.1
   have h1:=yS (yO (x :: l)) l.length
   have hq : yO (x :: l) / zX l.length % 256 = (x.toNat : Int):=by
    rw [jB,Int.add_comm,Int.mul_comm,Int.add_mul_ediv_left _ _ (by omega),Int.ediv_eq_zero_of_lt hb.1 hb.2,Int.zero_add,Int.emod_eq_of_lt (by omega) (by omega)]
   omega
  have e2 : ∀ k,k ≤ l.length → beB (yO (x :: l)) k = beB (yO l) k:=by
   intro k
   induction k with
   | zero=>intro _;rfl
   | succ k ih=>
    intro hk
    show byteAt _ k :: _ = byteAt _ k :: _
    rw [ih (by omega)]
    congr 1
    apply UInt8.toNat_inj.1
    have h1:=yS (yO (x :: l)) k
    have h2:=yS (yO l) k
    have hk' : ∃ c,zX l.length = zX k * (256 * c):=by
     have : ∀ d,∃ c,zX (k + 1 + d) = zX k * (256 * c):=by
      intro d
      induction d with
      | zero=>exact ⟨1,by show 256 * zX k = _;rw [Int.mul_one,Int.mul_comm]⟩
      | succ d ihd=>
       obtain ⟨c,hc⟩:=ihd
       exact ⟨256 * c,by rw [show k + 1 + (d + 1) = (k + 1 + d) + 1 from rfl,kr,hc,Int.mul_left_comm,Int.mul_left_comm 256 256 c,Int.mul_left_comm]⟩
     have:=this (l.length - (k + 1))
     rwa [show k + 1 + (l.length - (k + 1)) = l.length by omega] at this
    obtain ⟨c,hc⟩:=hk'
    have hpk:=zaz k
    have hq : yO (x :: l) / zX k % 256 = yO l / zX k % 256:=by
     rw [jB,hc,Int.add_comm,Int.mul_left_comm (x.toNat : Int) (zX k),Int.add_mul_ediv_left _ _ (by omega),Int.mul_left_comm (x.toNat : Int) 256 c,Int.add_mul_emod_self_left]
    omega
  rw [e1,e2 _ (Nat.le_refl _),zfv l]
theorem zoq (b : List UInt8) (size : Int) (h : j9 b size = 0) : 1 ≤ size ∧ size ≤ 4 ∧ size ≤ b.length ∧ yl (zJ b size) size = 0 ∧ zay [] (zJ b size) size = b.take size.toNat:=by
 cases ho : okS size with
 | false=>rw [j9,if_pos ho] at h;omega
 | true=>
  have ho':=ho
  simp only [okS,Bool.and_eq_true,decide_eq_true_eq] at ho'
  rw [j9,if_neg (by rw [ho];simp)] at h
  have hle : size ≤ b.length:=by split at h<;>omega
  have e : zJ b size = yO (b.take size.toNat):=if_pos ⟨ho,hle⟩
  have hlen : (b.take size.toNat).length = size.toNat:=by rw [List.length_take];omega
  have hbd:=zcD (b.take size.toNat)
  have hbb:=zfv (b.take size.toNat)
  rw [hlen] at hbd hbb
  have htl:=jU size ho'.1 ho'.2
  rw [e]
  have hp : yl (yO (b.take size.toNat)) size = 0:=by
   rw [yl,if_neg (by rw [ho];simp),if_neg (by omega)]
  exact ⟨ho'.1,ho'.2,hle,hp,by simp [zay,hp,hbb]⟩
theorem zor (l : List UInt8) : ∀ (k i : Nat) (r : List UInt8),i + k = l.length → ByteArray.toList.loop ⟨l.toArray⟩ i r = r.reverse ++ l.drop i:=by
 intro k
 induction k with
 | zero=>
  intro i r h
  unfold ByteArray.toList.loop
  have hs : (ByteArray.mk l.toArray).size = l.length:=rfl
  rw [if_neg (by rw [hs];omega),List.drop_of_length_le (by omega),List.append_nil]
 | succ k ih=>
  intro i r h
  unfold ByteArray.toList.loop
  have hs : (ByteArray.mk l.toArray).size = l.length:=rfl
  rw [if_pos (by rw [hs];omega),ih (i + 1) _ (by omega)]
  have hg : (ByteArray.mk l.toArray).get! i = l[i]'(by omega):=by
   show (l.toArray)[i]! = _
   simp [show i < l.length by omega]
  rw [hg,List.reverse_cons,List.append_assoc]
  congr 1
  rw [List.drop_eq_getElem_cons (i:=i) (by omega)]
  rfl
theorem zdp (l : List UInt8) : ByteArray.toList ⟨l.toArray⟩ = l:=by
 unfold ByteArray.toList
 rw [zor l l.length 0 [] (by omega)]
 simp
theorem zrQ (a b : List UInt8) : (ByteArray.toList ⟨a.toArray⟩ == ByteArray.toList ⟨b.toArray⟩) = decide (a = b):=by
 rw [zdp,zdp]
 by_cases h : a = b<;>simp [h]
theorem zme (z : BitVec 64) (hz : z.toNat < 2147483648) : z &&& ~~~(2147483648#64) = z ∧ (2147483648#64 ||| z) &&& ~~~(2147483648#64) = z ∧ z &&& 2147483648#64 = 0#64 ∧ (2147483648#64 ||| z) &&& 2147483648#64 = 2147483648#64:=by
 have hy : (2147483648#64) = BitVec.twoPow 64 31:=by decide
 have hb : z.getLsbD 31 = false:=by
  show z.toNat.testBit 31 = false
  exact Nat.testBit_lt_two_pow hz
 have hb' : z[31] = false:=by simpa using hb
 rw [hy]
 refine ⟨?_,?_,?_,?_⟩<;>apply BitVec.eq_of_getLsbD_eq<;>intro i hi<;>simp only [BitVec.getLsbD_and,BitVec.getLsbD_or,BitVec.getLsbD_not,BitVec.getLsbD_twoPow,BitVec.getLsbD_zero,hi,decide_true,Bool.true_and]<;>by_cases h : 31 = i<;>first|(subst h;simp [hb'];done)|(simp [h];done)
theorem zcE (m : Nat) (h : m < 2147483648) : (2147483648#64 ||| BitVec.ofNat 64 m) = BitVec.ofNat 64 (2147483648 + m):=by
 apply BitVec.eq_of_toNat_eq
 rw [BitVec.toNat_or,BitVec.toNat_ofNat,BitVec.toNat_ofNat,BitVec.toNat_ofNat,Nat.mod_eq_of_lt (by omega),Nat.mod_eq_of_lt (by omega),Nat.mod_eq_of_lt (by omega)]
 have:=Nat.two_pow_add_eq_or_of_lt (i:=31) (b:=m) (by omega) 1
 exact this.symm
theorem ks (n : Nat) : BitVec.ofInt 64 (n : Int) = BitVec.ofNat 64 n:=rfl
theorem zmf (n : Int) (h0 : 0 ≤ n) (h1 : n < 2147483648) : zaP .i64 n 2147483648 = n ∧ zbh .i64 n 2147483648 = 0 ∧ ior .i64 n 2147483648 = n + 2147483648:=by
 obtain ⟨m,rfl⟩:=Int.eq_ofNat_of_zero_le h0
 have hm : m < 2147483648:=by omega
 have hz : (BitVec.ofNat 64 m).toNat < 2147483648:=by rw [BitVec.toNat_ofNat,Nat.mod_eq_of_lt (by omega)];exact hm
 obtain ⟨b1,b2,b3,b4⟩:=zme _ hz
 refine ⟨?_,?_,?_⟩
 ·show IntKind.i64.wrap ((BitVec.ofInt 64 (m : Int) &&& ~~~(BitVec.ofInt 64 2147483648)).toNat : Int) = _
  rw [ks,show BitVec.ofInt 64 2147483648 = 2147483648#64 from rfl,b1,BitVec.toNat_ofNat,Nat.mod_eq_of_lt (by omega)]
  exact w64 (by omega)
 ·show IntKind.i64.wrap ((BitVec.ofInt 64 (m : Int) &&& (BitVec.ofInt 64 2147483648)).toNat : Int) = _
  rw [ks,show BitVec.ofInt 64 2147483648 = 2147483648#64 from rfl,b3]
  rfl
 ·show IntKind.i64.wrap ((BitVec.ofInt 64 (m : Int) ||| (BitVec.ofInt 64 2147483648)).toNat : Int) = _
  rw [ks,show BitVec.ofInt 64 2147483648 = 2147483648#64 from rfl,BitVec.or_comm,zcE m hm,BitVec.toNat_ofNat,Nat.mod_eq_of_lt (by omega)]
  rw [w64 (by omega)]
  omega
theorem zrR (n : Int) (h0 : 2147483648 ≤ n) (h1 : n < 4294967296) : zaP .i64 n 2147483648 = n - 2147483648 ∧ zbh .i64 n 2147483648 = 2147483648:=by
 obtain ⟨m,rfl⟩ : ∃ m : Nat,n = ((2147483648 + m : Nat) : Int):=⟨(n - 2147483648).toNat,by omega⟩
 have hm : m < 2147483648:=by omega
 have hz : (BitVec.ofNat 64 m).toNat < 2147483648:=by rw [BitVec.toNat_ofNat,Nat.mod_eq_of_lt (by omega)];exact hm
 obtain ⟨b1,b2,b3,b4⟩:=zme _ hz
 refine ⟨?_,?_⟩
 ·show IntKind.i64.wrap ((BitVec.ofInt 64 ((2147483648 + m : Nat) : Int) &&& ~~~(BitVec.ofInt 64 2147483648)).toNat : Int) = _
  rw [ks,show BitVec.ofInt 64 2147483648 = 2147483648#64 from rfl,← zcE m hm,b2,BitVec.toNat_ofNat,Nat.mod_eq_of_lt (by omega)]
  rw [w64 (by omega)]
  omega
 ·show IntKind.i64.wrap ((BitVec.ofInt 64 ((2147483648 + m : Nat) : Int) &&& (BitVec.ofInt 64 2147483648)).toNat : Int) = _
  rw [ks,show BitVec.ofInt 64 2147483648 = 2147483648#64 from rfl,← zcE m hm,b4]
  rfl
theorem zio (n : Int) (h0 : 0 ≤ n) (h1 : n < 2147483648) : AEq Tryz.prog 185 [i64 n] [] (.tu [i64 n,bl false]) []:=by
 obtain ⟨e1,e2,_⟩:=zmf n h0 h1
 refine zc Tryz.func185 rfl Tryz.ntmps185 (by simp) (fun hsc=>?_);simp only [Lf.enter,Nat.reduceAdd];clear hsc
 have hU:=And.intro @e1 (@e2)
 repeat' (first|(refine goR ?_)|(refine za (fun K hK=>?_))|((refine zb (fun hcd=>?_) (fun hcd=>?_))<;>(try simp only [hcP] at hcd)<;>(try exact cdT))|((refine ze [] (by rw [Tryz.results185,Lf.yb]) (zu ?_ ?_) ?_)<;>(try (first|exact zh|exact stT)))|(refine hK _ _ ?_;clear hK K))
theorem zip (n : Int) (h0 : 2147483648 ≤ n) (h1 : n < 4294967296) : AEq Tryz.prog 185 [i64 n] [] (.tu [i64 (n - 2147483648),bl true]) []:=by
 obtain ⟨e1,e2⟩:=zrR n h0 h1
 refine zc Tryz.func185 rfl Tryz.ntmps185 (by simp) (fun hsc=>?_);simp only [Lf.enter,Nat.reduceAdd];clear hsc
 have hU:=And.intro @e1 (@e2)
 repeat' (first|(refine goR ?_)|(refine za (fun K hK=>?_))|((refine zb (fun hcd=>?_) (fun hcd=>?_))<;>(try simp only [hcP] at hcd)<;>(try exact cdT))|((refine ze [] (by rw [Tryz.results185,Lf.yb]) (zu ?_ ?_) ?_)<;>(try (first|exact zh|exact stT)))|(refine hK _ _ ?_;clear hK K))
theorem zos (n : Int) (h0 : 0 ≤ n) (h1 : n < 2147483648) : AEq Tryz.prog 160 [i64 n] [] (.tu [i64 n,bl false]) []:=by
 refine zc Tryz.func160 rfl Tryz.ntmps160 (by simp) (fun hsc=>?_);simp only [Lf.enter,Nat.reduceAdd];clear hsc
 have hU:=True.intro
 repeat' (first|(refine goR ?_)|(refine za (fun K hK=>?_))|((refine zb (fun hcd=>?_) (fun hcd=>?_))<;>(try simp only [hcP] at hcd)<;>(try exact cdT))|((refine ze [] (by rw [Tryz.results160,Lf.yb]) (zu ?_ ?_) ?_)<;>(try (first|exact zh|exact stT)))|(refine hK _ _ ?_;clear hK K))
theorem zot (n : Int) (h0 : 2147483648 ≤ n) (h1 : n < 4294967296) : AEq Tryz.prog 160 [i64 n] [] (.tu [i64 (n - 2147483648),bl true]) []:=by
 refine zc Tryz.func160 rfl Tryz.ntmps160 (by simp) (fun hsc=>?_);simp only [Lf.enter,Nat.reduceAdd];clear hsc
 have hU:=True.intro
 repeat' (first|(refine goR ?_)|(refine za (fun K hK=>?_))|((refine zb (fun hcd=>?_) (fun hcd=>?_))<;>(try simp only [hcP] at hcd)<;>(try exact cdT))|((refine ze [] (by rw [Tryz.results160,Lf.yb]) (zu ?_ ?_) ?_)<;>(try (first|exact zh|exact stT)))|(refine hK _ _ ?_;clear hK K))
theorem zou (n : Int) (t : Bool) (h : n < 0 ∨ 2147483648 ≤ n) : AEq Tryz.prog 205 [i64 n,bl t] [] (.tu [i64 0,i64 5]) []:=by
 refine zc Tryz.func205 rfl Tryz.ntmps205 (by simp) (fun hsc=>?_);simp only [Lf.enter,Nat.reduceAdd];clear hsc
 have hU:=True.intro
 repeat' (first|(refine goR ?_)|(refine za (fun K hK=>?_))|((refine zb (fun hcd=>?_) (fun hcd=>?_))<;>(try simp only [hcP] at hcd)<;>(try exact cdT))|((refine ze [] (by rw [Tryz.results205,Lf.yb]) (zu ?_ ?_) ?_)<;>(try (first|exact zh|exact stT)))|(refine hK _ _ ?_;clear hK K))
theorem zkT (n : Int) (h0 : 0 ≤ n) (h1 : n < 2147483648) : AEq Tryz.prog 205 [i64 n,bl true] [] (.tu [i64 (n + 2147483648),i64 0]) []:=by
 obtain ⟨_,_,e3⟩:=zmf n h0 h1
 refine zc Tryz.func205 rfl Tryz.ntmps205 (by simp) (fun hsc=>?_);simp only [Lf.enter,Nat.reduceAdd];clear hsc
 have hU:=@e3
 repeat' (first|(refine goR ?_)|(refine za (fun K hK=>?_))|((refine zb (fun hcd=>?_) (fun hcd=>?_))<;>(try simp only [hcP] at hcd)<;>(try exact cdT))|((refine ze [] (by rw [Tryz.results205,Lf.yb]) (zu ?_ ?_) ?_)<;>(try (first|exact zh|exact stT)))|(refine hK _ _ ?_;clear hK K))
theorem zkU (n : Int) (h0 : 0 ≤ n) (h1 : n < 2147483648) : AEq Tryz.prog 205 [i64 n,bl false] [] (.tu [i64 n,i64 0]) []:=by
 refine zc Tryz.func205 rfl Tryz.ntmps205 (by simp) (fun hsc=>?_);simp only [Lf.enter,Nat.reduceAdd];clear hsc
 have hU:=True.intro
 repeat' (first|(refine goR ?_)|(refine za (fun K hK=>?_))|((refine zb (fun hcd=>?_) (fun hcd=>?_))<;>(try simp only [hcP] at hcd)<;>(try exact cdT))|((refine ze [] (by rw [Tryz.results205,Lf.yb]) (zu ?_ ?_) ?_)<;>(try (first|exact zh|exact stT)))|(refine hK _ _ ?_;clear hK K))
theorem zfw (f g q r : Bool) (a b : List UInt8) : AEq Tryz.prog 122 [.sl f q (a.map zf),.sl g r (b.map zf)] [] (bl (decide (a = b))) []:=by
 refine zc Tryz.func122 rfl Tryz.ntmps122 (by simp) (fun hsc=>?_);simp only [Lf.enter,Nat.reduceAdd];clear hsc
 have hU:=@zrQ
 repeat' (first|(refine goR ?_)|(refine za (fun K hK=>?_))|(guard_target =~ SOp _ _ ⟨_,.convert _ _ _,_,_,_,none⟩ _ _ _;refine zjO rfl (hK:=?_))|((refine ze [] (by rw [Tryz.results122,Lf.zt]) (zj ?_) ?_)<;>(try (first|exact zh|exact stT)))|(refine hK _ _ ?_;clear hK K))
end Go.Proofs.YtdalcgfnlbofdaaGreatDoor
namespace Go.Proofs.YtdalcgfnlbofdaaGreatDoor
open Go Go.Lf Go.Proofs
attribute [local irreducible] Lf.rg Lf.ro Lf.PWp Lf.SOp Lf.ACall Lf.Scoped Lf.dg
set_option maxRecDepth 20000
set_option maxHeartbeats 4000000
theorem zep (f q : Bool) (l : List UInt8) (h : l.length ≤ 100000000000000) : AEq Tryz.prog 95 [.sl f q (l.map zf)] [] (.ptr 0 0) [.box [.sl false false (l.map zf),i64 0]]:=by
 refine zc Tryz.func95 rfl Tryz.ntmps95 (by simp) (fun hsc=>?_);simp only [Lf.enter,Nat.reduceAdd];clear hsc
 have hU:=True.intro
 repeat' (first|(refine goR ?_)|(refine za (fun K hK=>?_))|(refine zd (f:=143) rfl Tryz.call143 (h:=AEq.pure' (hc:=zdX _ _ _ (by assumption)) (hq:=?_)))|((refine ze [0] (by rw [Tryz.results95,Lf.zt]) (zj ?_) ?_)<;>(try (first|exact zh|exact stT)))|(refine hK _ _ ?_;clear hK K))
theorem zcF (f : Bool) (b : List UInt8) (a : Int) (h0 : 0 ≤ a) (h1 : a ≤ b.length) : AEq Tryz.prog 147 [.ptr 0 0] [.box [.sl f false (b.map zf),i64 a]] (.sl false false ((b.drop a.toNat).map zf)) [.box [.sl f false (b.map zf),i64 a]]:=by
 refine zc Tryz.func147 rfl Tryz.ntmps147 (by simp) (fun hsc=>?_);simp only [Lf.enter,Nat.reduceAdd];clear hsc
 have hU:=True.intro
 repeat' (first|(refine goR ?_)|(refine za (fun K hK=>?_))|(guard_target =~ PWp _ _ _ _ _ _ _;refine zG mixed (by kernel_rfl) ?_)|((refine zb (fun hcd=>?_) (fun hcd=>?_))<;>(try simp only [hcP] at hcd)<;>(try exact cdT))|((refine ze [0] (by rw [Tryz.results147,Lf.zt]) (zj ?_) ?_)<;>(try (first|exact zh|exact stT)))|(guard_target =~ dg _ _ _ _ _ _ _;first|(guard_target =~ dg _ _ _ (⟨_,.slice _ _ _ _ _,_,_,_,none⟩ :: _) _ _ _;(refine yY (x:=_) (h:=zQ (h:=kj rfl (hg:=(fun _=>gT)) (hK:=zi ⟨rfl,rfl⟩))) (hk:=?_))))|(refine hK _ _ ?_;clear hK K))
theorem v9 (f : Bool) (b : List UInt8) (a : Int) (h0 : 0 ≤ a) (h1 : a ≤ b.length) : AEq Tryz.prog 98 [.ptr 0 0] [.box [.sl f false (b.map zf),i64 a]] (i64 (b.length - a)) [.box [.sl f false (b.map zf),i64 a]]:=by
 refine zc Tryz.func98 rfl Tryz.ntmps98 (by simp) (fun hsc=>?_);simp only [Lf.enter,Nat.reduceAdd];clear hsc
 have hU:=True.intro
 repeat' (first|(refine goR ?_)|(refine za (fun K hK=>?_))|(refine zd (f:=147) rfl Tryz.call147 (h:=AEq.sub' [_] (by first|((repeat' (first|exact trivial|(first|exact yf|exact zE id id|exact yx|exact zE (by simp) id|exact zE (by simp) (fun _=>rfl)|exact zS (by rfl) (by rfl) (fun _=>rfl)|exact yd (by rfl) (by rfl) (fun _=>rfl)|exact yZ (by rfl) (by rfl)|exact yc)|refine ⟨?_,?_⟩));done)|fail) (hc:=zcF _ _ _ (by assumption) (by assumption)) (hq:=?_)))|((refine ze [0] (by rw [Tryz.results98,Lf.zt]) (zj ?_) ?_)<;>(try (first|exact zh|exact stT)))|(refine hK _ _ ?_;clear hK K))
 all_goals exact zA (by rw [List.length_drop];congr 2;omega)
theorem zfx (f : Bool) (b : List UInt8) (a n : Int) (h0 : 0 ≤ a) (h1 : a ≤ 4000000000000000000) (h2 : 0 ≤ n) (h3 : n ≤ 4000000000000000000) : AEq Tryz.prog 148 [.ptr 0 0,i64 n] [.box [.sl f false (b.map zf),i64 a]] (.tu []) [.box [.sl f false (b.map zf),i64 (a + n)]]:=by
 refine zc Tryz.func148 rfl Tryz.ntmps148 (by simp) (fun hsc=>?_);simp only [Lf.enter,Nat.reduceAdd];clear hsc
 have hU:=True.intro
 repeat' (first|(refine goR ?_)|(refine za (fun K hK=>?_))|((refine zb (fun hcd=>?_) (fun hcd=>?_))<;>(try simp only [hcP] at hcd)<;>(try exact cdT))|((refine ze [0] (by rw [Tryz.results148,Lf.vJ]) z5 ?_)<;>(try (first|exact zh|exact stT)))|(refine hK _ _ ?_;clear hK K))
end Go.Proofs.YtdalcgfnlbofdaaGreatDoor
namespace Go.Proofs.YtdalcgfnlbofdaaGreatDoor
open Go Go.Lf Go.Proofs
attribute [local irreducible] Lf.rg Lf.ro Lf.PWp Lf.SOp Lf.ACall Lf.Scoped Lf.dg
set_option maxRecDepth 20000
set_option maxHeartbeats 4000000
def zkV (b : List UInt8) (a n : Int) : Int:=if j9 (b.drop a.toNat) n = 0 then a + n else a
def byE (b : List UInt8) (a n : Int) : Int:=if n < 0 then 1 else if (b.length : Int) - a < n then 3 else 0
def byL (b : List UInt8) (a n : Int) : List UInt8:=if byE b a n = 0 then (b.drop a.toNat).take n.toNat else []
def ztj (b : List UInt8) (a n : Int) : Int:=if byE b a n = 0 then a + n else a
theorem ziq {b : List UInt8} {n : Int} (h : j9 b n = 0) : 1 ≤ n ∧ n ≤ 4 ∧ n ≤ b.length:=⟨(zoq b n h).1,(zoq b n h).2.1,(zoq b n h).2.2.1⟩
theorem zba (f : Bool) (b : List UInt8) (a n : Int) (h0 : 0 ≤ a) (h1 : a ≤ b.length) (h2 : b.length ≤ 4000000000000000) : AEq Tryz.prog 144 [.ptr 0 0,i64 n] [.box [.sl f false (b.map zf),i64 a]] (.tu [i64 (zJ (b.drop a.toNat) n),i64 (j9 (b.drop a.toNat) n)]) [.box [.sl f false (b.map zf),i64 (zkV b a n)]]:=by
 have hz:=@ziq (b.drop a.toNat) n
 have hl : (b.drop a.toNat).length ≤ b.length:=by simp
 refine zc Tryz.func144 rfl Tryz.ntmps144 (by simp) (fun hsc=>?_);simp only [Lf.enter,Nat.reduceAdd];clear hsc
 have hU:=True.intro
 repeat' (first|(refine goR ?_)|(refine za (fun K hK=>?_))|((refine zb (fun hcd=>?_) (fun hcd=>?_))<;>(try simp only [hcP] at hcd)<;>(try exact cdT))|(refine zd (f:=148) rfl Tryz.call148 (h:=AEq.sub' [_] (by first|((repeat' (first|exact trivial|(first|exact yf|exact zE id id|exact yx|exact zE (by simp) id|exact zE (by simp) (fun _=>rfl)|exact zS (by rfl) (by rfl) (fun _=>rfl)|exact yd (by rfl) (by rfl) (fun _=>rfl)|exact yZ (by rfl) (by rfl)|exact yc)|refine ⟨?_,?_⟩));done)|fail) (hc:=zfx _ _ _ _ aoT aoT aoT aoT) (hq:=?_)))|(refine zd (f:=147) rfl Tryz.call147 (h:=AEq.sub' [_] (by first|((repeat' (first|exact trivial|(first|exact yf|exact zE id id|exact yx|exact zE (by simp) id|exact zE (by simp) (fun _=>rfl)|exact zS (by rfl) (by rfl) (fun _=>rfl)|exact yd (by rfl) (by rfl) (fun _=>rfl)|exact yZ (by rfl) (by rfl)|exact yc)|refine ⟨?_,?_⟩));done)|fail) (hc:=zcF _ _ _ aoT aoT) (hq:=?_)))|(refine zd (f:=184) rfl Tryz.call184 (h:=AEq.pure' (hc:=zrO _ _ _ _ aoT) (hq:=?_)))|((refine ze [0] (by rw [Tryz.results144,Lf.yb]) (zu ?_ ?_) ?_)<;>(try (first|exact zh|exact stT)))|(refine hK _ _ ?_;clear hK K))
 ·exact stq (by simp [zkV,hcd])
 ·exact stq (by simp [zkV,hcd])
theorem zmg (f : Bool) (b : List UInt8) (a n : Int) (h0 : 0 ≤ a) (h1 : a ≤ b.length) (h2 : b.length ≤ 4000000000000) : AEq Tryz.prog 100 [.ptr 0 0,i64 n] [.box [.sl f false (b.map zf),i64 a]] (.tu [.sl false false ((byL b a n).map zf),i64 (byE b a n)]) [.box [.sl f false (b.map zf),i64 (ztj b a n)]]:=by
 have hl : (b.drop a.toNat).length = b.length - a.toNat:=by simp
 refine zc Tryz.func100 rfl Tryz.ntmps100 (by simp) (fun hsc=>?_);simp only [Lf.enter,Nat.reduceAdd];clear hsc
 have hU:=True.intro
 repeat' (first|(refine goR ?_)|(refine za (fun K hK=>?_))|((refine zb (fun hcd=>?_) (fun hcd=>?_))<;>(try simp only [hcP] at hcd)<;>(try exact cdT))|(refine zd (f:=148) rfl Tryz.call148 (h:=AEq.sub' [_] (by first|((repeat' (first|exact trivial|(first|exact yf|exact zE id id|exact yx|exact zE (by simp) id|exact zE (by simp) (fun _=>rfl)|exact zS (by rfl) (by rfl) (fun _=>rfl)|exact yd (by rfl) (by rfl) (fun _=>rfl)|exact yZ (by rfl) (by rfl)|exact yc)|refine ⟨?_,?_⟩));done)|fail) (hc:=zfx _ _ _ _ lnT lnT lnT lnT) (hq:=?_)))|(refine zd (f:=147) rfl Tryz.call147 (h:=AEq.sub' [_] (by first|((repeat' (first|exact trivial|(first|exact yf|exact zE id id|exact yx|exact zE (by simp) id|exact zE (by simp) (fun _=>rfl)|exact zS (by rfl) (by rfl) (fun _=>rfl)|exact yd (by rfl) (by rfl) (fun _=>rfl)|exact yZ (by rfl) (by rfl)|exact yc)|refine ⟨?_,?_⟩));done)|fail) (hc:=zcF _ _ _ lnT lnT) (hq:=?_)))|(refine zd (f:=98) rfl Tryz.call98 (h:=AEq.sub' [_] (by first|((repeat' (first|exact trivial|(first|exact yf|exact zE id id|exact yx|exact zE (by simp) id|exact zE (by simp) (fun _=>rfl)|exact zS (by rfl) (by rfl) (fun _=>rfl)|exact yd (by rfl) (by rfl) (fun _=>rfl)|exact yZ (by rfl) (by rfl)|exact yc)|refine ⟨?_,?_⟩));done)|fail) (hc:=v9 _ _ _ lnT lnT) (hq:=?_)))|(refine zd (f:=143) rfl Tryz.call143 (h:=AEq.pure' (hc:=zdX _ _ _ lnT) (hq:=?_)))|(guard_target =~ SOp _ _ ⟨_,.slice _ _ _ _ _,_,_,_,none⟩ _ _ _;refine kj rfl (hg:=(fun _=>gT)) (hK:=?_))|((refine ze [0] (by rw [Tryz.results100,Lf.yb]) (zu ?_ ?_) ?_)<;>(try (first|exact zh|exact stT)))|(refine hK _ _ ?_;clear hK K))
 ·have hb : byE b a n = 1 := if_pos hcd
  rw [show byL b a n = [] by simp [byL,hb]];exact zaQ (by simp)
 ·have hb : byE b a n = 1 := if_pos hcd
  exact zA (by rw [hb])
 ·have hb : byE b a n = 1 := if_pos hcd
  exact stq (by simp [ztj,hb])
 ·have hb : byE b a n = 3 := by simp only [byE]; rw [if_neg (by omega), if_pos (by omega)]
  rw [show byL b a n = [] by simp [byL,hb]];exact zaQ (by simp)
 ·have hb : byE b a n = 3 := by simp only [byE]; rw [if_neg (by omega), if_pos (by omega)]
  exact zA (by rw [hb])
 ·have hb : byE b a n = 3 := by simp only [byE]; rw [if_neg (by omega), if_pos (by omega)]
  exact stq (by simp [ztj,hb])
 ·have hb : byE b a n = 0 := by simp only [byE]; rw [if_neg (by omega), if_neg (by omega)]
  exact zA (by simp [byL,hb])
 ·have hb : byE b a n = 0 := by simp only [byE]; rw [if_neg (by omega), if_neg (by omega)]
  exact zA (by rw [hb])
 ·have hb : byE b a n = 0 := by simp only [byE]; rw [if_neg (by omega), if_neg (by omega)]
  exact stq (by simp [ztj,hb])
end Go.Proofs.YtdalcgfnlbofdaaGreatDoor
namespace Go.Proofs.YtdalcgfnlbofdaaGreatDoor
open Go Go.Lf Go.Proofs
attribute [local irreducible] Lf.rg Lf.ro Lf.PWp Lf.SOp Lf.ACall Lf.Scoped Lf.dg
set_option maxRecDepth 20000
set_option maxHeartbeats 4000000
@[go_sem] def zV (s : Int × Int) : List AV:=[i64 s.1,i64 s.2]
@[go_sem] theorem zrS (l : List (Int × Int)) : yT (l.map zV).flatten = true:=z7 (fun _=>rfl) l
structure Vals where
 (a b c d e f : Int)
deriving DecidableEq
@[go_sem] def zAP (v : Vals) : List AV:=[i64 v.a,i64 v.b,i64 v.c,i64 v.d,i64 v.e,i64 v.f]
theorem jf {α : Type} {l : List α} {i : Nat} {x : α} (h : l[i]? = some x) : l.drop i = x :: l.drop (i + 1):=by
 obtain ⟨hi,rfl⟩:=List.getElem?_eq_some_iff.1 h
 exact List.drop_eq_getElem_cons hi
end Go.Proofs.YtdalcgfnlbofdaaGreatDoor
namespace Go.Proofs.YtdalcgfnlbofdaaGreatDoor
open Go Go.Lf Go.Proofs
attribute [local irreducible] Lf.rg Lf.ro Lf.PWp Lf.SOp Lf.ACall Lf.Scoped Lf.dg
set_option maxRecDepth 20000
set_option maxHeartbeats 4000000
theorem zir (f g q r : Bool) (a b : List (Int × Int)) (ha : a.length ≤ 4000000000000000000) : AEq Tryz.prog 124 [.sl f q (a.map zV),.sl g r (b.map zV)] [] (bl (decide (a = b))) []:=by
 refine zc Tryz.func124 rfl Tryz.ntmps124 (by simp) (fun hsc=>?_);simp only [Lf.enter,Nat.reduceAdd];clear hsc
 by_cases hl : a.length = b.length
 ·have hU := True.intro
  repeat' (first|(refine goR ?_)|(refine za (fun K hK=>?_))|((refine zb (fun hcd=>?_) (fun hcd=>?_))<;>(try simp only [hcP] at hcd)<;>(try exact cdT))|(refine hK _ _ ?_;clear hK K))
  refine zo [4,5,11,12,13,14,15,16,17,18,19,20,21,22,23,24,25] (fun i : Nat=>[(5,i64 i)]) (fun _=>[]) (fun i=>i ≤ a.length ∧ (a = b ↔ a.drop i = b.drop i)) (fun i=>a.length - i) 0 ⟨Nat.zero_le _,Iff.rfl⟩ ?_ rfl ?_
  ·(refine ⟨⟨_,sT,?_⟩,trivial⟩<;>(try (first|exact zh)))
  ·rintro i ⟨hi, hk⟩
   simp only [yn,List.map_cons,List.map_nil,List.cons_append,List.nil_append]
   by_cases hlt : i < a.length
   ·obtain ⟨s, hs⟩ : ∃ s, a[i]? = some s := ⟨a[i], List.getElem?_eq_getElem hlt⟩
    obtain ⟨t,ht⟩ : ∃ t,b[i]? = some t:=⟨b[i],List.getElem?_eq_getElem (by omega)⟩
    have hd : a = b ↔ s = t ∧ a.drop (i + 1) = b.drop (i + 1):=by rw [hk,jf hs,jf ht,List.cons.injEq]
    repeat' (first|(refine goR ?_)|(refine za (fun K hK=>?_))|(guard_target =~ PWp _ _ _ _ _ _ _;refine zG mixed (by kernel_rfl) ?_)|((refine zb (fun hcd=>?_) (fun hcd=>?_))<;>(try simp only [hcP] at hcd)<;>(try exact cdT))|((refine ze [] (by rw [Tryz.results124,Lf.zt]) (zj ?_) ?_)<;>(try (first|exact zh|exact stT)))|(refine hK _ _ ?_;clear hK K)|(guard_target =~ dg _ _ _ _ _ _ _;first|(guard_target =~ dg _ _ _ (⟨_,.binOp _ _ _ _ _,_,_,_,none⟩ :: _) _ _ _;(refine yY (x:=_) (h:=zQ (h:=zZ (ne:=true) rfl (by first|exact jR|fail) (hc:=rfl) (hK:=zi ⟨rfl,rfl⟩))) (hk:=?_)))|(guard_target =~ dg _ _ _ (⟨_,.indexAddr _ _ _,_,_,_,none⟩ :: _) _ _ _;(refine yY (x:=_) (h:=zQ (h:=yP rfl (hK:=zi ⟨rfl,rfl⟩))) (hk:=?_))))|(rw [if_pos rfl]))
    ·exact zq (by symm;rw [decide_eq_false_iff_not,hd];rintro ⟨rfl,_⟩;simp at hcd)
    ·have he : s = t := by obtain ⟨s1, s2⟩ := s; obtain ⟨t1, t2⟩ := t; simp only [Prod.mk.injEq]; simpa using hcd
     refine ⟨i + 1,⟨by omega,by rw [hd];exact ⟨And.right,fun h=>⟨he,h⟩⟩⟩,by omega,?_,arT,srT⟩
     (refine ⟨⟨_,sT,?_⟩,trivial⟩<;>(try (first|exact zh)))
   ·have h1 : a = b := by rw [hk, List.drop_eq_nil_of_le (by omega), List.drop_eq_nil_of_le (by omega)]
    repeat' (first|(refine goR ?_)|(refine za (fun K hK=>?_))|((refine zb (fun hcd=>?_) (fun hcd=>?_))<;>(try simp only [hcP] at hcd)<;>(try exact cdT))|((refine ze [] (by rw [Tryz.results124,Lf.zt]) (zj ?_) ?_)<;>(try (first|exact zh|exact stT)))|(refine hK _ _ ?_;clear hK K)|(apply_assumption (exfalso:=false) (symm:=false)))
    exact zq (by simp [h1])
 ·have hU := True.intro
  repeat' (first|(refine goR ?_)|(refine za (fun K hK=>?_))|((refine zb (fun hcd=>?_) (fun hcd=>?_))<;>(try simp only [hcP] at hcd)<;>(try exact cdT))|((refine ze [] (by rw [Tryz.results124,Lf.zt]) (zj ?_) ?_)<;>(try (first|exact zh|exact stT)))|(refine hK _ _ ?_;clear hK K))
  exact zq (by symm;rw [decide_eq_false_iff_not];intro h;exact hl (by rw [h]))
end Go.Proofs.YtdalcgfnlbofdaaGreatDoor
