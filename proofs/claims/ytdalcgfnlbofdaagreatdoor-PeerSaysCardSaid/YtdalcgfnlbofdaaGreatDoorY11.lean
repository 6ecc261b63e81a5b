import Derived.Test.YtdalcgfnlbofdaaGreatDoorPg
import Derived.Test.YtdalcgfnlbofdaaGreatDoorY10
import Derived.Test.YtdalcgfnlbofdaaGreatDoorPb
set_option linter.unusedVariables false
set_option linter.unusedSimpArgs false
namespace Go.Proofs.YtdalcgfnlbofdaaGreatDoor
open Go Go.Lf Go.Proofs
attribute [local irreducible] Lf.rg Lf.ro Lf.PWp Lf.SOp Lf.ACall Lf.Scoped Lf.dg
set_option maxRecDepth 20000
set_option maxHeartbeats 4000000
/-! Numbers and bytes: there and back. -/
theorem kB (k : Nat) : ye (k + 1) = 256 * ye k:=rfl
theorem jJ (x : UInt8) (l : List UInt8) : yZ (x :: l) = (x.toNat : Int) * ye l.length + yZ l:=by
 have key : ∀ (l : List UInt8) (n : Int),l.foldl (fun n x=>n * 256 + (x.toNat : Int)) n = n * ye l.length + yZ l:=by
  intro l
  induction l with
  | nil=>intro n;simp [yZ,ye]
  | cons y l ih=>
   intro n
   have h1:=ih (n * 256 + (y.toNat : Int))
   have h2:=ih (0 * 256 + (y.toNat : Int))
   simp only [List.foldl_cons,List.length_cons,yZ] at h1 h2 ⊢
   rw [h1,h2,kB,Int.add_mul,Int.mul_assoc n 256,Int.zero_mul,Int.zero_add,Int.add_assoc]
 have:=key l (0 * 256 + (x.toNat : Int))
 simpa [yZ] using this
theorem zax (k : Nat) : 0 < ye k:=by
 induction k with
 | zero=>decide
 | succ k ih=>rw [kB];omega
theorem zfk (n : Int) (h0 : 0 ≤ n) : ∀ k, yZ (beB n k) = n % ye k
 | 0=>by simp [beB,yZ,ye]
 | k + 1=>by
  show yZ (byteAt n k :: beB n k) = _
  rw [jJ,zN,zfk n h0 k,va,kB]
  have hp:=zax k
  have h1:=Int.emod_add_mul_ediv n (ye k)
  have h2:=Int.emod_add_mul_ediv (n / ye k) 256
  have h3:=Int.emod_nonneg n (show ye k ≠ 0 by omega)
  have h4:=Int.emod_lt_of_pos n hp
  have h5:=Int.emod_nonneg (n / ye k) (show (256 : Int) ≠ 0 by omega)
  have h6:=Int.emod_lt_of_pos (n / ye k) (show (0 : Int) < 256 by omega)
  have h7 : n / ye k % 256 * ye k ≤ 255 * ye k:=Int.mul_le_mul_of_nonneg_right (by omega) (by omega)
  have h8 : 0 ≤ n / ye k % 256 * ye k:=Int.mul_nonneg h5 (by omega)
  have e : n = (n / ye k % 256 * ye k + n % ye k) + (256 * ye k) * (n / ye k / 256):=by
   have h9 : ye k * (n / ye k) = n / ye k % 256 * ye k + (256 * ye k) * (n / ye k / 256):=by
    have:=congrArg (fun z=>ye k * z) h2
    simp only [Int.mul_add] at this
    rw [← this,Int.mul_comm (ye k) (n / ye k % 256),← Int.mul_assoc (ye k) 256,Int.mul_comm (ye k) 256]
   omega
  have e2 : n % (256 * ye k) = (n / ye k % 256 * ye k + n % ye k) % (256 * ye k):=by
   have:=congrArg (fun z=>z % (256 * ye k)) e
   rw [this,Int.add_mul_emod_self_left]
  rw [e2]
  exact (Int.emod_eq_of_lt (by omega) (by omega)).symm
theorem zcu (l : List UInt8) : 0 ≤ yZ l ∧ yZ l < ye l.length:=by
 induction l with
 | nil=>decide
 | cons x l ih=>
  rw [jJ,List.length_cons,kB]
  have hx : (x.toNat : Int) ≤ 255:=by have:=x.toNat_lt;omega
  have hp:=zax l.length
  have h1 : (x.toNat : Int) * ye l.length ≤ 255 * ye l.length:=Int.mul_le_mul_of_nonneg_right hx (by omega)
  have h2 : 0 ≤ (x.toNat : Int) * ye l.length:=Int.mul_nonneg (by omega) (by omega)
  omega
theorem zfl : ∀ l : List UInt8, beB (yZ l) l.length = l
 | []=>rfl
 | x :: l=>by
  have hb:=zcu l
  have hp:=zax l.length
  have hx:=x.toNat_lt
  show byteAt (yZ (x :: l)) l.length :: beB (yZ (x :: l)) l.length = x :: l
  have e1 : byteAt (yZ (x :: l)) l.length = x:=by
   apply UInt8.toNat_inj.1
   have h1:=va (yZ (x :: l)) l.length
   have hq : yZ (x :: l) / ye l.length % 256 = (x.toNat : Int):=by
    rw [jJ,Int.add_comm,Int.mul_comm,Int.add_mul_ediv_left _ _ (by omega),Int.ediv_eq_zero_of_lt hb.1 hb.2,Int.zero_add,Int.emod_eq_of_lt (by omega) (by omega)]
   omega
  have e2 : ∀ k,k ≤ l.length → beB (yZ (x :: l)) k = beB (yZ l) k:=by
   intro k
   induction k with
   | zero=>intro _;rfl
   | succ k ih=>
    intro hk
    show byteAt _ k :: _ = byteAt _ k :: _
    rw [ih (by omega)]
    congr 1
    apply UInt8.toNat_inj.1
    have h1:=va (yZ (x :: l)) k
    have h2:=va (yZ l) k
    have hk' : ∃ c,ye l.length = ye k * (256 * c):=by
     have : ∀ d,∃ c,ye (k + 1 + d) = ye k * (256 * c):=by
      intro d
      induction d with
      | zero=>exact ⟨1,by show 256 * ye k = _;rw [Int.mul_one,Int.mul_comm]⟩
      | succ d ihd=>
       obtain ⟨c,hc⟩:=ihd
       exact ⟨256 * c,by rw [show k + 1 + (d + 1) = (k + 1 + d) + 1 from rfl,kB,hc,Int.mul_left_comm,Int.mul_left_comm 256 256 c,Int.mul_left_comm]⟩
     have:=this (l.length - (k + 1))
     rwa [show k + 1 + (l.length - (k + 1)) = l.length by omega] at this
    obtain ⟨c,hc⟩:=hk'
    have hpk:=zax k
    have hq : yZ (x :: l) / ye k % 256 = yZ l / ye k % 256:=by
     rw [jJ,hc,Int.add_comm,Int.mul_left_comm (x.toNat : Int) (ye k),Int.add_mul_ediv_left _ _ (by omega),Int.mul_left_comm (x.toNat : Int) 256 c,Int.add_mul_emod_self_left]
    omega
  rw [e1,e2 _ (Nat.le_refl _),zfl l]
theorem znn (b : List UInt8) (size : Int) (h : zaf b size = 0) : 1 ≤ size ∧ size ≤ 4 ∧ size ≤ b.length ∧ yw (zM b size) size = 0 ∧ zaw [] (zM b size) size = b.take size.toNat:=by
 cases ho : okS size with
 | false=>rw [zaf,if_pos ho] at h;omega
 | true=>
  have ho':=ho
  simp only [okS,Bool.and_eq_true,decide_eq_true_eq] at ho'
  rw [zaf,if_neg (by rw [ho];simp)] at h
  have hle : size ≤ b.length:=by split at h<;>omega
  have e : zM b size = yZ (b.take size.toNat):=if_pos ⟨ho,hle⟩
  have hlen : (b.take size.toNat).length = size.toNat:=by rw [List.length_take];omega
  have hbd:=zcu (b.take size.toNat)
  have hbb:=zfl (b.take size.toNat)
  rw [hlen] at hbd hbb
  have htl:=j3 size ho'.1 ho'.2
  rw [e]
  have hp : yw (yZ (b.take size.toNat)) size = 0:=by
   rw [yw,if_neg (by rw [ho];simp),if_neg (by omega)]
  exact ⟨ho'.1,ho'.2,hle,hp,by simp [zaw,hp,hbb]⟩
theorem zno (l : List UInt8) : ∀ (k i : Nat) (r : List UInt8),i + k = l.length → ByteArray.toList.loop ⟨l.toArray⟩ i r = r.reverse ++ l.drop i:=by
 intro k
 induction k with
 | zero=>
  intro i r h
  unfold ByteArray.toList.loop
  have hs : (ByteArray.mk l.toArray).size = l.length:=rfl
  rw [if_neg (by rw [hs];omega),List.drop_of_length_le (by omega),List.append_nil]
 | succ k ih=>
  intro i r h
  unfold ByteArray.toList.loop
  have hs : (ByteArray.mk l.toArray).size = l.length:=rfl
  rw [if_pos (by rw [hs];omega),ih (i + 1) _ (by omega)]
  have hg : (ByteArray.mk l.toArray).get! i = l[i]'(by omega):=by
   show (l.toArray)[i]! = _
   simp [show i < l.length by omega]
  rw [hg,List.reverse_cons,List.append_assoc]
  congr 1
  rw [List.drop_eq_getElem_cons (i:=i) (by omega)]
  rfl
theorem zdj (l : List UInt8) : ByteArray.toList ⟨l.toArray⟩ = l:=by
 unfold ByteArray.toList
 rw [zno l l.length 0 [] (by omega)]
 simp
theorem zq8 (a b : List UInt8) : (ByteArray.toList ⟨a.toArray⟩ == ByteArray.toList ⟨b.toArray⟩) = decide (a = b):=by
 rw [zdj,zdj]
 by_cases h : a = b<;>simp [h]
theorem zlv (z : BitVec 64) (hz : z.toNat < 2147483648) : z &&& ~~~(2147483648#64) = z ∧ (2147483648#64 ||| z) &&& ~~~(2147483648#64) = z ∧ z &&& 2147483648#64 = 0#64 ∧ (2147483648#64 ||| z) &&& 2147483648#64 = 2147483648#64:=by
 have hy : (2147483648#64) = BitVec.twoPow 64 31:=by decide
 have hb : z.getLsbD 31 = false:=by
  show z.toNat.testBit 31 = false
  exact Nat.testBit_lt_two_pow hz
 have hb' : z[31] = false:=by simpa using hb
 rw [hy]
 refine ⟨?_,?_,?_,?_⟩<;>apply BitVec.eq_of_getLsbD_eq<;>intro i hi<;>simp only [BitVec.getLsbD_and,BitVec.getLsbD_or,BitVec.getLsbD_not,BitVec.getLsbD_twoPow,BitVec.getLsbD_zero,hi,decide_true,Bool.true_and]<;>by_cases h : 31 = i<;>first|(subst h;simp [hb'];done)|(simp [h];done)
theorem zcv (m : Nat) (h : m < 2147483648) : (2147483648#64 ||| BitVec.ofNat 64 m) = BitVec.ofNat 64 (2147483648 + m):=by
 apply BitVec.eq_of_toNat_eq
 rw [BitVec.toNat_or,BitVec.toNat_ofNat,BitVec.toNat_ofNat,BitVec.toNat_ofNat,Nat.mod_eq_of_lt (by omega),Nat.mod_eq_of_lt (by omega),Nat.mod_eq_of_lt (by omega)]
 have:=Nat.two_pow_add_eq_or_of_lt (i:=31) (b:=m) (by omega) 1
 exact this.symm
theorem kC (n : Nat) : BitVec.ofInt 64 (n : Int) = BitVec.ofNat 64 n:=rfl
theorem zlw (n : Int) (h0 : 0 ≤ n) (h1 : n < 2147483648) : zaO .i64 n 2147483648 = n ∧ zbg .i64 n 2147483648 = 0 ∧ ior .i64 n 2147483648 = n + 2147483648:=by
 obtain ⟨m,rfl⟩:=Int.eq_ofNat_of_zero_le h0
 have hm : m < 2147483648:=by omega
 have hz : (BitVec.ofNat 64 m).toNat < 2147483648:=by rw [BitVec.toNat_ofNat,Nat.mod_eq_of_lt (by omega)];exact hm
 obtain ⟨b1,b2,b3,b4⟩:=zlv _ hz
 refine ⟨?_,?_,?_⟩
 ·show IntKind.i64.wrap ((BitVec.ofInt 64 (m : Int) &&& ~~~(BitVec.ofInt 64 2147483648)).toNat : Int) = _
  rw [kC,show BitVec.ofInt 64 2147483648 = 2147483648#64 from rfl,b1,BitVec.toNat_ofNat,Nat.mod_eq_of_lt (by omega)]
  exact w64 (by omega)
 ·show IntKind.i64.wrap ((BitVec.ofInt 64 (m : Int) &&& (BitVec.ofInt 64 2147483648)).toNat : Int) = _
  rw [kC,show BitVec.ofInt 64 2147483648 = 2147483648#64 from rfl,b3]
  rfl
 ·show IntKind.i64.wrap ((BitVec.ofInt 64 (m : Int) ||| (BitVec.ofInt 64 2147483648)).toNat : Int) = _
  rw [kC,show BitVec.ofInt 64 2147483648 = 2147483648#64 from rfl,BitVec.or_comm,zcv m hm,BitVec.toNat_ofNat,Nat.mod_eq_of_lt (by omega)]
  rw [w64 (by omega)]
  omega
theorem zq9 (n : Int) (h0 : 2147483648 ≤ n) (h1 : n < 4294967296) : zaO .i64 n 2147483648 = n - 2147483648 ∧ zbg .i64 n 2147483648 = 2147483648:=by
 obtain ⟨m,rfl⟩ : ∃ m : Nat,n = ((2147483648 + m : Nat) : Int):=⟨(n - 2147483648).toNat,by omega⟩
 have hm : m < 2147483648:=by omega
 have hz : (BitVec.ofNat 64 m).toNat < 2147483648:=by rw [BitVec.toNat_ofNat,Nat.mod_eq_of_lt (by omega)];exact hm
 obtain ⟨b1,b2,b3,b4⟩:=zlv _ hz
 refine ⟨?_,?_⟩
 ·show IntKind.i64.wrap ((BitVec.ofInt 64 ((2147483648 + m : Nat) : Int) &&& ~~~(BitVec.ofInt 64 2147483648)).toNat : Int) = _
  rw [kC,show BitVec.ofInt 64 2147483648 = 2147483648#64 from rfl,← zcv m hm,b2,BitVec.toNat_ofNat,Nat.mod_eq_of_lt (by omega)]
  rw [w64 (by omega)]
  omega
 ·show IntKind.i64.wrap ((BitVec.ofInt 64 ((2147483648 + m : Nat) : Int) &&& (BitVec.ofInt 64 2147483648)).toNat : Int) = _
  rw [kC,show BitVec.ofInt 64 2147483648 = 2147483648#64 from rfl,← zcv m hm,b4]
  rfl
theorem zhP (n : Int) (h0 : 0 ≤ n) (h1 : n < 2147483648) : AEq Tryz.prog 185 [i64 n] [] (.tu [i64 n,bl false]) []:=by
 obtain ⟨e1,e2,_⟩:=zlw n h0 h1
 refine zc Tryz.func185 rfl Tryz.ntmps185 (by simp) (fun hsc=>?_);simp only [Lf.enter,Nat.reduceAdd];clear hsc
 have hU:=And.intro @e1 (@e2)
 repeat' (first|(refine goR ?_)|(refine za (fun K hK=>?_))|((refine zb (fun hcd=>?_) (fun hcd=>?_))<;>(try simp only [hcP] at hcd)<;>(try exact cdT))|((refine zh [] (by rw [Tryz.results185,Lf.yE]) (zA ?_ ?_) ?_)<;>(try (first|exact zi|exact stT)))|(refine hK _ _ ?_;clear hK K))
theorem zhQ (n : Int) (h0 : 2147483648 ≤ n) (h1 : n < 4294967296) : AEq Tryz.prog 185 [i64 n] [] (.tu [i64 (n - 2147483648),bl true]) []:=by
 obtain ⟨e1,e2⟩:=zq9 n h0 h1
 refine zc Tryz.func185 rfl Tryz.ntmps185 (by simp) (fun hsc=>?_);simp only [Lf.enter,Nat.reduceAdd];clear hsc
 have hU:=And.intro @e1 (@e2)
 repeat' (first|(refine goR ?_)|(refine za (fun K hK=>?_))|((refine zb (fun hcd=>?_) (fun hcd=>?_))<;>(try simp only [hcP] at hcd)<;>(try exact cdT))|((refine zh [] (by rw [Tryz.results185,Lf.yE]) (zA ?_ ?_) ?_)<;>(try (first|exact zi|exact stT)))|(refine hK _ _ ?_;clear hK K))
theorem znp (n : Int) (h0 : 0 ≤ n) (h1 : n < 2147483648) : AEq Tryz.prog 160 [i64 n] [] (.tu [i64 n,bl false]) []:=by
 refine zc Tryz.func160 rfl Tryz.ntmps160 (by simp) (fun hsc=>?_);simp only [Lf.enter,Nat.reduceAdd];clear hsc
 have hU:=True.intro
 repeat' (first|(refine goR ?_)|(refine za (fun K hK=>?_))|((refine zb (fun hcd=>?_) (fun hcd=>?_))<;>(try simp only [hcP] at hcd)<;>(try exact cdT))|((refine zh [] (by rw [Tryz.results160,Lf.yE]) (zA ?_ ?_) ?_)<;>(try (first|exact zi|exact stT)))|(refine hK _ _ ?_;clear hK K))
theorem znq (n : Int) (h0 : 2147483648 ≤ n) (h1 : n < 4294967296) : AEq Tryz.prog 160 [i64 n] [] (.tu [i64 (n - 2147483648),bl true]) []:=by
 refine zc Tryz.func160 rfl Tryz.ntmps160 (by simp) (fun hsc=>?_);simp only [Lf.enter,Nat.reduceAdd];clear hsc
 have hU:=True.intro
 repeat' (first|(refine goR ?_)|(refine za (fun K hK=>?_))|((refine zb (fun hcd=>?_) (fun hcd=>?_))<;>(try simp only [hcP] at hcd)<;>(try exact cdT))|((refine zh [] (by rw [Tryz.results160,Lf.yE]) (zA ?_ ?_) ?_)<;>(try (first|exact zi|exact stT)))|(refine hK _ _ ?_;clear hK K))
theorem znr (n : Int) (t : Bool) (h : n < 0 ∨ 2147483648 ≤ n) : AEq Tryz.prog 205 [i64 n,bl t] [] (.tu [i64 0,i64 5]) []:=by
 refine zc Tryz.func205 rfl Tryz.ntmps205 (by simp) (fun hsc=>?_);simp only [Lf.enter,Nat.reduceAdd];clear hsc
 have hU:=True.intro
 repeat' (first|(refine goR ?_)|(refine za (fun K hK=>?_))|((refine zb (fun hcd=>?_) (fun hcd=>?_))<;>(try simp only [hcP] at hcd)<;>(try exact cdT))|((refine zh [] (by rw [Tryz.results205,Lf.yE]) (zA ?_ ?_) ?_)<;>(try (first|exact zi|exact stT)))|(refine hK _ _ ?_;clear hK K))
theorem zko (n : Int) (h0 : 0 ≤ n) (h1 : n < 2147483648) : AEq Tryz.prog 205 [i64 n,bl true] [] (.tu [i64 (n + 2147483648),i64 0]) []:=by
 obtain ⟨_,_,e3⟩:=zlw n h0 h1
 refine zc Tryz.func205 rfl Tryz.ntmps205 (by simp) (fun hsc=>?_);simp only [Lf.enter,Nat.reduceAdd];clear hsc
 have hU:=@e3
 repeat' (first|(refine goR ?_)|(refine za (fun K hK=>?_))|((refine zb (fun hcd=>?_) (fun hcd=>?_))<;>(try simp only [hcP] at hcd)<;>(try exact cdT))|((refine zh [] (by rw [Tryz.results205,Lf.yE]) (zA ?_ ?_) ?_)<;>(try (first|exact zi|exact stT)))|(refine hK _ _ ?_;clear hK K))
theorem zkp (n : Int) (h0 : 0 ≤ n) (h1 : n < 2147483648) : AEq Tryz.prog 205 [i64 n,bl false] [] (.tu [i64 n,i64 0]) []:=by
 refine zc Tryz.func205 rfl Tryz.ntmps205 (by simp) (fun hsc=>?_);simp only [Lf.enter,Nat.reduceAdd];clear hsc
 have hU:=True.intro
 repeat' (first|(refine goR ?_)|(refine za (fun K hK=>?_))|((refine zb (fun hcd=>?_) (fun hcd=>?_))<;>(try simp only [hcP] at hcd)<;>(try exact cdT))|((refine zh [] (by rw [Tryz.results205,Lf.yE]) (zA ?_ ?_) ?_)<;>(try (first|exact zi|exact stT)))|(refine hK _ _ ?_;clear hK K))
theorem zfm (f g q r : Bool) (a b : List UInt8) : AEq Tryz.prog 122 [.sl f q (a.map zf),.sl g r (b.map zf)] [] (bl (decide (a = b))) []:=by
 refine zc Tryz.func122 rfl Tryz.ntmps122 (by simp) (fun hsc=>?_);simp only [Lf.enter,Nat.reduceAdd];clear hsc
 have hU:=@zq8
 repeat' (first|(refine goR ?_)|(refine za (fun K hK=>?_))|(guard_target =~ SOp _ _ ⟨_,.convert _ _ _,_,_,_,none⟩ _ _ _;refine zje rfl (hK:=?_))|((refine zh [] (by rw [Tryz.results122,Lf.zy]) (zj ?_) ?_)<;>(try (first|exact zi|exact stT)))|(refine hK _ _ ?_;clear hK K))
end Go.Proofs.YtdalcgfnlbofdaaGreatDoor
namespace Go.Proofs.YtdalcgfnlbofdaaGreatDoor
open Go Go.Lf Go.Proofs
attribute [local irreducible] Lf.rg Lf.ro Lf.PWp Lf.SOp Lf.ACall Lf.Scoped Lf.dg
set_option maxRecDepth 20000
set_option maxHeartbeats 4000000
theorem zeo (f q : Bool) (l : List UInt8) (h : l.length ≤ 100000000000000) : AEq Tryz.prog 95 [.sl f q (l.map zf)] [] (.ptr 0 0) [.box [.sl false false (l.map zf),i64 0]]:=by
 refine zc Tryz.func95 rfl Tryz.ntmps95 (by simp) (fun hsc=>?_);simp only [Lf.enter,Nat.reduceAdd];clear hsc
 have hU:=True.intro
 repeat' (first|(refine goR ?_)|(refine za (fun K hK=>?_))|(refine zd (f:=143) rfl Tryz.call143 (h:=AEq.pure' (hc:=zd3 _ _ _ (by assumption)) (hq:=?_)))|((refine zh [0] (by rw [Tryz.results95,Lf.zy]) (zj ?_) ?_)<;>(try (first|exact zi|exact stT)))|(refine hK _ _ ?_;clear hK K))
theorem zcw (f : Bool) (b : List UInt8) (a : Int) (h0 : 0 ≤ a) (h1 : a ≤ b.length) : AEq Tryz.prog 147 [.ptr 0 0] [.box [.sl f false (b.map zf),i64 a]] (.sl false false ((b.drop a.toNat).map zf)) [.box [.sl f false (b.map zf),i64 a]]:=by
 refine zc Tryz.func147 rfl Tryz.ntmps147 (by simp) (fun hsc=>?_);simp only [Lf.enter,Nat.reduceAdd];clear hsc
 have hU:=True.intro
 repeat' (first|(refine goR ?_)|(refine za (fun K hK=>?_))|(guard_target =~ PWp _ _ _ _ _ _ _;refine zQ mixed (by kernel_rfl) ?_)|((refine zb (fun hcd=>?_) (fun hcd=>?_))<;>(try simp only [hcP] at hcd)<;>(try exact cdT))|((refine zh [0] (by rw [Tryz.results147,Lf.zy]) (zj ?_) ?_)<;>(try (first|exact zi|exact stT)))|(guard_target =~ dg _ _ _ _ _ _ _;first|(guard_target =~ dg _ _ _ (⟨_,.slice _ _ _ _ _,_,_,_,none⟩ :: _) _ _ _;(refine ko (x:=_) (h:=yj (h:=jf rfl (hg:=(fun _=>gT)) (hK:=ze ⟨rfl,rfl⟩))) (hk:=?_))))|(refine hK _ _ ?_;clear hK K))
theorem kj (f : Bool) (b : List UInt8) (a : Int) (h0 : 0 ≤ a) (h1 : a ≤ b.length) : AEq Tryz.prog 98 [.ptr 0 0] [.box [.sl f false (b.map zf),i64 a]] (i64 (b.length - a)) [.box [.sl f false (b.map zf),i64 a]]:=by
 refine zc Tryz.func98 rfl Tryz.ntmps98 (by simp) (fun hsc=>?_);simp only [Lf.enter,Nat.reduceAdd];clear hsc
 have hU:=True.intro
 repeat' (first|(refine goR ?_)|(refine za (fun K hK=>?_))|(refine zd (f:=147) rfl Tryz.call147 (h:=AEq.sub' [_] (by first|((repeat' (first|exact trivial|(first|exact z0|exact zB id id|exact yy|exact zB (by simp) id|exact zB (by simp) (fun _=>rfl)|exact zT (by rfl) (by rfl) (fun _=>rfl)|exact yi (by rfl) (by rfl) (fun _=>rfl)|exact yT (by rfl) (by rfl)|exact yh)|refine ⟨?_,?_⟩));done)|fail) (hc:=zcw _ _ _ (by assumption) (by assumption)) (hq:=?_)))|((refine zh [0] (by rw [Tryz.results98,Lf.zy]) (zj ?_) ?_)<;>(try (first|exact zi|exact stT)))|(refine hK _ _ ?_;clear hK K))
 all_goals exact yc (by rw [List.length_drop];congr 2;omega)
theorem zfn (f : Bool) (b : List UInt8) (a n : Int) (h0 : 0 ≤ a) (h1 : a ≤ 4000000000000000000) (h2 : 0 ≤ n) (h3 : n ≤ 4000000000000000000) : AEq Tryz.prog 148 [.ptr 0 0,i64 n] [.box [.sl f false (b.map zf),i64 a]] (.tu []) [.box [.sl f false (b.map zf),i64 (a + n)]]:=by
 refine zc Tryz.func148 rfl Tryz.ntmps148 (by simp) (fun hsc=>?_);simp only [Lf.enter,Nat.reduceAdd];clear hsc
 have hU:=True.intro
 repeat' (first|(refine goR ?_)|(refine za (fun K hK=>?_))|((refine zb (fun hcd=>?_) (fun hcd=>?_))<;>(try simp only [hcP] at hcd)<;>(try exact cdT))|((refine zh [0] (by rw [Tryz.results148,Lf.vW]) yk ?_)<;>(try (first|exact zi|exact stT)))|(refine hK _ _ ?_;clear hK K))
end Go.Proofs.YtdalcgfnlbofdaaGreatDoor
namespace Go.Proofs.YtdalcgfnlbofdaaGreatDoor
open Go Go.Lf Go.Proofs
attribute [local irreducible] Lf.rg Lf.ro Lf.PWp Lf.SOp Lf.ACall Lf.Scoped Lf.dg
set_option maxRecDepth 20000
set_option maxHeartbeats 4000000
def zkq (b : List UInt8) (a n : Int) : Int:=if zaf (b.drop a.toNat) n = 0 then a + n else a
def byE (b : List UInt8) (a n : Int) : Int:=if n < 0 then 1 else if (b.length : Int) - a < n then 3 else 0
def byL (b : List UInt8) (a n : Int) : List UInt8:=if byE b a n = 0 then (b.drop a.toNat).take n.toNat else []
def zsv (b : List UInt8) (a n : Int) : Int:=if byE b a n = 0 then a + n else a
theorem zhR {b : List UInt8} {n : Int} (h : zaf b n = 0) : 1 ≤ n ∧ n ≤ 4 ∧ n ≤ b.length:=⟨(znn b n h).1,(znn b n h).2.1,(znn b n h).2.2.1⟩
theorem za7 (f : Bool) (b : List UInt8) (a n : Int) (h0 : 0 ≤ a) (h1 : a ≤ b.length) (h2 : b.length ≤ 4000000000000000) : AEq Tryz.prog 144 [.ptr 0 0,i64 n] [.box [.sl f false (b.map zf),i64 a]] (.tu [i64 (zM (b.drop a.toNat) n),i64 (zaf (b.drop a.toNat) n)]) [.box [.sl f false (b.map zf),i64 (zkq b a n)]]:=by
 have hz:=@zhR (b.drop a.toNat) n
 have hl : (b.drop a.toNat).length ≤ b.length:=by simp
 refine zc Tryz.func144 rfl Tryz.ntmps144 (by simp) (fun hsc=>?_);simp only [Lf.enter,Nat.reduceAdd];clear hsc
 have hU:=True.intro
 repeat' (first|(refine goR ?_)|(refine za (fun K hK=>?_))|((refine zb (fun hcd=>?_) (fun hcd=>?_))<;>(try simp only [hcP] at hcd)<;>(try exact cdT))|(refine zd (f:=148) rfl Tryz.call148 (h:=AEq.sub' [_] (by first|((repeat' (first|exact trivial|(first|exact z0|exact zB id id|exact yy|exact zB (by simp) id|exact zB (by simp) (fun _=>rfl)|exact zT (by rfl) (by rfl) (fun _=>rfl)|exact yi (by rfl) (by rfl) (fun _=>rfl)|exact yT (by rfl) (by rfl)|exact yh)|refine ⟨?_,?_⟩));done)|fail) (hc:=zfn _ _ _ _ aoT aoT aoT aoT) (hq:=?_)))|(refine zd (f:=147) rfl Tryz.call147 (h:=AEq.sub' [_] (by first|((repeat' (first|exact trivial|(first|exact z0|exact zB id id|exact yy|exact zB (by simp) id|exact zB (by simp) (fun _=>rfl)|exact zT (by rfl) (by rfl) (fun _=>rfl)|exact yi (by rfl) (by rfl) (fun _=>rfl)|exact yT (by rfl) (by rfl)|exact yh)|refine ⟨?_,?_⟩));done)|fail) (hc:=zcw _ _ _ aoT aoT) (hq:=?_)))|(refine zd (f:=184) rfl Tryz.call184 (h:=AEq.pure' (hc:=zq6 _ _ _ _ aoT) (hq:=?_)))|((refine zh [0] (by rw [Tryz.results144,Lf.yE]) (zA ?_ ?_) ?_)<;>(try (first|exact zi|exact stT)))|(refine hK _ _ ?_;clear hK K))
 ·exact stq (by simp [zkq,hcd])
 ·exact stq (by simp [zkq,hcd])
theorem zlx (f : Bool) (b : List UInt8) (a n : Int) (h0 : 0 ≤ a) (h1 : a ≤ b.length) (h2 : b.length ≤ 4000000000000) : AEq Tryz.prog 100 [.ptr 0 0,i64 n] [.box [.sl f false (b.map zf),i64 a]] (.tu [.sl false false ((byL b a n).map zf),i64 (byE b a n)]) [.box [.sl f false (b.map zf),i64 (zsv b a n)]]:=by
 have hl : (b.drop a.toNat).length = b.length - a.toNat:=by simp
 refine zc Tryz.func100 rfl Tryz.ntmps100 (by simp) (fun hsc=>?_);simp only [Lf.enter,Nat.reduceAdd];clear hsc
 have hU:=True.intro
 repeat' (first|(refine goR ?_)|(refine za (fun K hK=>?_))|((refine zb (fun hcd=>?_) (fun hcd=>?_))<;>(try simp only [hcP] at hcd)<;>(try exact cdT))|(refine zd (f:=148) rfl Tryz.call148 (h:=AEq.sub' [_] (by first|((repeat' (first|exact trivial|(first|exact z0|exact zB id id|exact yy|exact zB (by simp) id|exact zB (by simp) (fun _=>rfl)|exact zT (by rfl) (by rfl) (fun _=>rfl)|exact yi (by rfl) (by rfl) (fun _=>rfl)|exact yT (by rfl) (by rfl)|exact yh)|refine ⟨?_,?_⟩));done)|fail) (hc:=zfn _ _ _ _ lnT lnT lnT lnT) (hq:=?_)))|(refine zd (f:=147) rfl Tryz.call147 (h:=AEq.sub' [_] (by first|((repeat' (first|exact trivial|(first|exact z0|exact zB id id|exact yy|exact zB (by simp) id|exact zB (by simp) (fun _=>rfl)|exact zT (by rfl) (by rfl) (fun _=>rfl)|exact yi (by rfl) (by rfl) (fun _=>rfl)|exact yT (by rfl) (by rfl)|exact yh)|refine ⟨?_,?_⟩));done)|fail) (hc:=zcw _ _ _ lnT lnT) (hq:=?_)))|(refine zd (f:=98) rfl Tryz.call98 (h:=AEq.sub' [_] (by first|((repeat' (first|exact trivial|(first|exact z0|exact zB id id|exact yy|exact zB (by simp) id|exact zB (by simp) (fun _=>rfl)|exact zT (by rfl) (by rfl) (fun _=>rfl)|exact yi (by rfl) (by rfl) (fun _=>rfl)|exact yT (by rfl) (by rfl)|exact yh)|refine ⟨?_,?_⟩));done)|fail) (hc:=kj _ _ _ lnT lnT) (hq:=?_)))|(refine zd (f:=143) rfl Tryz.call143 (h:=AEq.pure' (hc:=zd3 _ _ _ lnT) (hq:=?_)))|(guard_target =~ SOp _ _ ⟨_,.slice _ _ _ _ _,_,_,_,none⟩ _ _ _;refine jf rfl (hg:=(fun _=>gT)) (hK:=?_))|((refine zh [0] (by rw [Tryz.results100,Lf.yE]) (zA ?_ ?_) ?_)<;>(try (first|exact zi|exact stT)))|(refine hK _ _ ?_;clear hK K))
 ·have hb : byE b a n = 1 := if_pos hcd
  rw [show byL b a n = [] by simp [byL,hb]];exact zaP (by simp)
 ·have hb : byE b a n = 1 := if_pos hcd
  exact yc (by rw [hb])
 ·have hb : byE b a n = 1 := if_pos hcd
  exact stq (by simp [zsv,hb])
 ·have hb : byE b a n = 3 := by simp only [byE]; rw [if_neg (by omega), if_pos (by omega)]
  rw [show byL b a n = [] by simp [byL,hb]];exact zaP (by simp)
 ·have hb : byE b a n = 3 := by simp only [byE]; rw [if_neg (by omega), if_pos (by omega)]
  exact yc (by rw [hb])
 ·have hb : byE b a n = 3 := by simp only [byE]; rw [if_neg (by omega), if_pos (by omega)]
  exact stq (by simp [zsv,hb])
 ·have hb : byE b a n = 0 := by simp only [byE]; rw [if_neg (by omega), if_neg (by omega)]
  exact yc (by simp [byL,hb])
 ·have hb : byE b a n = 0 := by simp only [byE]; rw [if_neg (by omega), if_neg (by omega)]
  exact yc (by rw [hb])
 ·have hb : byE b a n = 0 := by simp only [byE]; rw [if_neg (by omega), if_neg (by omega)]
  exact stq (by simp [zsv,hb])
end Go.Proofs.YtdalcgfnlbofdaaGreatDoor
namespace Go.Proofs.YtdalcgfnlbofdaaGreatDoor
open Go Go.Lf Go.Proofs
attribute [local irreducible] Lf.rg Lf.ro Lf.PWp Lf.SOp Lf.ACall Lf.Scoped Lf.dg
set_option maxRecDepth 20000
set_option maxHeartbeats 4000000
@[go_sem] def yq (s : Int × Int) : List AV:=[i64 s.1,i64 s.2]
@[go_sem] theorem zra (l : List (Int × Int)) : vn (l.map yq).flatten = true:=yd (fun _=>rfl) l
structure Vals where
 (a b c d e f : Int)
deriving DecidableEq
@[go_sem] def zzs (v : Vals) : List AV:=[i64 v.a,i64 v.b,i64 v.c,i64 v.d,i64 v.e,i64 v.f]
theorem za8 {α : Type} {l : List α} {i : Nat} {x : α} (h : l[i]? = some x) : l.drop i = x :: l.drop (i + 1):=by
 obtain ⟨hi,rfl⟩:=List.getElem?_eq_some_iff.1 h
 exact List.drop_eq_getElem_cons hi
end Go.Proofs.YtdalcgfnlbofdaaGreatDoor
namespace Go.Proofs.YtdalcgfnlbofdaaGreatDoor
open Go Go.Lf Go.Proofs
attribute [local irreducible] Lf.rg Lf.ro Lf.PWp Lf.SOp Lf.ACall Lf.Scoped Lf.dg
set_option maxRecDepth 20000
set_option maxHeartbeats 4000000
theorem zhS (f g q r : Bool) (a b : List (Int × Int)) (ha : a.length ≤ 4000000000000000000) : AEq Tryz.prog 124 [.sl f q (a.map yq),.sl g r (b.map yq)] [] (bl (decide (a = b))) []:=by
 refine zc Tryz.func124 rfl Tryz.ntmps124 (by simp) (fun hsc=>?_);simp only [Lf.enter,Nat.reduceAdd];clear hsc
 by_cases hl : a.length = b.length
 ·have hU := True.intro
  repeat' (first|(refine goR ?_)|(refine za (fun K hK=>?_))|((refine zb (fun hcd=>?_) (fun hcd=>?_))<;>(try simp only [hcP] at hcd)<;>(try exact cdT))|(refine hK _ _ ?_;clear hK K))
  refine zz [4,5,11,12,13,14,15,16,17,18,19,20,21,22,23,24,25] (fun i : Nat=>[(5,i64 i)]) (fun _=>[]) (fun i=>i ≤ a.length ∧ (a = b ↔ a.drop i = b.drop i)) (fun i=>a.length - i) 0 ⟨Nat.zero_le _,Iff.rfl⟩ ?_ rfl ?_
  ·(refine ⟨⟨_,sT,?_⟩,trivial⟩<;>(try (first|exact zi)))
  ·rintro i ⟨hi, hk⟩
   simp only [vf,List.map_cons,List.map_nil,List.cons_append,List.nil_append]
   by_cases hlt : i < a.length
   ·obtain ⟨s, hs⟩ : ∃ s, a[i]? = some s := ⟨a[i], List.getElem?_eq_getElem hlt⟩
    obtain ⟨t,ht⟩ : ∃ t,b[i]? = some t:=⟨b[i],List.getElem?_eq_getElem (by omega)⟩
    have hd : a = b ↔ s = t ∧ a.drop (i + 1) = b.drop (i + 1):=by rw [hk,za8 hs,za8 ht,List.cons.injEq]
    repeat' (first|(refine goR ?_)|(refine za (fun K hK=>?_))|(guard_target =~ PWp _ _ _ _ _ _ _;refine zQ mixed (by kernel_rfl) ?_)|((refine zb (fun hcd=>?_) (fun hcd=>?_))<;>(try simp only [hcP] at hcd)<;>(try exact cdT))|((refine zh [] (by rw [Tryz.results124,Lf.zy]) (zj ?_) ?_)<;>(try (first|exact zi|exact stT)))|(refine hK _ _ ?_;clear hK K)|(guard_target =~ dg _ _ _ _ _ _ _;first|(guard_target =~ dg _ _ _ (⟨_,.binOp _ _ _ _ _,_,_,_,none⟩ :: _) _ _ _;(refine ko (x:=_) (h:=yj (h:=zV (ne:=true) rfl (by first|exact kR|fail) (hc:=rfl) (hK:=ze ⟨rfl,rfl⟩))) (hk:=?_)))|(guard_target =~ dg _ _ _ (⟨_,.indexAddr _ _ _,_,_,_,none⟩ :: _) _ _ _;(refine ko (x:=_) (h:=yj (h:=vh rfl (hK:=ze ⟨rfl,rfl⟩))) (hk:=?_))))|(rw [if_pos rfl]))
    ·exact zt (by symm;rw [decide_eq_false_iff_not,hd];rintro ⟨rfl,_⟩;simp at hcd)
    ·have he : s = t := by obtain ⟨s1, s2⟩ := s; obtain ⟨t1, t2⟩ := t; simp only [Prod.mk.injEq]; simpa using hcd
     refine ⟨i + 1,⟨by omega,by rw [hd];exact ⟨And.right,fun h=>⟨he,h⟩⟩⟩,by omega,?_,arT,srT⟩
     (refine ⟨⟨_,sT,?_⟩,trivial⟩<;>(try (first|exact zi)))
   ·have h1 : a = b := by rw [hk, List.drop_eq_nil_of_le (by omega), List.drop_eq_nil_of_le (by omega)]
    repeat' (first|(refine goR ?_)|(refine za (fun K hK=>?_))|((refine zb (fun hcd=>?_) (fun hcd=>?_))<;>(try simp only [hcP] at hcd)<;>(try exact cdT))|((refine zh [] (by rw [Tryz.results124,Lf.zy]) (zj ?_) ?_)<;>(try (first|exact zi|exact stT)))|(refine hK _ _ ?_;clear hK K)|(apply_assumption (exfalso:=false) (symm:=false)))
    exact zt (by simp [h1])
 ·have hU := True.intro
  repeat' (first|(refine goR ?_)|(refine za (fun K hK=>?_))|((refine zb (fun hcd=>?_) (fun hcd=>?_))<;>(try simp only [hcP] at hcd)<;>(try exact cdT))|((refine zh [] (by rw [Tryz.results124,Lf.zy]) (zj ?_) ?_)<;>(try (first|exact zi|exact stT)))|(refine hK _ _ ?_;clear hK K))
  exact zt (by symm;rw [decide_eq_false_iff_not];intro h;exact hl (by rw [h]))
end Go.Proofs.YtdalcgfnlbofdaaGreatDoor
namespace Go.Proofs.YtdalcgfnlbofdaaGreatDoor
open Go Go.Lf Go.Proofs
attribute [local irreducible] Lf.rg Lf.ro Lf.PWp Lf.SOp Lf.ACall Lf.Scoped Lf.dg
set_option maxRecDepth 20000
set_option maxHeartbeats 4000000
structure Hd where
 (l t g s : Int) (r : Bool)
@[go_sem] def hdA (h : Hd) : List AV:=[i64 h.l,i64 h.t,i64 h.g,i64 h.s,bl h.r]
def km (h : Hd) : Prop:=0 ≤ h.l ∧ h.l ≤ 16777215 ∧ 0 ≤ h.t ∧ h.t ≤ 255 ∧ 0 ≤ h.g ∧ h.g ≤ 255 ∧ 0 ≤ h.s ∧ h.s ≤ 2147483647
instance (h : Hd) : Decidable (km h):=by unfold km;infer_instance
theorem zhT (n m : Int) : AEq Tryz.prog 92 [i64 n,i64 m] [] (bl (decide (0 ≤ n) && decide (n ≤ m))) []:=by
 refine zc Tryz.func92 rfl Tryz.ntmps92 (by simp) (fun hsc=>?_);simp only [Lf.enter,Nat.reduceAdd];clear hsc
 have hU:=True.intro
 repeat' (first|(refine goR ?_)|(refine za (fun K hK=>?_))|((refine zh [] (by rw [Tryz.results92,Lf.zy]) (zj ?_) ?_)<;>(try (first|exact zi|exact stT)))|(refine hK _ _ ?_;clear hK K))
theorem zly (l t g s : Int) (r : Bool) : AEq Tryz.prog 50 [.ag [i64 l,i64 t,i64 g,i64 s,bl r]] [] (bl (decide (km ⟨l,t,g,s,r⟩))) []:=by
 refine zc Tryz.func50 rfl Tryz.ntmps50 (by simp) (fun hsc=>?_);simp only [Lf.enter,Nat.reduceAdd];clear hsc
 have hU:=True.intro
 repeat' (first|(refine goR ?_)|(refine za (fun K hK=>?_))|(guard_target =~ rg _ _ _ (⟨_,_,_,_,_,some _⟩ :: _) _ _ _;(first|refine zH gT (fun hcd=>?_) (fun hcd=>?_)|refine zw gT (fun hcd=>?_) (fun hcd=>?_))<;>(try simp only [hcd])<;>(try (simp only [Bool.not_eq_true',Bool.not_eq_false'] at hcd;try simp only [hcd]))<;>(refine ku (Γ2:=_) ewT ?_)<;>(try simp only [hcP] at hcd)<;>(try exact cdT))|(refine zd (f:=92) rfl Tryz.call92 (h:=AEq.pure' agT (zhT _ _) (hq:=?_)))|((refine zh [] (by rw [Tryz.results50,Lf.zy]) (zj ?_) ?_)<;>(try (first|exact zi|exact stT)))|(refine hK _ _ ?_;clear hK K))
 all_goals first|exact zt (by symm;rw [decide_eq_true_eq];unfold km;dsimp only;omega)|exact zt (by symm;rw [decide_eq_false_iff_not];unfold km;dsimp only;omega)|exact zt (by rw [Bool.eq_iff_iff];simp only [Bool.and_eq_true,decide_eq_true_eq];unfold km;dsimp only;omega)
def hdS (s : Int) (r : Bool) : Int:=if r then s + 2147483648 else s
theorem zkr (s : Int) : hdS s true = s + 2147483648:=rfl
theorem zks (s : Int) : hdS s false = s:=rfl
theorem vk (n size : Int) (h1 : 1 ≤ size) (h2 : size ≤ 4) (h3 : 0 ≤ n) (h4 : n ≤ zct size) : yw n size = 0:=by
 unfold yw
 rw [yr ⟨h1,h2⟩,if_neg (by simp),if_neg (by omega)]
theorem zhU (b : List UInt8) (n size : Int) (h1 : 1 ≤ size) (h2 : size ≤ 4) (h3 : 0 ≤ n) (h4 : n ≤ zct size) : zaw b n size = b ++ beB n size.toNat:=if_pos (vk n size h1 h2 h3 h4)
theorem zuE : zct 1 = 255:=rfl
theorem zhV : zct 4 = 4294967295:=rfl
theorem zhW (f q : Bool) (b : List UInt8) (n size : Int) (h1 : 1 ≤ size) (h2 : size ≤ 4) (h0 : 0 ≤ n) (hn : n ≤ zct size) (hb : b.length ≤ 1000000000) : AEq Tryz.prog 171 [.sl f q (b.map zf),i64 n,i64 size] [] (.tu [.row 0 size.toNat,i64 0]) [.row size.toNat 5 1 ((b ++ beB n size.toNat).map zf)]:=by
 have hpn : (ye size.toNat : Int) ≤ 4294967296:=(vU _ (by omega)).2
 have htl:=j3 size h1 h2
 obtain ⟨m,hm⟩ : ∃ m,m = zct size:=⟨_,rfl⟩
 have hm':=hm.symm
 rw [← hm] at hn htl
 refine zc Tryz.func171 rfl Tryz.ntmps171 (by simp) (fun hsc=>?_);simp only [Lf.enter,Nat.reduceAdd];clear hsc
 have hU:=True.intro
 repeat' (first|(refine goR ?_)|(refine za (fun K hK=>?_))|((refine zb (fun hcd=>?_) (fun hcd=>?_))<;>(try simp only [hcP] at hcd)<;>(try exact cdT))|(refine zd (f:=194) rfl Tryz.call194 (h:=AEq.pure' agT (za5 _ (by assumption) (by assumption)) (hq:=?_)))|(guard_target =~ SOp _ _ ⟨_,.makeSlice _ _ _,_,_,_,none⟩ _ _ _;refine zeR rfl (he:=eoT) (hK:=?_))|(guard_target =~ SOp _ _ ⟨_,.call ⟨.builtin .copy,_,_⟩,_,_,_,none⟩ _ _ _;refine zgV rfl (hK:=?_))|(refine hK _ _ ?_;clear hK K))
 refine zz [10, 11, 40, 41, 42, 43, 44, 45, 46, 47, 48, 49, 50, 51] (fun s : Int × List UInt8 × Nat => [(10, .row 0 s.2.2), (11, i64 s.1)]) (fun s => [.row s.2.2 5 1 ((b ++ s.2.1).map zf)])
  (fun s=>∃ k : Nat,s.1 = 8 * k ∧ k ≤ size.toNat ∧ s.2.1 ++ beB n k = beB n size.toNat ∧ s.2.2 + k = size.toNat) (fun s=>s.1.toNat) (8 * size,[],0) ⟨size.toNat,by simp;omega,Nat.le_refl _,rfl,Nat.zero_add _⟩ ?_ (by rw [List.append_nil]) ?_
 ·(refine ⟨⟨_,sT,?_⟩,⟨_,sT,?_⟩,trivial⟩<;>(try (first|exact zi)))
 ·rintro ⟨a, l, s⟩ ⟨k, ha, hk, hl, hst⟩
  simp only [vf,List.map_cons,List.map_nil,List.cons_append,List.nil_append]
  dsimp only at ha hl hst ⊢
  have hll : l.length + k = size.toNat:=by have:=congrArg List.length hl;simpa [zN] using this
  by_cases h0k : k = 0
  ·subst h0k
   have hl' : l = beB n size.toNat:=by simpa [beB] using hl
   subst hl'
   obtain rfl : s = size.toNat:=by omega
   repeat' (first|(refine goR ?_)|(refine za (fun K hK=>?_))|((refine zb (fun hcd=>?_) (fun hcd=>?_))<;>(try simp only [hcP] at hcd)<;>(try exact cdT))|((refine zh [0] (by rw [Tryz.results171,Lf.yE]) (zA ?_ ?_) ?_)<;>(try (first|exact zi|exact stT)))|(refine hK _ _ ?_;clear hK K)|(apply_assumption (exfalso:=false) (symm:=false)))
  ·obtain ⟨k', rfl⟩ : ∃ k', k = k' + 1 := ⟨k - 1, by omega⟩
   have hsb:=zfi n h0 k' (by omega) (a - 8) (by omega)
   have hU:=@hsb
   repeat' (first|(refine goS ?_)|(refine za (fun K hK=>?_))|((refine zb (fun hcd=>?_) (fun hcd=>?_))<;>(try simp only [hcP] at hcd)<;>(try exact cdT))|(refine hK _ _ ?_;clear hK K)|(dsimp only [Lf.y6,Lf.vL]))
   refine ⟨(a - 8,l ++ [byteAt n k'],s + 1),⟨k',by simp only [];omega,by omega,by simpa [beB] using hl,by dsimp only;omega⟩,by simp only [];omega,?_,arT,by simp [zf]⟩
   (refine ⟨⟨_,sT,?_⟩,⟨_,sT,?_⟩,trivial⟩<;>(try (first|exact zi)))
theorem zrb (t : Int) (h0 : 0 ≤ t) (h1 : t ≤ 255) : List.map zf (beB t 1) = [[AV.lit (.int .u8 t)]]:=by
 have:=va t 0
 rw [show ye 0 = 1 from rfl] at this
 show [[AV.lit (.int .u8 (byteAt t 0).toNat)]] = _
 rw [this,show t / 1 % 256 = t from by omega]
end Go.Proofs.YtdalcgfnlbofdaaGreatDoor
