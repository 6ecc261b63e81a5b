import Derived.Test.YtdalcgfnlbofdaaGreatDoorZ05
set_option linter.unusedVariables false
set_option linter.unusedSimpArgs false
namespace Go.Proofs.YtdalcgfnlbofdaaGreatDoor
open Go Go.Lf Go.Proofs
attribute [local irreducible] Lf.rg Lf.ro Lf.PWp Lf.SOp Lf.ACall Lf.Scoped Lf.dg
set_option maxRecDepth 20000
set_option maxHeartbeats 4000000
def ju(n:Int)(k:Nat): UInt8:=UInt8.ofNat (n / je k % 256).toNat
def beB(n:Int): Nat->List UInt8
 | 0=>[]
 | k+1=>ju n k::beB n k
theorem kl(n:Int): ∀k,(beB n k).length=k
 | 0=>rfl
 | k+1=>by simp[beB,kl n k]
theorem jc(n:Int)(k:Nat): ((ju n k).toNat:Int)=n / je k % 256:=by
 have h1:=Int.emod_nonneg (n / je k) (b:=256) (by decide)
 have h2:=Int.emod_lt_of_pos (n / je k) (b:=256) (by decide)
 unfold ju
 rw[UInt8.toNat_ofNat']
 omega
theorem zgB(n:Int)(h0:0<=n)(k:Nat)(hk:k<=3)(a:Int)(ha:a=8*k): IntKind.u8.wrap (n.fdiv (2 ^ a.toNat))=((ju n k).toNat:Int):=by
 rw[jc]
 have e:((2:Int) ^ a.toNat)=je k:=by
  rcases(show k=0\/k=1\/k=2\/k=3 by omega)with h|h|h|h<;>subst h<;>subst ha<;>rfl
 rw[e,Int.fdiv_eq_ediv_of_nonneg _ (by have:=zdk k (by omega);omega)]
 have h1:=Int.emod_nonneg (n / je k) (b:=256) (by decide)
 have h2:=Int.emod_lt_of_pos (n / je k) (b:=256) (by decide)
 unfold IntKind.wrap
 simp[IntKind.bits,IntKind.signed]
theorem zft(size:Int)(h1:1<=size)(h2:size<=4): zgo size=je size.toNat-1:=by
 rcases(show size=1\/size=2\/size=3\/size=4 by omega)with h|h|h|h<;>subst h<;>rfl
def vh(n size:Int): Int:=if okS size=false then 1 else if n<0\/zgo size<n then 5 else 0
def zhT(b:List UInt8)(n size:Int): List UInt8:=if vh n size=0 then b++beB n size.toNat else[]
theorem zqt(f q:Bool)(b:List UInt8)(n size:Int)(h:¬(1<=size/\size<=4)): AEq Tryz.prog 171 [.sl f q (b.map zk),i64 n,i64 size] [] (.tu [.sl false false (List.map zk []),i64 1]) []:=by
 refine enT Tryz.func171 Tryz.ntmps171 ?_
 have hU:=True.intro
 repeat'(first|refine goR ?_|refine zd fun K hK=>?_|refine zc ?_ ?_<;>intro hcd<;>(try simp only[hcP]at hcd)<;>try exact cdT|(refine zj (f:=194) rfl Tryz.call194 (h:=AEq.pure' (hc:=zn0 _ (by assumption)) (hq:=?_)))|((refine zo [] (by rw[Tryz.results171,Lf.ym]) (zF ?_ ?_) ?_)<;>(try exact uT))|refine hK _ _ ?_;clear hK K)
theorem zjR(f q:Bool)(b:List UInt8)(n size:Int)(h1:1<=size)(h2:size<=4)(hn:n<0\/zgo size<n): AEq Tryz.prog 171 [.sl f q (b.map zk),i64 n,i64 size] [] (.tu [.sl false false (List.map zk []),i64 5]) []:=by
 obtain⟨m,hm⟩:∃m,m=zgo size:=⟨_,rfl⟩
 have hm':=hm.symm
 rw[<-hm]at hn
 refine enT Tryz.func171 Tryz.ntmps171 ?_
 have hU:=@hm'
 repeat'(first|refine goR ?_|refine zd fun K hK=>?_|refine zc ?_ ?_<;>intro hcd<;>(try simp only[hcP]at hcd)<;>try exact cdT|refine y1d ?_|((refine zo [] (by rw[Tryz.results171,Lf.ym]) (zF ?_ ?_) ?_)<;>(try exact uT))|refine hK _ _ ?_;clear hK K)
theorem zqu(f q:Bool)(b:List UInt8)(n size:Int)(h1:1<=size)(h2:size<=4)(h0:0<=n)(hn:n<=zgo size)(hb:b.length<=1000000000): AEq Tryz.prog 171 [.sl f q (b.map zk),i64 n,i64 size] [] (.tu [.sl false false ((b++beB n size.toNat).map zk),i64 0]) []:=by
 have hpn:(je size.toNat:Int)<=4294967296:=(zdk _ (by omega)).2
 have htl:=zft size h1 h2
 obtain⟨m,hm⟩:∃m,m=zgo size:=⟨_,rfl⟩
 have hm':=hm.symm
 rw[<-hm]at hn htl
 refine enT Tryz.func171 Tryz.ntmps171 ?_
 have hU:=@hm'
 repeat'(first|refine goR ?_|refine zd fun K hK=>?_|refine zc ?_ ?_<;>intro hcd<;>(try simp only[hcP]at hcd)<;>try exact cdT|refine y1d ?_|(guard_target =~ SOp _ _ ⟨_,.makeSlice _ _ _,_,_,_,none⟩ _ _ _;refine znP rfl (he:=eoT) (hK:=?_))|(guard_target =~ SOp _ _ ⟨_,.call ⟨.builtin .copy,_,_⟩,_,_,_,none⟩ _ _ _;refine znQ rfl (hK:=?_))|refine hK _ _ ?_;clear hK K)
 refine zO [10, 11, 40, 41, 42, 43, 44, 45, 46, 47, 48, 49, 50, 51] (fun s : Int × List UInt8 × Nat => [(10, .row 0 s.2.2), (11, i64 s.1)]) (fun s => [.row s.2.2 5 1 ((b ++ s.2.1).map zk)])
  (fun s=>∃k:Nat,s.1=8*k/\k<=size.toNat/\s.2.1++beB n k=beB n size.toNat) (fun s=>s.1.toNat) (8*size,[],0) ⟨size.toNat,by simp;omega,Nat.le_refl _,rfl⟩ ?_ (by rw[List.append_nil]) ?_
 ·(refine⟨⟨_,sT,?_⟩,⟨_,sT,?_⟩,trivial⟩<;>(try exact zu))
 ·rintro⟨a,l,s⟩ ⟨k,ha,hk,hl⟩
  simp only[yN,List.map_cons,List.map_nil,List.cons_append,List.nil_append]
  dsimp only at ha hl ⊢
  have hll:l.length+k=size.toNat:=by have:=congrArg List.length hl;simpa[kl]using this
  by_cases h0k:k=0
  ·subst h0k
   have hl':l=beB n size.toNat:=by simpa[beB]using hl
   subst hl'
   have hU:=True.intro
   repeat'(first|refine goR ?_|refine zd fun K hK=>?_|refine zc ?_ ?_<;>intro hcd<;>(try simp only[hcP]at hcd)<;>try exact cdT|((refine zo [] (by rw[Tryz.results171,Lf.ym]) (zF ?_ ?_) ?_)<;>(try exact uT))|refine hK _ _ ?_;clear hK K|(apply_assumption (exfalso:=false) (symm:=false)))
  ·obtain ⟨k', rfl⟩ : ∃ k', k = k' + 1 := ⟨k - 1, by omega⟩
   have hsb:=zgB n h0 k' (by omega) (a-8) (by omega)
   have hU:=@hsb
   repeat'(first|refine goS ?_|refine zd fun K hK=>?_|refine zc ?_ ?_<;>intro hcd<;>(try simp only[hcP]at hcd)<;>try exact cdT|refine hK _ _ ?_;clear hK K|(dsimp only[Lf.yk,Lf.yJ]))
   refine⟨(a-8,l++[ju n k'],s+1),⟨k',by simp only[];omega,by omega,by simpa[beB]using hl⟩,by simp only[];omega,?_,arT,by simp[zk]⟩
   (refine⟨⟨_,sT,?_⟩,⟨_,sT,?_⟩,trivial⟩<;>(try exact zu))
theorem zgC(f q:Bool)(b:List UInt8)(n size:Int)(hb:b.length<=1000000000): AEq Tryz.prog 171 [.sl f q (b.map zk),i64 n,i64 size] [] (.tu [.sl false false ((zhT b n size).map zk),i64 (vh n size)]) []:=by
 by_cases h:1<=size/\size<=4
 ·by_cases h2:n<0\/zgo size<n
  ·have e : vh n size = 5 := by simp only [vh, vE h]; rw [if_neg (by simp), if_pos h2]
   have e2:zhT b n size=[]:=by simp[zhT,e]
   rw[e,e2];exact zjR f q b n size h.1 h.2 h2
  ·have e : vh n size = 0 := by simp only [vh, vE h]; rw [if_neg (by simp), if_neg h2]
   have e2:zhT b n size=b++beB n size.toNat:=by simp[zhT,e]
   rw[e,e2];exact zqu f q b n size h.1 h.2 (by omega) (by omega) hb
 ·have e : vh n size = 1 := by simp [vh, zjy h]
  have e2:zhT b n size=[]:=by simp[zhT,e]
  rw[e,e2];exact zqt f q b n size h
theorem zmQ(b:List UInt8)(n size:Int): (zhT b n size).length<=b.length+4:=by
 unfold zhT
 split
 ·rename_i h
  have:okS size=true:=by
   cases ho:okS size with
   | true=>rfl
   | false=>rw[vh,if_pos ho]at h;omega
  simp only[okS,Bool.and_eq_true,decide_eq_true_eq]at this
  rw[List.length_append,kl];omega
 ·simp
/-! Numbers and bytes: there and back. -/
theorem j7(k:Nat): je (k+1)=256*je k:=rfl
theorem zbO(x:UInt8)(l:List UInt8): kG (x::l)=(x.toNat:Int)*je l.length+kG l:=by
 have key:∀(l:List UInt8) (n:Int),l.foldl (fun n x=>n*256+(x.toNat:Int)) n=n*je l.length+kG l:=by
  intro l
  induction l with
  | nil=>intro n;simp[kG,je]
  | cons y l ih=>
   intro n
   have h1:=ih (n*256+(y.toNat:Int))
   have h2:=ih (0*256+(y.toNat:Int))
   simp only[List.foldl_cons,List.length_cons,kG]at h1 h2 ⊢
   rw[h1,h2,j7,Int.add_mul,Int.mul_assoc n 256,Int.zero_mul,Int.zero_add,Int.add_assoc]
 have:=key l (0*256+(x.toNat:Int))
 simpa[kG]using this
theorem zdt(k:Nat): 0<je k:=by
 induction k with
 | zero=>decide
 | succ k ih=>rw[j7];omega
theorem zdu(l:List UInt8): 0<=kG l/\kG l<je l.length:=by
 induction l with
 | nil=>decide
 | cons x l ih=>
  rw[zbO,List.length_cons,j7]
  have hx:(x.toNat:Int)<=255:=by have:=x.toNat_lt;omega
  have hp:=zdt l.length
  have h1:(x.toNat:Int)*je l.length<=255*je l.length:=Int.mul_le_mul_of_nonneg_right hx (by omega)
  have h2:0<=(x.toNat:Int)*je l.length:=Int.mul_nonneg (by omega) (by omega)
  omega
theorem zgD: ∀l:List UInt8,beB (kG l) l.length=l
 | []=>rfl
 | x::l=>by
  have hb:=zdu l
  have hp:=zdt l.length
  have hx:=x.toNat_lt
  show ju (kG (x::l)) l.length::beB (kG (x::l)) l.length=x::l
  have e1:ju (kG (x::l)) l.length=x:=by
   apply UInt8.toNat_inj.1
   have h1:=jc (kG (x::l)) l.length
   have hq:kG (x::l) / je l.length % 256=(x.toNat:Int):=by
    rw[zbO,Int.add_comm,Int.mul_comm,Int.add_mul_ediv_left _ _ (by omega),Int.ediv_eq_zero_of_lt hb.1 hb.2,Int.zero_add,Int.emod_eq_of_lt (by omega) (by omega)]
   omega
  have e2:∀k,k<=l.length->beB (kG (x::l)) k=beB (kG l) k:=by
   intro k
   induction k with
   | zero=>intro _;rfl
   | succ k ih=>
    intro hk
    show ju _ k::_=ju _ k::_
    rw[ih (by omega)]
    congr 1
    apply UInt8.toNat_inj.1
    have h1:=jc (kG (x::l)) k
    have h2:=jc (kG l) k
    have hk':∃c,je l.length=je k*(256*c):=by
     have:∀d,∃c,je (k+1+d)=je k*(256*c):=by
      intro d
      induction d with
      | zero=>exact⟨1,by show 256*je k=_;rw[Int.mul_one,Int.mul_comm]⟩
      | succ d ihd=>
       obtain⟨c,hc⟩:=ihd
       exact⟨256*c,by rw[show k+1+(d+1)=(k+1+d)+1 from rfl,j7,hc,Int.mul_left_comm,Int.mul_left_comm 256 256 c,Int.mul_left_comm]⟩
     have:=this (l.length-(k+1))
     rwa [show k+1+(l.length-(k+1))=l.length by omega]at this
    obtain⟨c,hc⟩:=hk'
    have hpk:=zdt k
    have hq:kG (x::l) / je k % 256=kG l / je k % 256:=by
     rw[zbO,hc,Int.add_comm,Int.mul_left_comm (x.toNat:Int) (je k),Int.add_mul_ediv_left _ _ (by omega),Int.mul_left_comm (x.toNat:Int) 256 c,Int.add_mul_emod_self_left]
    omega
  rw[e1,e2 _ (Nat.le_refl _),zgD l]
theorem zqv(b:List UInt8)(size:Int)(h:zdj b size=0): 1<=size/\size<=4/\size<=b.length/\vh (z4 b size) size=0/\zhT [] (z4 b size) size=b.take size.toNat:=by
 cases ho:okS size with
 | false=>rw[zdj,if_pos ho]at h;omega
 | true=>
  have ho':=ho
  simp only[okS,Bool.and_eq_true,decide_eq_true_eq]at ho'
  rw[zdj,if_neg (by rw[ho];simp)]at h
  have hle:size<=b.length:=by split at h<;>omega
  have e:z4 b size=kG (b.take size.toNat):=if_pos ⟨ho,hle⟩
  have hlen:(b.take size.toNat).length=size.toNat:=by rw[List.length_take];omega
  have hbd:=zdu (b.take size.toNat)
  have hbb:=zgD (b.take size.toNat)
  rw[hlen]at hbd hbb
  have htl:=zft size ho'.1 ho'.2
  rw[e]
  have hp:vh (kG (b.take size.toNat)) size=0:=by
   rw[vh,if_neg (by rw[ho];simp),if_neg (by omega)]
  exact⟨ho'.1,ho'.2,hle,hp,by simp[zhT,hp,hbb]⟩
theorem zqw(l:List UInt8): ∀(k i:Nat) (r:List UInt8),i+k=l.length->ByteArray.toList.loop ⟨l.toArray⟩ i r=r.reverse++l.drop i:=by
 intro k
 induction k with
 | zero=>
  intro i r h
  unfold ByteArray.toList.loop
  have hs:(ByteArray.mk l.toArray).size=l.length:=rfl
  rw[if_neg (by rw[hs];omega),List.drop_of_length_le (by omega),List.append_nil]
 | succ k ih=>
  intro i r h
  unfold ByteArray.toList.loop
  have hs:(ByteArray.mk l.toArray).size=l.length:=rfl
  rw[if_pos (by rw[hs];omega),ih (i+1) _ (by omega)]
  have hg:(ByteArray.mk l.toArray).get! i=l[i]'(by omega):=by
   show(l.toArray)[i]! = _
   simp[show i<l.length by omega]
  rw[hg,List.reverse_cons,List.append_assoc]
  congr 1
  rw[List.drop_eq_getElem_cons (i:=i) (by omega)]
  rfl
theorem zeo(l:List UInt8): ByteArray.toList ⟨l.toArray⟩=l:=by
 unfold ByteArray.toList
 rw[zqw l l.length 0 [] (by omega)]
 simp
theorem zuB(a b:List UInt8): (ByteArray.toList ⟨a.toArray⟩ == ByteArray.toList ⟨b.toArray⟩)=decide (a=b):=by
 rw[zeo,zeo]
 by_cases h:a=b<;>simp[h]
theorem zn5(z:BitVec 64)(hz:z.toNat<2147483648): z &&& ~~~(2147483648#64)=z/\(2147483648#64 ||| z) &&& ~~~(2147483648#64)=z/\z &&& 2147483648#64=0#64/\(2147483648#64 ||| z) &&& 2147483648#64=2147483648#64:=by
 have hy:(2147483648#64)=BitVec.twoPow 64 31:=by decide
 have hb:z.getLsbD 31=false:=by
  show z.toNat.testBit 31=false
  exact Nat.testBit_lt_two_pow hz
 have hb':z[31]=false:=by simpa using hb
 rw[hy]
 refine⟨?_,?_,?_,?_⟩<;>apply BitVec.eq_of_getLsbD_eq<;>intro i hi<;>simp only[BitVec.getLsbD_and,BitVec.getLsbD_or,BitVec.getLsbD_not,BitVec.getLsbD_twoPow,BitVec.getLsbD_zero,hi,decide_true,Bool.true_and]<;>by_cases h:31=i<;>first|(subst h;simp[hb'];done)|(simp[h];done)
theorem zdv(m:Nat)(h:m<2147483648): (2147483648#64 ||| BitVec.ofNat 64 m)=BitVec.ofNat 64 (2147483648+m):=by
 apply BitVec.eq_of_toNat_eq
 rw[BitVec.toNat_or,BitVec.toNat_ofNat,BitVec.toNat_ofNat,BitVec.toNat_ofNat,Nat.mod_eq_of_lt (by omega),Nat.mod_eq_of_lt (by omega),Nat.mod_eq_of_lt (by omega)]
 have:=Nat.two_pow_add_eq_or_of_lt (i:=31) (b:=m) (by omega) 1
 exact this.symm
theorem kK(n:Nat): BitVec.ofInt 64 (n:Int)=BitVec.ofNat 64 n:=rfl
theorem zn6(n:Int)(h0:0<=n)(h1:n<2147483648): jD .i64 n 2147483648=n/\jV .i64 n 2147483648=0/\ior .i64 n 2147483648=n+2147483648:=by
 obtain⟨m,rfl⟩:=Int.eq_ofNat_of_zero_le h0
 have hm:m<2147483648:=by omega
 have hz:(BitVec.ofNat 64 m).toNat<2147483648:=by rw[BitVec.toNat_ofNat,Nat.mod_eq_of_lt (by omega)];exact hm
 obtain⟨b1,b2,b3,b4⟩:=zn5 _ hz
 refine⟨?_,?_,?_⟩
 ·show IntKind.i64.wrap ((BitVec.ofInt 64 (m:Int) &&& ~~~(BitVec.ofInt 64 2147483648)).toNat:Int)=_
  rw[kK,show BitVec.ofInt 64 2147483648=2147483648#64 from rfl,b1,BitVec.toNat_ofNat,Nat.mod_eq_of_lt (by omega)]
  exact w64 (by omega)
 ·show IntKind.i64.wrap ((BitVec.ofInt 64 (m:Int) &&& (BitVec.ofInt 64 2147483648)).toNat:Int)=_
  rw[kK,show BitVec.ofInt 64 2147483648=2147483648#64 from rfl,b3]
  rfl
 ·show IntKind.i64.wrap ((BitVec.ofInt 64 (m:Int) ||| (BitVec.ofInt 64 2147483648)).toNat:Int)=_
  rw[kK,show BitVec.ofInt 64 2147483648=2147483648#64 from rfl,BitVec.or_comm,zdv m hm,BitVec.toNat_ofNat,Nat.mod_eq_of_lt (by omega)]
  rw[w64 (by omega)]
  omega
theorem zuC(n:Int)(h0:2147483648<=n)(h1:n<4294967296): jD .i64 n 2147483648=n-2147483648/\jV .i64 n 2147483648=2147483648:=by
 obtain⟨m,rfl⟩:∃m:Nat,n=((2147483648+m:Nat):Int):=⟨(n-2147483648).toNat,by omega⟩
 have hm:m<2147483648:=by omega
 have hz:(BitVec.ofNat 64 m).toNat<2147483648:=by rw[BitVec.toNat_ofNat,Nat.mod_eq_of_lt (by omega)];exact hm
 obtain⟨b1,b2,b3,b4⟩:=zn5 _ hz
 refine⟨?_,?_⟩
 ·show IntKind.i64.wrap ((BitVec.ofInt 64 ((2147483648+m:Nat):Int) &&& ~~~(BitVec.ofInt 64 2147483648)).toNat:Int)=_
  rw[kK,show BitVec.ofInt 64 2147483648=2147483648#64 from rfl,<-zdv m hm,b2,BitVec.toNat_ofNat,Nat.mod_eq_of_lt (by omega)]
  rw[w64 (by omega)]
  omega
 ·show IntKind.i64.wrap ((BitVec.ofInt 64 ((2147483648+m:Nat):Int) &&& (BitVec.ofInt 64 2147483648)).toNat:Int)=_
  rw[kK,show BitVec.ofInt 64 2147483648=2147483648#64 from rfl,<-zdv m hm,b4]
  rfl
theorem zjS(n:Int)(h0:0<=n)(h1:n<2147483648): AEq Tryz.prog 185 [i64 n] [] (.tu [i64 n,bl false]) []:=by
 obtain⟨e1,e2,_⟩:=zn6 n h0 h1
 refine enT Tryz.func185 Tryz.ntmps185 ?_
 have hU:=And.intro @e1 (@e2)
 exact wr
theorem zjT(n:Int)(h0:2147483648<=n)(h1:n<4294967296): AEq Tryz.prog 185 [i64 n] [] (.tu [i64 (n-2147483648),bl true]) []:=by
 obtain⟨e1,e2⟩:=zuC n h0 h1
 refine enT Tryz.func185 Tryz.ntmps185 ?_
 have hU:=And.intro @e1 (@e2)
 exact wr
theorem zqx(n:Int)(t:Bool)(h:n<0\/2147483648<=n): AEq Tryz.prog 205 [i64 n,bl t] [] (.tu [i64 0,i64 5]) []:=by
 refine enT Tryz.func205 Tryz.ntmps205 ?_
 have hU:=True.intro
 exact wh
theorem zmR(n:Int)(h0:0<=n)(h1:n<2147483648): AEq Tryz.prog 205 [i64 n,bl true] [] (.tu [i64 (n+2147483648),i64 0]) []:=by
 obtain⟨_,_,e3⟩:=zn6 n h0 h1
 refine enT Tryz.func205 Tryz.ntmps205 ?_
 have hU:=@e3
 exact wh
theorem zmS(n:Int)(h0:0<=n)(h1:n<2147483648): AEq Tryz.prog 205 [i64 n,bl false] [] (.tu [i64 n,i64 0]) []:=by
 refine enT Tryz.func205 Tryz.ntmps205 ?_
 have hU:=True.intro
 exact wh
theorem zmT(f g q r:Bool)(a b:List UInt8): AEq Tryz.prog 122 [.sl f q (a.map zk),.sl g r (b.map zk)] [] (bl (decide (a=b))) []:=by
 refine enT Tryz.func122 Tryz.ntmps122 ?_
 have hU:=@zuB
 repeat'(first|refine goR ?_|refine zd fun K hK=>?_|(guard_target =~ SOp _ _ ⟨_,.convert _ _ _,_,_,_,none⟩ _ _ _;refine zc3 rfl (hK:=?_))|((refine zo [] (by rw[Tryz.results122,Lf.zI]) (zw ?_) ?_)<;>(try exact uT))|refine hK _ _ ?_;clear hK K)
theorem zfu(f q:Bool)(l:List UInt8)(h:l.length<=100000000000000): AEq Tryz.prog 95 [.sl f q (l.map zk)] [] (.ptr 0 0) [.box [.sl false false (l.map zk),i64 0]]:=by
 refine enT Tryz.func95 Tryz.ntmps95 ?_
 have hU:=True.intro
 repeat'(first|refine goR ?_|refine zd fun K hK=>?_|(refine zj (f:=143) rfl Tryz.call143 (h:=AEq.pure' (hc:=zc9 _ _ _ (by assumption)) (hq:=?_)))|((refine zo [0] (by rw[Tryz.results95,Lf.zI]) (zw ?_) ?_)<;>(try exact uT))|refine hK _ _ ?_;clear hK K)
theorem zdw(f:Bool)(b:List UInt8)(a:Int)(h0:0<=a)(h1:a<=b.length): AEq Tryz.prog 147 [.ptr 0 0] [.box [.sl f false (b.map zk),i64 a]] (.sl false false ((b.drop a.toNat).map zk)) [.box [.sl f false (b.map zk),i64 a]]:=by
 refine enT Tryz.func147 Tryz.ntmps147 ?_
 have hU:=True.intro
 repeat'(first|refine goR ?_|refine zd fun K hK=>?_|refine y7 ?_|refine zc ?_ ?_<;>intro hcd<;>(try simp only[hcP]at hcd)<;>try exact cdT|((refine zo [0] (by rw[Tryz.results147,Lf.zI]) (zw ?_) ?_)<;>(try exact uT))|(guard_target =~ dg _ _ _ _ _ _ _;first|(guard_target =~ dg _ _ _ (⟨_,.slice _ _ _ _ _,_,_,_,none⟩::_) _ _ _;(refine vz (x:=_) (h:=zH (h:=z8 rfl (hg:=(fun _=>gT)) (hK:=zl ⟨rfl,rfl⟩))) (hk:=?_))))|refine hK _ _ ?_;clear hK K)
theorem km(f:Bool)(b:List UInt8)(a:Int)(h0:0<=a)(h1:a<=b.length): AEq Tryz.prog 98 [.ptr 0 0] [.box [.sl f false (b.map zk),i64 a]] (i64 (b.length-a)) [.box [.sl f false (b.map zk),i64 a]]:=by
 refine enT Tryz.func98 Tryz.ntmps98 ?_
 have hU:=True.intro
 repeat'(first|refine goR ?_|refine zd fun K hK=>?_|(refine zj (f:=147) rfl Tryz.call147 (h:=AEq.sub' [_] (by first|((repeat'(first|exact trivial|(first|exact zi|exact zq id id|exact vb|exact zq (by simp) id|exact zq (by simp) (fun _=>rfl)|exact z0 (by rfl) (by rfl) (fun _=>rfl)|exact yu (by rfl) (by rfl) (fun _=>rfl)|exact zD (by rfl) (by rfl)|exact yr)|refine⟨?_,?_⟩));done)|fail) (hc:=zdw _ _ _ (by assumption) (by assumption)) (hq:=?_)))|((refine zo [0] (by rw[Tryz.results98,Lf.zI]) (zw ?_) ?_)<;>(try exact uT))|refine hK _ _ ?_;clear hK K)
 all_goals exact yo (by rw[List.length_drop];congr 2;omega)
theorem zgE(f:Bool)(b:List UInt8)(a n:Int)(h0:0<=a)(h1:a<=4000000000000000000)(h2:0<=n)(h3:n<=4000000000000000000): AEq Tryz.prog 148 [.ptr 0 0,i64 n] [.box [.sl f false (b.map zk),i64 a]] (.tu []) [.box [.sl f false (b.map zk),i64 (a+n)]]:=by
 refine enT Tryz.func148 Tryz.ntmps148 ?_
 have hU:=True.intro
 repeat'(first|refine goR ?_|refine zd fun K hK=>?_|refine zc ?_ ?_<;>intro hcd<;>(try simp only[hcP]at hcd)<;>try exact cdT|((refine zo [0] (by rw[Tryz.results148,Lf.jC]) yH ?_)<;>(try exact uT))|refine hK _ _ ?_;clear hK K)
def zmU(b:List UInt8)(a n:Int): Int:=if zdj (b.drop a.toNat) n=0 then a+n else a
def byE(b:List UInt8)(a n:Int): Int:=if n<0 then 1 else if(b.length:Int)-a<n then 3 else 0
def byL(b:List UInt8)(a n:Int): List UInt8:=if byE b a n=0 then(b.drop a.toNat).take n.toNat else[]
def zv6(b:List UInt8)(a n:Int): Int:=if byE b a n=0 then a+n else a
theorem zjU{b:List UInt8}{n:Int}(h:zdj b n=0): 1<=n/\n<=4/\n<=b.length:=⟨(zqv b n h).1,(zqv b n h).2.1,(zqv b n h).2.2.1⟩
theorem zbP(f:Bool)(b:List UInt8)(a n:Int)(h0:0<=a)(h1:a<=b.length)(h2:b.length<=4000000000000000): AEq Tryz.prog 144 [.ptr 0 0,i64 n] [.box [.sl f false (b.map zk),i64 a]] (.tu [i64 (z4 (b.drop a.toNat) n),i64 (zdj (b.drop a.toNat) n)]) [.box [.sl f false (b.map zk),i64 (zmU b a n)]]:=by
 have hz:=@zjU (b.drop a.toNat) n
 have hl:(b.drop a.toNat).length<=b.length:=by simp
 refine enT Tryz.func144 Tryz.ntmps144 ?_
 have hU:=True.intro
 repeat'(first|refine goR ?_|refine zd fun K hK=>?_|refine zc ?_ ?_<;>intro hcd<;>(try simp only[hcP]at hcd)<;>try exact cdT|(refine zj (f:=148) rfl Tryz.call148 (h:=AEq.sub' [_] (by first|((repeat'(first|exact trivial|(first|exact zi|exact zq id id|exact vb|exact zq (by simp) id|exact zq (by simp) (fun _=>rfl)|exact z0 (by rfl) (by rfl) (fun _=>rfl)|exact yu (by rfl) (by rfl) (fun _=>rfl)|exact zD (by rfl) (by rfl)|exact yr)|refine⟨?_,?_⟩));done)|fail) (hc:=zgE _ _ _ _ aoT aoT aoT aoT) (hq:=?_)))|(refine zj (f:=147) rfl Tryz.call147 (h:=AEq.sub' [_] (by first|((repeat'(first|exact trivial|(first|exact zi|exact zq id id|exact vb|exact zq (by simp) id|exact zq (by simp) (fun _=>rfl)|exact z0 (by rfl) (by rfl) (fun _=>rfl)|exact yu (by rfl) (by rfl) (fun _=>rfl)|exact zD (by rfl) (by rfl)|exact yr)|refine⟨?_,?_⟩));done)|fail) (hc:=zdw _ _ _ aoT aoT) (hq:=?_)))|(refine zj (f:=184) rfl Tryz.call184 (h:=AEq.pure' (hc:=zun _ _ _ _ aoT) (hq:=?_)))|((refine zo [0] (by rw[Tryz.results144,Lf.ym]) (zF ?_ ?_) ?_)<;>(try exact uT))|refine hK _ _ ?_;clear hK K)
 ·exact stq (by simp[zmU,hcd])
 ·exact stq (by simp[zmU,hcd])
theorem zn7(f:Bool)(b:List UInt8)(a n:Int)(h0:0<=a)(h1:a<=b.length)(h2:b.length<=4000000000000): AEq Tryz.prog 100 [.ptr 0 0,i64 n] [.box [.sl f false (b.map zk),i64 a]] (.tu [.sl false false ((byL b a n).map zk),i64 (byE b a n)]) [.box [.sl f false (b.map zk),i64 (zv6 b a n)]]:=by
 have hl:(b.drop a.toNat).length=b.length-a.toNat:=by simp
 refine enT Tryz.func100 Tryz.ntmps100 ?_
 have hU:=True.intro
 repeat'(first|refine goR ?_|refine zd fun K hK=>?_|refine zc ?_ ?_<;>intro hcd<;>(try simp only[hcP]at hcd)<;>try exact cdT|(refine zj (f:=148) rfl Tryz.call148 (h:=AEq.sub' [_] (by first|((repeat'(first|exact trivial|(first|exact zi|exact zq id id|exact vb|exact zq (by simp) id|exact zq (by simp) (fun _=>rfl)|exact z0 (by rfl) (by rfl) (fun _=>rfl)|exact yu (by rfl) (by rfl) (fun _=>rfl)|exact zD (by rfl) (by rfl)|exact yr)|refine⟨?_,?_⟩));done)|fail) (hc:=zgE _ _ _ _ lnT lnT lnT lnT) (hq:=?_)))|(refine zj (f:=147) rfl Tryz.call147 (h:=AEq.sub' [_] (by first|((repeat'(first|exact trivial|(first|exact zi|exact zq id id|exact vb|exact zq (by simp) id|exact zq (by simp) (fun _=>rfl)|exact z0 (by rfl) (by rfl) (fun _=>rfl)|exact yu (by rfl) (by rfl) (fun _=>rfl)|exact zD (by rfl) (by rfl)|exact yr)|refine⟨?_,?_⟩));done)|fail) (hc:=zdw _ _ _ lnT lnT) (hq:=?_)))|(refine zj (f:=98) rfl Tryz.call98 (h:=AEq.sub' [_] (by first|((repeat'(first|exact trivial|(first|exact zi|exact zq id id|exact vb|exact zq (by simp) id|exact zq (by simp) (fun _=>rfl)|exact z0 (by rfl) (by rfl) (fun _=>rfl)|exact yu (by rfl) (by rfl) (fun _=>rfl)|exact zD (by rfl) (by rfl)|exact yr)|refine⟨?_,?_⟩));done)|fail) (hc:=km _ _ _ lnT lnT) (hq:=?_)))|(refine zj (f:=143) rfl Tryz.call143 (h:=AEq.pure' (hc:=zc9 _ _ _ lnT) (hq:=?_)))|(guard_target =~ SOp _ _ ⟨_,.slice _ _ _ _ _,_,_,_,none⟩ _ _ _;refine z8 rfl (hg:=(fun _=>gT)) (hK:=?_))|((refine zo [0] (by rw[Tryz.results100,Lf.ym]) (zF ?_ ?_) ?_)<;>(try exact uT))|refine hK _ _ ?_;clear hK K)
 ·have hb:byE b a n=1:=if_pos hcd
  rw[show byL b a n=[]by simp[byL,hb]];exact zbt (by simp)
 ·have hb:byE b a n=1:=if_pos hcd
  exact yo (by rw[hb])
 ·have hb:byE b a n=1:=if_pos hcd
  exact stq (by simp[zv6,hb])
 ·have hb : byE b a n = 3 := by simp only [byE]; rw [if_neg (by omega), if_pos (by omega)]
  rw[show byL b a n=[]by simp[byL,hb]];exact zbt (by simp)
 ·have hb : byE b a n = 3 := by simp only [byE]; rw [if_neg (by omega), if_pos (by omega)]
  exact yo (by rw[hb])
 ·have hb : byE b a n = 3 := by simp only [byE]; rw [if_neg (by omega), if_pos (by omega)]
  exact stq (by simp[zv6,hb])
 ·have hb : byE b a n = 0 := by simp only [byE]; rw [if_neg (by omega), if_neg (by omega)]
  exact yo (by simp[byL,hb])
 ·have hb : byE b a n = 0 := by simp only [byE]; rw [if_neg (by omega), if_neg (by omega)]
  exact yo (by rw[hb])
 ·have hb : byE b a n = 0 := by simp only [byE]; rw [if_neg (by omega), if_neg (by omega)]
  exact stq (by simp[zv6,hb])
@[go_sem] def z7(s:Int×Int): List AV:=[i64 s.1,i64 s.2]
@[go_sem] theorem zuD(l:List (Int×Int)): y9 (l.map z7).flatten=true:=ze (fun _=>rfl) l
structure Vals where
 (a b c d e f:Int)
deriving DecidableEq
@[go_sem] def zEy(v:Vals): List AV:=[i64 v.a,i64 v.b,i64 v.c,i64 v.d,i64 v.e,i64 v.f]
theorem zdx{α:Type}{l:List α}{i:Nat}{x:α}(h:l[i]?=some x): l.drop i=x::l.drop (i+1):=by
 obtain⟨hi,rfl⟩:=List.getElem?_eq_some_iff.1 h
 exact List.drop_eq_getElem_cons hi
theorem zjV(f g q r:Bool)(a b:List (Int×Int))(ha:a.length<=4000000000000000000): AEq Tryz.prog 124 [.sl f q (a.map z7),.sl g r (b.map z7)] [] (bl (decide (a=b))) []:=by
 refine enT Tryz.func124 Tryz.ntmps124 ?_
 by_cases hl:a.length=b.length
 ·have hU:=True.intro
  repeat'(first|refine goR ?_|refine zd fun K hK=>?_|refine zc ?_ ?_<;>intro hcd<;>(try simp only[hcP]at hcd)<;>try exact cdT|refine hK _ _ ?_;clear hK K)
  refine zO [4,5,11,12,13,14,15,16,17,18,19,20,21,22,23,24,25] (fun i:Nat=>[(5,i64 i)]) (fun _=>[]) (fun i=>i<=a.length/\(a=b↔a.drop i=b.drop i)) (fun i=>a.length-i) 0 ⟨Nat.zero_le _,Iff.rfl⟩ ?_ rfl ?_
  ·(refine⟨⟨_,sT,?_⟩,trivial⟩<;>(try exact zu))
  ·rintro i ⟨hi,hk⟩
   simp only[yN,List.map_cons,List.map_nil,List.cons_append,List.nil_append]
   by_cases hlt:i<a.length
   ·obtain⟨s,hs⟩:∃s,a[i]?=some s:=⟨a[i],List.getElem?_eq_getElem hlt⟩
    obtain⟨t,ht⟩:∃t,b[i]?=some t:=⟨b[i],List.getElem?_eq_getElem (by omega)⟩
    have hd:a=b↔s=t/\a.drop (i+1)=b.drop (i+1):=by rw[hk,zdx hs,zdx ht,List.cons.injEq]
    repeat'(first|refine goR ?_|refine zd fun K hK=>?_|refine y7 ?_|refine zc ?_ ?_<;>intro hcd<;>(try simp only[hcP]at hcd)<;>try exact cdT|((refine zo [] (by rw[Tryz.results124,Lf.zI]) (zw ?_) ?_)<;>(try exact uT))|refine hK _ _ ?_;clear hK K|(guard_target =~ dg _ _ _ _ _ _ _;first|(guard_target =~ dg _ _ _ (⟨_,.binOp _ _ _ _ _,_,_,_,none⟩::_) _ _ _;(refine vz (x:=_) (h:=zH (h:=zS (ne:=true) rfl (by first|exact ki|fail) (hc:=rfl) (hK:=zl ⟨rfl,rfl⟩))) (hk:=?_)))|(guard_target =~ dg _ _ _ (⟨_,.indexAddr _ _ _,_,_,_,none⟩::_) _ _ _;(refine vz (x:=_) (h:=zH (h:=zZ rfl (hK:=zl ⟨rfl,rfl⟩))) (hk:=?_))))|(rw[if_pos rfl]))
    ·exact zJ (by symm;rw[decide_eq_false_iff_not,hd];rintro⟨rfl,_⟩;simp at hcd)
    ·have he : s = t := by obtain ⟨s1, s2⟩ := s; obtain ⟨t1, t2⟩ := t; simp only [Prod.mk.injEq]; simpa using hcd
     refine⟨i+1,⟨by omega,by rw[hd];exact⟨And.right,fun h=>⟨he,h⟩⟩⟩,by omega,?_,arT,srT⟩
     (refine⟨⟨_,sT,?_⟩,trivial⟩<;>(try exact zu))
   ·have h1 : a = b := by rw [hk, List.drop_eq_nil_of_le (by omega), List.drop_eq_nil_of_le (by omega)]
    repeat'(first|refine goR ?_|refine zd fun K hK=>?_|refine zc ?_ ?_<;>intro hcd<;>(try simp only[hcP]at hcd)<;>try exact cdT|((refine zo [] (by rw[Tryz.results124,Lf.zI]) (zw ?_) ?_)<;>(try exact uT))|refine hK _ _ ?_;clear hK K|(apply_assumption (exfalso:=false) (symm:=false)))
    exact zJ (by simp[h1])
 ·have hU:=True.intro
  repeat'(first|refine goR ?_|refine zd fun K hK=>?_|refine zc ?_ ?_<;>intro hcd<;>(try simp only[hcP]at hcd)<;>try exact cdT|((refine zo [] (by rw[Tryz.results124,Lf.zI]) (zw ?_) ?_)<;>(try exact uT))|refine hK _ _ ?_;clear hK K)
  exact zJ (by symm;rw[decide_eq_false_iff_not];intro h;exact hl (by rw[h]))
end Go.Proofs.YtdalcgfnlbofdaaGreatDoor
