import Derived.Test.YtdalcgfnlbofdaaGreatDoorZ01
import Derived.Laws.Strings
set_option linter.unusedVariables false
set_option linter.unusedSimpArgs false
namespace Go.Proofs.YtdalcgfnlbofdaaGreatDoor
open Go Go.Lf Go.Proofs
attribute [local irreducible] Lf.rg Lf.ro Lf.PWp Lf.SOp Lf.ACall Lf.Scoped Lf.dg Lf.dw
set_option maxRecDepth 20000
set_option maxHeartbeats 4000000
section
/-! bit by bit,of numbers from 0 on -/
theorem zx5(a b:Nat)(ha:a<2 ^ 62)(hb:b<2 ^ 62): jV .i64 (a:Int) (b:Int)=((a &&& b:Nat):Int):=by
 show IntKind.i64.wrap ((BitVec.ofInt 64 (a:Int) &&& BitVec.ofInt 64 (b:Int)).toNat:Int)=_
 have e1:BitVec.ofInt 64 (a:Int)=BitVec.ofNat 64 a:=rfl
 have e2:BitVec.ofInt 64 (b:Int)=BitVec.ofNat 64 b:=rfl
 rw[e1,e2,BitVec.toNat_and,BitVec.toNat_ofNat,BitVec.toNat_ofNat,Nat.mod_eq_of_lt (by omega),Nat.mod_eq_of_lt (by omega)]
 have:=Nat.and_le_left (n:=a) (m:=b)
 exact w64 (by omega)
theorem zEs(a b:Nat)(ha:a<2 ^ 62)(hb:b<2 ^ 62): ior .i64 (a:Int) (b:Int)=((a ||| b:Nat):Int):=by
 show IntKind.i64.wrap ((BitVec.ofInt 64 (a:Int) ||| BitVec.ofInt 64 (b:Int)).toNat:Int)=_
 have e1:BitVec.ofInt 64 (a:Int)=BitVec.ofNat 64 a:=rfl
 have e2:BitVec.ofInt 64 (b:Int)=BitVec.ofNat 64 b:=rfl
 rw[e1,e2,BitVec.toNat_or,BitVec.toNat_ofNat,BitVec.toNat_ofNat,Nat.mod_eq_of_lt (by omega),Nat.mod_eq_of_lt (by omega)]
 have:=Nat.or_lt_two_pow ha hb
 exact w64 (by omega)
theorem zmG(a b:Int): ior .i64 a b=ior .i64 b a:=by
 show IntKind.i64.wrap ((BitVec.ofInt 64 a ||| BitVec.ofInt 64 b).toNat:Int)=IntKind.i64.wrap ((BitVec.ofInt 64 b ||| BitVec.ofInt 64 a).toNat:Int)
 rw[BitVec.or_comm]
def pwI(b:Int): Int:=2 ^ b.toNat
theorem zmH: pwI 7=128:=by decide
theorem zbI{b:Int}(h1:1<=b)(h8:b<=8): 2<=pwI b/\pwI b<=256:=by
 obtain rfl|rfl|rfl|rfl|rfl|rfl|rfl|rfl:b=1\/b=2\/b=3\/b=4\/b=5\/b=6\/b=7\/b=8:=by omega
 all_goals decide
theorem zfn{b n:Int}(h1:1<=b)(h8:b<=8)(hn:0<=n)(hn2:n<=4294967296): jV .i64 n (pwI b-1)=n % pwI b:=by
 obtain⟨k,rfl⟩:∃k:Nat,n=k:=⟨n.toNat,by omega⟩
 have hk:2 ^ b.toNat<=2 ^ 8:=Nat.pow_le_pow_right (by decide) (by omega)
 have hk0:0<2 ^ b.toNat:=Nat.pow_pos (by decide)
 have e:pwI b-1=((2 ^ b.toNat-1:Nat):Int):=by
  unfold pwI
  have:(2:Int) ^ b.toNat=((2 ^ b.toNat:Nat):Int):=by simp
  rw[this];omega
 rw[e,zx5 k _ (by omega) (by omega),Nat.and_two_pow_sub_one_eq_mod]
 unfold pwI
 simp
theorem zbJ{b f n:Int}(h1:1<=b)(h8:b<=8)(hf:f % pwI b=0)(hf0:0<=f)(hf1:f<=255)(hn:0<=n)(hn2:n<pwI b): ior .i64 f n=f+n/\f+pwI b<=256:=by
 obtain⟨k,rfl⟩:∃k:Nat,n=k:=⟨n.toNat,by omega⟩
 obtain⟨g,rfl⟩:∃k:Nat,f=k:=⟨f.toNat,by omega⟩
 have e:pwI b=((2 ^ b.toNat:Nat):Int):=by unfold pwI;simp
 have hbd:=zbI h1 h8
 rw[e]at hf hn2 hbd ⊢
 obtain⟨q,hq⟩:∃q,g=2 ^ b.toNat*q:=⟨g / 2 ^ b.toNat,by
  have h3:=Nat.div_add_mod g (2 ^ b.toNat)
  have h4:((g % 2 ^ b.toNat:Nat):Int)=0:=by rw[Int.natCast_emod];exact hf
  omega⟩
 refine⟨?_,?_⟩
 ·rw [zEs _ _ (by omega) (by omega)]
  have:=Nat.two_pow_add_eq_or_of_lt (i:=b.toNat) (b:=k) (by omega) q
  rw[hq,<-this];simp
 ·obtain rfl | rfl | rfl | rfl | rfl | rfl | rfl | rfl : b = 1 \/ b = 2 \/ b = 3 \/ b = 4 \/ b = 5 \/ b = 6 \/ b = 7 \/ b = 8 := by omega
  all_goals(simp at hq ⊢;omega)
def byI(x:Int): UInt8:=UInt8.ofNat x.toNat
theorem jI{x:Int}(h0:0<=x)(h1:x<=255): ((byI x).toNat:Int)=x:=by unfold byI;simp;omega
def zas(x:Int): List UInt8:=[byI x]
theorem yj(x:Int): (zas x).length=1:=rfl
theorem za7{x:Int}(h0:0<=x)(h1:x<=255): List.map zk (zas x)=[[AV.lit (.int .u8 x)]]:=by
 show[[AV.lit (.int .u8 ((byI x).toNat:Int))]]=_
 rw[jI h0 h1]
def zb8: Nat->Int->List UInt8
 | 0,n=>zas n
 | k+1,n=>if n<128 then zas n else zas (128+n % 128)++zb8 k (n / 128)
theorem zjs{k:Nat}{n:Int}(h:n<128): zb8 k n=zas n:=by cases k with|zero=>rfl|succ k=>rw[zb8,if_pos h]
theorem zjt{k:Nat}{n:Int}(h:¬n<128): zb8 (k+1) n=zas (128+n % 128)++zb8 k (n / 128):=by rw[zb8,if_neg h]
theorem zgn: ∀(k:Nat) (n:Int),1<=(zb8 k n).length/\(zb8 k n).length<=k+1
 | 0,n=>by rw[zb8,yj];omega
 | k+1,n=>by
  rw[zb8]
  have:=zgn k (n / 128)
  split
  ·rw[yj];omega
  ·rw[List.length_append,yj];omega
def vr(f b n:Int): List UInt8:=if n<pwI b-1 then zas (f+n)else zas (f+pwI b-1)++zb8 4 (n-(pwI b-1))
theorem zfo{f b n:Int}(h:n<pwI b-1): vr f b n=zas (f+n):=by rw[vr,if_pos h]
theorem zfp{f b n:Int}(h:¬n<pwI b-1): vr f b n=zas (f+pwI b-1)++zb8 4 (n-(pwI b-1)):=by rw[vr,if_neg h]
attribute [local irreducible] pwI zas zb8 vr
theorem zju(b:Int)(h1:1<=b)(h8:b<=8): AEq Tryz.prog 221 [i64 b] [] (.tu [i64 (pwI b-1),bl true]) []:=by
 have hp:=zbI h1 h8
 have hwr:IntKind.i64.wrap (IntKind.i64.wrap (2 ^ b.toNat)-1)=pwI b-1:=by
  have e:(2:Int) ^ b.toNat=pwI b:=by unfold pwI;rfl
  rw[e,w64 (n:=pwI b) (by omega),w64 (by omega)]
 refine enT Tryz.func221 Tryz.ntmps221 ?_
 have hU:=@hwr
 repeat'(first|refine goR ?_|refine zd fun K hK=>?_|refine zc ?_ ?_<;>intro hcd<;>(try simp only[hcP]at hcd)<;>try exact cdT|((refine zo [] (by rw[Tryz.results221,Lf.ym]) (zF ?_ ?_) ?_)<;>(try exact uT))|refine hK _ _ ?_;clear hK K)
theorem jo(f b n:Int)(h1:1<=b)(h8:b<=8)(h0:0<=f)(h255:f<=255)(hf:f % pwI b=0)(hn0:0<=n)(hn1:n<=2147483647): AEq Tryz.prog 197 [i64 f,i64 b,i64 n] [] (.tu [.row 0 ((vr f b n).length-1),i64 0]) [.row ((vr f b n).length-1) 5 1 ((vr f b n).map zk)]:=by
  have hp:=zbI h1 h8
  have hand:=zfn (n:=f) h1 h8 h0 (by omega)
  rw[hf]at hand
  by_cases hlt:n<pwI b-1
  · obtain ⟨hor, hle⟩ := zbJ h1 h8 hf h0 h255 hn0 (by omega)
    have hone:=za7 (x:=f+n) (by omega) (by omega)
    rw[zfo hlt,hone,yj]
    refine enT Tryz.func197 Tryz.ntmps197 ?_
    have hU:=And.intro @hand (@hor)
    repeat'(first|refine goR ?_|refine zd fun K hK=>?_|refine zc ?_ ?_<;>intro hcd<;>(try simp only[hcP]at hcd)<;>try exact cdT|refine y1c ?_|(refine zj (f:=221) rfl Tryz.call221 (h:=AEq.pure' agT (zju _ (by assumption) (by assumption)) (hq:=?_)))|((refine zo [0] (by rw[Tryz.results197,Lf.ym]) (zF ?_ ?_) ?_)<;>(try exact uT))|refine hK _ _ ?_;clear hK K)
  · obtain ⟨hor, hle⟩ := zbJ (n := pwI b - 1) h1 h8 hf h0 h255 (by omega) (by omega)
    have hone:=za7 (x:=f+(pwI b-1)) (by omega) (by omega)
    have hol1:=yj (f+(pwI b-1))
    rw[zfp hlt]
    rw[show f+pwI b-1=f+(pwI b-1)from by omega]
    obtain⟨tot,htot⟩:∃l,zas (f+(pwI b-1))++zb8 4 (n-(pwI b-1))=l:=⟨_,rfl⟩
    rw[htot]
    refine enT Tryz.func197 Tryz.ntmps197 ?_
    have hU:=And.intro @hand (@hor)
    repeat'(first|refine goR ?_|refine zd fun K hK=>?_|refine zc ?_ ?_<;>intro hcd<;>(try simp only[hcP]at hcd)<;>try exact cdT|refine y1c ?_|(refine zj (f:=221) rfl Tryz.call221 (h:=AEq.pure' agT (zju _ (by assumption) (by assumption)) (hq:=?_)))|refine hK _ _ ?_;clear hK K)
    refine zO [2,10,57,58,59,60,61,62,63,64,65,66,67] (fun s:List UInt8×Nat×Int=>[(10,.row 0 (s.1.length-1)),(2,i64 s.2.2)]) (fun s=>[.row (s.1.length-1) 5 1 (s.1.map zk)]) (fun s=>s.2.1<=4/\0<=s.2.2/\s.2.2<=4294967295/\s.2.2<128 ^ (s.2.1+1)/\s.1.length+s.2.1=5/\s.1++zb8 s.2.1 s.2.2=tot) (fun s=>s.2.1) (zas (f+(pwI b-1)),4,n-(pwI b-1)) ⟨Nat.le_refl _,by dsimp only;omega,by dsimp only;omega,by dsimp only;omega,by dsimp only;omega,htot⟩ ?_ (by dsimp only;rw[hone,hol1]) ?_
    · dsimp only
      rw[hol1]
      have hU:=True.intro
      (refine⟨⟨_,sT,?_⟩,⟨_,sT,?_⟩,trivial⟩<;>(try exact zu))
    · rintro⟨o,k,m⟩ ⟨hk,hm0,hm1,hm2,hol,hot⟩
      dsimp only at hk hm0 hm1 hm2 hol hot ⊢
      simp only[yN,List.map_cons,List.map_nil,List.cons_append,List.nil_append]
      by_cases hge:m<128
      · rw[zjs hge]at hot
        have hon:=za7 hm0 (by omega)
        have hapt:List.map zk o++[[AV.lit (.int .u8 m)]]=List.map zk tot:=by rw[<-hot,List.map_append,hon]
        have hln:tot.length-1=o.length-1+1:=by rw[<-hot,List.length_append,yj];omega
        have hU:=@hapt
        repeat'(first|refine goS ?_|refine zd fun K hK=>?_|refine zc ?_ ?_<;>intro hcd<;>(try simp only[hcP]at hcd)<;>try exact cdT|((refine zo [0] (by rw[Tryz.results197,Lf.ym]) (zF ?_ ?_) ?_)<;>(try exact uT))|refine hK _ _ ?_;clear hK K|(apply_assumption (exfalso:=false) (symm:=false)))
        all_goals first|exact yo (by rw[hln])|(rw[hln];exact stq rfl)|trace_state
      · obtain⟨k,rfl⟩:∃j,k=j+1:=⟨k-1,by
          cases k with
          | zero=>simp at hm2;omega
          | succ k=>rfl⟩
        rw[zjt hge,<-List.append_assoc]at hot
        rw[Int.pow_succ]at hm2
        have h127:jV .i64 m 127=m % 128:=by
          have:=zfn (b:=7) (n:=m) (by decide) (by decide) hm0 (by omega)
          rw[zmH]at this;exact this
        have h128:ior .i64 (m % 128) 128=128+m % 128:=by
          have:=(zbJ (b:=7) (f:=128) (n:=m % 128) (by decide) (by decide) (by rw[zmH];decide) (by decide) (by decide) (by omega) (by rw[zmH];omega)).1
          rw[zmG];exact this
        have hon:=za7 (x:=128+m % 128) (by omega) (by omega)
        have hapl:List.map zk o++[[AV.lit (.int .u8 (128+m % 128))]]=List.map zk (o++zas (128+m % 128)):=by rw[List.map_append,hon]
        have hln:(o++zas (128+m % 128)).length=o.length+1:=by rw[List.length_append,yj]
        have hln2:o.length-1+1=o.length+1-1:=by omega
        have hU:=And.intro @h127 ( And.intro @h128 (@hapl))
        repeat'(first|refine goS ?_|refine zd fun K hK=>?_|refine zc ?_ ?_<;>intro hcd<;>(try simp only[hcP]at hcd)<;>try exact cdT|refine hK _ _ ?_;clear hK K|(dsimp only[Lf.yk,Lf.yJ]))
        refine⟨(o++zas (128+m % 128),k,m / 128),⟨by dsimp only;omega,by dsimp only;omega,by dsimp only;omega,by dsimp only;omega,by dsimp only;rw[hln];omega,hot⟩,by dsimp only;omega,?_,arT,?_⟩
        · dsimp only
          rw[hln,<-hln2]
          (refine⟨⟨_,sT,?_⟩,⟨_,sT,?_⟩,trivial⟩<;>(try exact zu))
        · dsimp only
          rw[hln,<-hln2]
end
section
@[go_sem] theorem zx6{i:Nat}{r:List Operand}: tl (.global i::r)=tl r:=rfl
def vP(x:Int): Int:=if 128<=x then 1 else if 64<=x then 2 else if 32<=x then 5 else if 16<=x then 4 else 3
def frI(k:Int): Int:=if k=1 then 128 else if k=2 then 64 else if k=5 then 32 else if k=4 then 16 else 0
def biI(k:Int): Int:=if k=1 then 7 else if k=2 then 6 else if k=5 then 5 else 4
def txB(k:Int): Bool:=k == 2 || k == 3 || k == 4
def wiB(n:Int): Bool:=decide (0<=n) && decide (n<=2147483647)
def bM(x:Int)(k:Nat): Int:=if k<=1 then 3 else if 128<=x then 1 else if k=2 then 3 else if 64<=x then 2 else if k<=4 then 3 else if k=5 then(if 16<=x then 4 else 3)else if 32<=x then 5 else if 16<=x then 4 else 3
theorem zEt(x:Int): bM x 6=vP x:=by
 unfold bM vP
 simp
theorem kst(x:Int)(k:Nat)(h0:0<=x)(h1:x<=255)(hk1:1<=k)(hk:k<=5): (k=1/\bM x k=3/\(128<=x/\x<256)/\bM x (k+1)=1)\/(k=1/\bM x k=3/\(0<=x/\x<128)/\bM x (k+1)=3)\/(k=2/\bM x k=1/\(128<=x/\x<256)/\bM x (k+1)=1)\/(k=2/\bM x k=3/\(64<=x/\x<128)/\bM x (k+1)=2)\/(k=2/\bM x k=3/\(0<=x/\x<64)/\bM x (k+1)=3)\/(k=3/\bM x k=1/\(128<=x/\x<256)/\bM x (k+1)=1)\/(k=3/\bM x k=2/\(64<=x/\x<128)/\bM x (k+1)=2)\/(k=3/\bM x k=3/\(0<=x/\x<64)/\bM x (k+1)=3)\/(k=4/\bM x k=1/\(128<=x/\x<256)/\bM x (k+1)=1)\/(k=4/\bM x k=2/\(64<=x/\x<128)/\bM x (k+1)=2)\/(k=4/\bM x k=3/\(16<=x/\x<64)/\bM x (k+1)=4)\/(k=4/\bM x k=3/\(0<=x/\x<16)/\bM x (k+1)=3)\/(k=5/\bM x k=1/\(128<=x/\x<256)/\bM x (k+1)=1)\/(k=5/\bM x k=2/\(64<=x/\x<128)/\bM x (k+1)=2)\/(k=5/\bM x k=4/\(32<=x/\x<64)/\bM x (k+1)=5)\/(k=5/\bM x k=4/\(16<=x/\x<32)/\bM x (k+1)=4)\/(k=5/\bM x k=3/\(0<=x/\x<16)/\bM x (k+1)=3):=by
 have hk':k=1\/k=2\/k=3\/k=4\/k=5:=by omega
 unfold bM
 rcases hk' with rfl|rfl|rfl|rfl|rfl
 all_goals
  by_cases a:128<=x
  ·simp[a];try omega
  ·by_cases b:64<=x
   ·simp[a,b];try omega
   ·by_cases c:32<=x
    ·have d : 16 <= x := by omega
     simp[a,b,c,d];try omega
    ·by_cases d:16<=x
     ·simp[a,b,c,d];try omega
     ·simp[a,b,c,d];try omega
theorem dleT{a b:Int}(h:a<=b): decide (a<=b)=true:=decide_eq_true h
theorem dleF{a b:Int}(h:¬a<=b): decide (a<=b)=false:=decide_eq_false h
attribute [local irreducible] bM vP
theorem zhQ(x:Int)(h0:0<=x)(h1:x<=255): AEq Tryz.prog 211 [.lit (.int .u8 x)] [] (i64 (vP x)) []:=by
 refine enT Tryz.func211 Tryz.ntmps211 ?_
 have hU:=True.intro
 repeat'(first|refine goR ?_|refine zd fun K hK=>?_|refine hK _ _ ?_;clear hK K)
 refine zO [3,4,5,6,7,8,9,10,11,12,13,14,15,16,17,18,19,20,21,22,23,24,25,26,27] (fun s:Nat×Int=>[(4,i64 s.1),(3,i64 s.2)]) (fun s=>[]) (fun s=>1<=s.1/\s.1<=6/\s.2=bM x s.1) (fun s=>6-s.1) (1,3) ⟨by decide,by decide,by unfold bM;rfl⟩ ?_ rfl ?_
 ·dsimp only
  (refine⟨⟨_,sT,?_⟩,⟨_,sT,?_⟩,trivial⟩<;>(try exact zu))
 ·rintro⟨k,b⟩ ⟨hk1,hk6,hb⟩
  dsimp only at hk1 hk6 hb ⊢
  subst hb
  simp only[yN,List.map_cons,List.map_nil,List.cons_append,List.nil_append]
  by_cases h6:k=6
  ·subst h6
   rw[zEt]
   repeat'(first|refine goR ?_|refine zd fun K hK=>?_|refine zc ?_ ?_<;>intro hcd<;>(try simp only[hcP]at hcd)<;>try exact cdT|((refine zo [] (by rw[Tryz.results211,Lf.zI]) (zw ?_) ?_)<;>(try exact uT))|refine hK _ _ ?_;clear hK K|(apply_assumption (exfalso:=false) (symm:=false)))
  rcases kst x k h0 h1 hk1 (by omega)with⟨rfl,e,c,e2⟩|⟨rfl,e,c,e2⟩|⟨rfl,e,c,e2⟩|⟨rfl,e,c,e2⟩|⟨rfl,e,c,e2⟩|⟨rfl,e,c,e2⟩|⟨rfl,e,c,e2⟩|⟨rfl,e,c,e2⟩|⟨rfl,e,c,e2⟩|⟨rfl,e,c,e2⟩|⟨rfl,e,c,e2⟩|⟨rfl,e,c,e2⟩|⟨rfl,e,c,e2⟩|⟨rfl,e,c,e2⟩|⟨rfl,e,c,e2⟩|⟨rfl,e,c,e2⟩|⟨rfl,e,c,e2⟩
  all_goals rw[e]
  all_goals(have hU:=And.intro @dleT (@dleF))
  all_goals(repeat'(first|refine goR ?_|refine zd fun K hK=>?_|refine y7 ?_|refine zc ?_ ?_<;>intro hcd<;>(try simp only[hcP]at hcd)<;>try exact cdT|(guard_target =~ dg _ _ _ _ _ _ _;first|(guard_target =~ dg _ _ _ (⟨_,.indexAddr _ _ _,_,_,_,some _⟩::_) _ _ _;(refine vz (x:=_) (h:=zeT (h:=zz rfl (hK:=zl ⟨rfl,rfl⟩))) (hk:=?_)))|(guard_target =~ dg _ _ _ (⟨_,.indexAddr _ _ _,_,_,_,none⟩::_) _ _ _;(refine vz (x:=_) (h:=zH (h:=zz rfl (hK:=zl ⟨rfl,rfl⟩))) (hk:=?_))))|refine hK _ _ ?_;clear hK K))
  all_goals(have hU:=True.intro)
  all_goals(refine⟨(_,_),⟨?_,?_,e2.symm⟩,?_,?_,arT,srT⟩)
  all_goals dsimp only
  all_goals first|omega|((refine⟨⟨_,sT,?_⟩,⟨_,sT,?_⟩,trivial⟩<;>(try exact zu)))|trace_state
theorem kF(k:Int): AEq Tryz.prog 198 [i64 k] [] (bl (txB k)) []:=by
 refine enT Tryz.func198 Tryz.ntmps198 ?_
 have hU:=True.intro
 repeat'(first|refine goR ?_|refine zd fun K hK=>?_|((refine zo [] (by rw[Tryz.results198,Lf.zI]) (zw ?_) ?_)<;>(try exact uT))|refine hK _ _ ?_;clear hK K)
 all_goals exact yo rfl
theorem zp6(n:Int): AEq Tryz.prog 220 [i64 n] [] (bl (wiB n)) []:=by
 refine enT Tryz.func220 Tryz.ntmps220 ?_
 have hU:=True.intro
 repeat'(first|refine goR ?_|refine zd fun K hK=>?_|((refine zo [] (by rw[Tryz.results220,Lf.zI]) (zw ?_) ?_)<;>(try exact uT))|refine hK _ _ ?_;clear hK K)
 all_goals exact yo rfl
end
theorem zjv(l:List UInt8): ((⟨l.toArray⟩:ByteArray).toList == (⟨#[]⟩:ByteArray).toList)=decide (l=[]):=by
 rw[ByteArray.toList_eq,ByteArray.toList_eq]
 cases l<;>simp
def RP(k i:Int)(nm:List UInt8)(ns:Bool)(vl:List UInt8)(vs:Bool)(sz:Int): Prop:=
 (1<=k/\k<=5)/\(0<=i/\i<=2147483647)/\(0<=sz/\sz<=2147483647)/\((k=5/\i=0/\(nm=[]/\ns=false)/\(vl=[]/\vs=false))\/(k=1/\sz=0/\0<i/\(nm=[]/\ns=false)/\(vl=[]/\vs=false))\/(k≠5/\k≠1/\sz=0/\(i=0\/(nm=[]/\ns=false))))
instance (k i:Int) (nm:List UInt8) (ns:Bool) (vl:List UInt8) (vs:Bool) (sz:Int):Decidable (RP k i nm ns vl vs sz):=by unfold RP;exact inferInstance
def rOk(k i:Int)(nm:List UInt8)(ns:Bool)(vl:List UInt8)(vs:Bool)(sz:Int): Bool:=decide (RP k i nm ns vl vs sz)
theorem zaH(k i:Int)(nm:List UInt8)(ns:Bool)(vl:List UInt8)(vs:Bool)(sz:Int): AEq Tryz.prog 196 [.ag [i64 k,i64 i,.lit (.string ⟨nm.toArray⟩),bl ns,.lit (.string ⟨vl.toArray⟩),bl vs,i64 sz]] [] (bl (rOk k i nm ns vl vs sz)) []:=by
 have hn:=zjv nm
 have hv:=zjv vl
 have hwi:wiB i=(decide (0<=i) && decide (i<=2147483647)):=rfl
 have hwz:wiB sz=(decide (0<=sz) && decide (sz<=2147483647)):=rfl
 refine enT Tryz.func196 Tryz.ntmps196 ?_
 have hU:=And.intro @hn ( And.intro @hv ( And.intro @hwi (@hwz)))
 repeat'(first|refine goR ?_|refine zd fun K hK=>?_|refine zc ?_ ?_<;>intro hcd<;>(try simp only[hcP]at hcd)<;>try exact cdT|(guard_target =~ rg _ _ _ (⟨_,_,_,_,_,some _⟩::_) _ _ _;(first|refine zP gT (fun hcd=>?_) (fun hcd=>?_)|refine zK gT (fun hcd=>?_) (fun hcd=>?_))<;>(try simp only[hcd])<;>(try(simp only[Bool.not_eq_true',Bool.not_eq_false']at hcd;try simp only[hcd]))<;>(refine kC (Γ2:=_) ewT ?_)<;>(try simp only[hcP]at hcd)<;>(try exact cdT))|(guard_target =~ SOp _ _ ⟨_,.binOp _ _ _ _ _,_,_,_,none⟩ _ _ _;refine zS (ne:=false) rfl (by first|exact ztF|exact ztG|fail) (hc:=rfl) (hK:=?_))|(guard_target =~ SOp _ _ ⟨_,.binOp _ _ _ _ _,_,_,_,some _⟩ _ _ _;refine zS (ne:=false) rfl (by first|exact ztF|exact ztG|fail) (hc:=rfl) (hK:=?_))|(refine zj (f:=220) rfl Tryz.call220 (h:=AEq.pure' agT (zp6 _) (hq:=?_)))|((refine zo [] (by rw[Tryz.results196,Lf.zI]) (zw ?_) ?_)<;>(try exact uT))|refine hK _ _ ?_;clear hK K)
 all_goals first|exact zJ (by unfold rOk RP;grind)|trace_state
def zgo(n:Int): Int:=if n=1 then 255 else if n=2 then 65535 else if n=3 then 16777215 else if n=4 then 4294967295 else 0
theorem zn0(n:Int)(h:¬(1<=n/\n<=4)): AEq Tryz.prog 194 [i64 n] [] (.tu [i64 0,bl false]) []:=by
 refine enT Tryz.func194 Tryz.ntmps194 ?_
 have hU:=True.intro
 exact wm
theorem zbK(n:Int)(h1:1<=n)(h2:n<=4): AEq Tryz.prog 194 [i64 n] [] (.tu [i64 (zgo n),bl true]) []:=by
 have h:n=1\/n=2\/n=3\/n=4:=by omega
 clear h1 h2
 rcases h with rfl|rfl|rfl|rfl
 all_goals
  refine enT Tryz.func194 Tryz.ntmps194 ?_
  have hU:=True.intro
  exact wm
def kG(l:List UInt8): Int:=l.foldl (fun n x=>n*256+(x.toNat:Int)) 0
theorem zjw(l:List UInt8)(x:UInt8): kG (l++[x])=kG l*256+(x.toNat:Int):=by simp[kG]
theorem zp7(l:List UInt8): 0<=kG l/\kG l<256 ^ l.length:=by
 have key:∀(l:List UInt8) (n:Int),0<=n->n*256 ^ l.length<=l.foldl (fun n x=>n*256+(x.toNat:Int)) n/\l.foldl (fun n x=>n*256+(x.toNat:Int)) n<(n+1)*256 ^ l.length:=by
  intro l
  induction l with
  | nil=>intro n hn;simp;omega
  | cons x l ih=>
   intro n hn
   have hx:x.toNat<256:=x.toNat_lt
   have:=ih (n*256+(x.toNat:Int)) (by omega)
   simp only[List.foldl_cons,List.length_cons]
   have hp:(256:Int) ^ (l.length+1)=256*256 ^ l.length:=by rw[Int.pow_succ,Int.mul_comm]
   have hpos:(0:Int)<256 ^ l.length:=Int.pow_pos (by decide)
   rw[hp]
   constructor
   ·refine Int.le_trans ?_ this.1
    rw[<-Int.mul_assoc]
    exact Int.mul_le_mul_of_nonneg_right (by omega) (by omega)
   ·refine Int.lt_of_lt_of_le this.2 ?_
    rw[<-Int.mul_assoc]
    exact Int.mul_le_mul_of_nonneg_right (by omega) (by omega)
 have:=key l 0 (by omega)
 simpa[kG]using this
theorem zp8{l:List UInt8}(h:l.length<=3): 0<=kG l/\kG l<16777216:=by
 have:=zp7 l
 rcases(show l.length=0\/l.length=1\/l.length=2\/l.length=3 by omega)with h|h|h|h<;>rw[h]at this<;>omega
theorem zp9{a:Int}{x:UInt8}(h0:0<=a/\a<16777216): ior .i64 (a*256) (x.toNat:Int)=a*256+(x.toNat:Int):=by
 show IntKind.i64.wrap ((BitVec.ofInt 64 (a*256) ||| BitVec.ofInt 64 (x.toNat:Int)).toNat:Int)=_
 obtain⟨n,rfl⟩:=Int.eq_ofNat_of_zero_le h0.1
 have hx:x.toNat<256:=x.toNat_lt
 have hn:n<16777216:=by omega
 have e1:BitVec.ofInt 64 ((n:Int)*256)=BitVec.ofNat 64 (n*256):=by
  rw[show((n:Int)*256)=((n*256:Nat):Int)from by simp];rfl
 have e2:BitVec.ofInt 64 (x.toNat:Int)=BitVec.ofNat 64 x.toNat:=rfl
 rw[e1,e2,BitVec.toNat_or,BitVec.toNat_ofNat,BitVec.toNat_ofNat,Nat.mod_eq_of_lt (by omega),Nat.mod_eq_of_lt (by omega)]
 have e3:n*256 ||| x.toNat=n*256+x.toNat:=by
  have:=Nat.two_pow_add_eq_or_of_lt (i:=8) (b:=x.toNat) (by omega) n
  rw[Nat.mul_comm n 256]
  exact this.symm
 rw[e3]
 have:=w64 (n:=((n*256+x.toNat:Nat):Int)) (by omega)
 rw[this]
 simp
theorem zqa(b:AV)(n:Int)(h:¬(1<=n/\n<=4)): AEq Tryz.prog 184 [b,i64 n] [] (.tu [i64 0,i64 1]) []:=by
 refine enT Tryz.func184 Tryz.ntmps184 ?_
 have hU:=True.intro
 repeat'(first|refine goR ?_|refine zd fun K hK=>?_|refine zc ?_ ?_<;>intro hcd<;>(try simp only[hcP]at hcd)<;>try exact cdT|(refine zj (f:=194) rfl Tryz.call194 (h:=AEq.pure' (hc:=zn0 _ (by assumption)) (hq:=?_)))|((refine zo [] (by rw[Tryz.results184,Lf.ym]) (zF ?_ ?_) ?_)<;>(try exact uT))|refine hK _ _ ?_;clear hK K)
theorem zjx(f q:Bool)(b:List UInt8)(n:Int)(h1:1<=n)(h2:n<=4)(hn:b.length<n): AEq Tryz.prog 184 [.sl f q (b.map zk),i64 n] [] (.tu [i64 0,i64 3]) []:=by
 refine enT Tryz.func184 Tryz.ntmps184 ?_
 have hU:=True.intro
 repeat'(first|refine goR ?_|refine zd fun K hK=>?_|refine zc ?_ ?_<;>intro hcd<;>(try simp only[hcP]at hcd)<;>try exact cdT|refine y1d ?_|((refine zo [] (by rw[Tryz.results184,Lf.ym]) (zF ?_ ?_) ?_)<;>(try exact uT))|refine hK _ _ ?_;clear hK K)
theorem zqb(f q:Bool)(b:List UInt8)(n:Int)(h1:1<=n)(h2:n<=4)(hn:n<=b.length)(hb:b.length<=4000000000000000000): AEq Tryz.prog 184 [.sl f q (b.map zk),i64 n] [] (.tu [i64 (kG (b.take n.toNat)),i64 0]) []:=by
 refine enT Tryz.func184 Tryz.ntmps184 ?_
 have hU:=@zp9
 repeat'(first|refine goR ?_|refine zd fun K hK=>?_|refine zc ?_ ?_<;>intro hcd<;>(try simp only[hcP]at hcd)<;>try exact cdT|(guard_target =~ SOp _ _ ⟨_,.slice _ _ _ _ _,_,_,_,none⟩ _ _ _;refine z8 rfl (hg:=(fun _=>gT)) (hK:=?_))|refine y1d ?_|refine hK _ _ ?_;clear hK K)
 obtain⟨c,hc⟩:∃c,c=b.take n.toNat:=⟨_,rfl⟩
 have hcl:(c.length:Int)=n:=by rw[hc,List.length_take];omega
 rw[<-hc]
 refine zO [8,10,26,27,28,29,30,31,32,33,34,35] (fun i:Nat=>[(8,i64 (kG (c.take i))),(26,i64 i)]) (fun _=>[]) (fun i=>i<=c.length) (fun i=>c.length-i) 0 (Nat.zero_le _) ?_ rfl ?_
 ·(refine⟨⟨_,sT,?_⟩,⟨_,sT,?_⟩,trivial⟩<;>(try exact zu))
 ·intro i hi
  simp only[yN,List.map_cons,List.map_nil,List.cons_append,List.nil_append]
  have hb:=zp8 (l:=c.take (min i 3)) (by simp;omega)
  by_cases hlt:i<c.length
  ·obtain⟨x,hx⟩:∃x,c[i]?=some x:=⟨c[i],List.getElem?_eq_getElem hlt⟩
   have hm:min i 3=i:=by omega
   rw[hm]at hb
   have hxb:x.toNat<256:=x.toNat_lt
   have hs:=zjw (c.take i) x
   rw[<-vq hx]at hs
   repeat'(first|refine goR ?_|refine zd fun K hK=>?_|refine zc ?_ ?_<;>intro hcd<;>(try simp only[hcP]at hcd)<;>try exact cdT|refine hK _ _ ?_;clear hK K)
   refine⟨i+1,by omega,by omega,?_,arT,rfl⟩
   (refine⟨⟨_,sT,?_⟩,⟨_,sT,?_⟩,trivial⟩<;>(try exact zu))
   exact yo (by rw[hs])
  ·repeat' (first | (refine goR ?_) | (refine zd (fun K hK => ?_)) | ((refine zc (fun hcd => ?_) (fun hcd => ?_)) <;> (try simp only [hcP] at hcd) <;> (try exact cdT)) | ((refine zo [] (by rw [Tryz.results184, Lf.ym]) (zF ?_ ?_) ?_) <;> (try (first | exact zu | exact stT))) | (refine hK _ _ ?_; clear hK K) | (apply_assumption (exfalso := false) (symm := false)))
   rw[List.take_of_length_le (by omega),hc]
   exact yo rfl
def okS(n:Int): Bool:=decide (1<=n) && decide (n<=4)
def z4(b:List UInt8)(n:Int): Int:=if okS n=true/\n<=b.length then kG (b.take n.toNat)else 0
def zdj(b:List UInt8)(n:Int): Int:=if okS n=false then 1 else if(b.length:Int)<n then 3 else 0
theorem vE{n:Int}(h:1<=n/\n<=4): okS n=true:=by simp[okS,h.1,h.2]
theorem zjy{n:Int}(h:¬(1<=n/\n<=4)): okS n=false:=by
 simp only[okS,Bool.and_eq_false_iff,decide_eq_false_iff_not];omega
theorem zun(f q:Bool)(b:List UInt8)(n:Int)(hb:b.length<=4000000000000000000): AEq Tryz.prog 184 [.sl f q (b.map zk),i64 n] [] (.tu [i64 (z4 b n),i64 (zdj b n)]) []:=by
 by_cases h:1<=n/\n<=4
 ·by_cases h2:n<=b.length
  ·have:=zqb f q b n h.1 h.2 h2 hb
   rw[show z4 b n=kG (b.take n.toNat)from if_pos ⟨vE h,h2⟩,show zdj b n=0 by simp only[zdj,vE h];rw[if_neg (by simp),if_neg (by omega)]]
   exact this
  ·have := zjx f q b n h.1 h.2 (by omega)
   rw[show z4 b n=0 from if_neg (fun x=>h2 x.2),show zdj b n=3 by simp only[zdj,vE h];rw[if_neg (by simp),if_pos (by omega)]]
   exact this
 ·have:=zqa (.sl f q (b.map zk)) n h
  rw[show z4 b n=0 from if_neg (fun x=>by rw[zjy h]at x;cases x.1),show zdj b n=1 by simp[zdj,zjy h]]
  exact this
def je: Nat->Int
 | 0=>1
 | k+1=>256*je k
theorem zdk(k:Nat)(h:k<=4): 1<=je k/\je k<=4294967296:=by
 rcases(show k=0\/k=1\/k=2\/k=3\/k=4 by omega)with h|h|h|h|h<;>subst h<;>decide
end Go.Proofs.YtdalcgfnlbofdaaGreatDoor
