import Derived.Test.YtdalcgfnlbofdaaGreatDoorZ01
import Derived.Shelf.RegionOpenPlain
import Derived.WalkKit
import Derived.Deep.RegionLaw
import Derived.Lib.SliceRun
set_option linter.unusedVariables false
set_option linter.unusedSimpArgs false
namespace Go.Proofs.YtdalcgfnlbofdaaGreatDoor
open Go Go.Lf Go.Proofs
attribute [local irreducible] Lf.rg Lf.ro Lf.PWp Lf.SOp Lf.ACall Lf.Scoped Lf.dg Lf.dw
set_option maxRecDepth 20000
set_option maxHeartbeats 4000000
section
structure Bk where
 (codes:List Int) (o:AV) (first count base:List Int)
def nA(n:Int): AV:=i64 n
def bkA(b:Bk): List AV:=bl true::(b.codes.map nA++b.o::(b.first.map nA++(b.count.map nA++b.base.map nA)))
structure WfB(b:Bk): Prop where
 c:b.codes.length=257
 f:b.first.length=31
 n:b.count.length=31
 b:b.base.length=31
theorem zbC{b:Bk}(h:WfB b): (bkA b).length=352:=by
 obtain⟨h1,h2,h3,h4⟩:=h
 unfold bkA;simp[h1,h2,h3,h4]
theorem zbD{α:Type}(a c:List AV)(k:Nat)(v:AV): putCells (a++c) (a.length+k) [v]=a++putCells c k [v]:=by
 unfold putCells
 rw[List.take_append,List.drop_append,List.take_of_length_le (by omega),show a.length+k-a.length=k from by omega,List.drop_of_length_le (by simp;omega),List.nil_append]
 simp only[List.append_assoc,List.length_cons,List.length_nil]
 congr 4;omega
theorem zdb(l:List Int)(k:Nat)(r:List AV)(v:Int)(h:k<l.length): putCells (l.map nA++r) k [nA v]=(l.set k v).map nA++r:=by
 unfold putCells
 rw[List.take_append_of_le_length (by simp;omega),List.drop_append_of_le_length (by simp;omega),List.map_set,List.set_eq_take_append_cons_drop,if_pos (by simpa using h)]
 simp
theorem zmi{b:Bk}(h:WfB b){n:Nat}(hn:n<31)(v:Int): putCells (bkA b) (290+n) [nA v]=bkA { b with count:=b.count.set n v }:=by
 obtain⟨h1,h2,h3,h4⟩:=h
 have e:bkA b=(bl true::(b.codes.map nA++b.o::b.first.map nA))++(b.count.map nA++b.base.map nA):=by unfold bkA;simp
 have hl:(bl true::(b.codes.map nA++b.o::b.first.map nA)).length=290:=by simp[h1,h2]
 rw[e,<-hl,zbD (α:=Nat),zdb _ _ _ _ (by omega)]
 unfold bkA;simp
theorem zbE{b:Bk}(h:WfB b){n:Nat}{v:Int}(hv:b.count[n]?=some v): (bkA b)[290+n]?=some (nA v):=by
 obtain⟨h1,h2,h3,h4⟩:=h
 have e:bkA b=(bl true::(b.codes.map nA++b.o::b.first.map nA))++(b.count.map nA++b.base.map nA):=by unfold bkA;simp
 have hl:(bl true::(b.codes.map nA++b.o::b.first.map nA)).length=290:=by simp[h1,h2]
 have hn:n<b.count.length:=(List.getElem?_eq_some_iff.1 hv).1
 rw[e,<-hl,List.getElem?_append_right (by omega),show ∀m:Nat,m+n-m=n from fun m=>by omega,List.getElem?_append_left (by simpa using hn),List.getElem?_map,hv];rfl
def cntN(k:Nat)(n:Nat): Int:=(((List.range k).filter (fun s:Nat=>decide (szI (s:Int)=(n:Int)))).length:Int)
theorem zfd{k n:Nat}(h:k<=257): 0<=cntN k n/\cntN k n<=257:=by
 unfold cntN
 have:=List.length_filter_le (fun s:Nat=>decide (szI (s:Int)=(n:Int))) (List.range k)
 rw[List.length_range]at this
 omega
def zcf(k:Nat): List Int:=(List.range 31).map (cntN k)
theorem jX(k n:Nat): cntN (k+1) n=cntN k n+if szI (k:Int)=n then 1 else 0:=by
 unfold cntN
 rw[List.range_succ,List.filter_append,List.length_append]
 by_cases h:szI (k:Int)=n
 ·simp[h]
 ·simp[h]
theorem zmj(k n:Nat)(hn:n<31)(h:szI (k:Int)=n): (zcf k).set n (cntN k n+1)=zcf (k+1):=by
 apply List.ext_getElem?
 intro i
 unfold zcf
 by_cases hi:i<31
 ·by_cases e:i=n
  ·subst e
   rw[List.getElem?_set_self (by simpa using hi),List.getElem?_map,List.getElem?_range hi,Option.map_some,jX,if_pos h]
  ·rw[List.getElem?_set_ne (fun c=>e c.symm),List.getElem?_map,List.getElem?_map,List.getElem?_range hi,Option.map_some,Option.map_some,jX,if_neg (by rw[h];omega),Int.add_zero]
 ·rw[List.getElem?_eq_none (by simp;omega),List.getElem?_eq_none (by simp;omega)]
def zvY: List Int:=List.replicate 257 0
def z31: List Int:=List.replicate 31 0
def b1(k:Nat): Bk:=⟨zvY,.sl true false [],z31,zcf k,z31⟩
theorem ziZ(k:Nat): WfB (b1 k):=⟨by simp[b1,zvY],by simp[b1,z31],by simp[b1,zcf],by simp[b1,z31]⟩
theorem zmk{b:Bk}(h:WfB b){n:Nat}(hn:n<257)(v:Int): putCells (bkA b) (1+n) [nA v]=bkA { b with codes:=b.codes.set n v }:=by
 obtain⟨h1,h2,h3,h4⟩:=h
 have e:bkA b=[bl true]++(b.codes.map nA++(b.o::(b.first.map nA++(b.count.map nA++b.base.map nA)))):=by unfold bkA;simp
 have hl:([bl true]:List AV).length=1:=rfl
 rw[e,<-hl,zbD (α:=Nat),zdb _ _ _ _ (by omega)]
 unfold bkA;simp
theorem zEf{b:Bk}(h:WfB b)(x:AV): putCells (bkA b) 258 [x]=bkA { b with o:=x }:=by
 obtain⟨h1,h2,h3,h4⟩:=h
 have e:bkA b=(bl true::b.codes.map nA)++(b.o::(b.first.map nA++(b.count.map nA++b.base.map nA))):=by unfold bkA;simp
 have hl:(bl true::b.codes.map nA).length=258:=by simp[h1]
 rw[e,show(258:Nat)=(bl true::b.codes.map nA).length+0 from by rw[hl],zbD (α:=Nat)]
 unfold bkA putCells;simp
theorem zdc{b:Bk}(h:WfB b): (bkA b)[258]?=some b.o:=by
 obtain⟨h1,h2,h3,h4⟩:=h
 have e:bkA b=(bl true::b.codes.map nA)++(b.o::(b.first.map nA++(b.count.map nA++b.base.map nA))):=by unfold bkA;simp
 have hl:(bl true::b.codes.map nA).length=258:=by simp[h1]
 rw[e,List.getElem?_append_right (by omega),hl];rfl
theorem zml{b:Bk}(h:WfB b){x:AV}: (bkA b).set 258 x=bkA { b with o:=x }:=by
 have h1:=h.c
 have hl:(b.codes.map nA).length=257:=by simp[h1]
 unfold bkA
 rw[List.set_cons_succ,List.set_append_right _ _ (by omega),hl];rfl
theorem zmm{b:Bk}(h:WfB b){n:Nat}(hn:n<31)(v:Int): putCells (bkA b) (259+n) [nA v]=bkA { b with first:=b.first.set n v }:=by
 obtain⟨h1,h2,h3,h4⟩:=h
 have e:bkA b=(bl true::(b.codes.map nA++[b.o]))++(b.first.map nA++(b.count.map nA++b.base.map nA)):=by unfold bkA;simp
 have hl:(bl true::(b.codes.map nA++[b.o])).length=259:=by simp[h1]
 rw[e,<-hl,zbD (α:=Nat),zdb _ _ _ _ (by omega)]
 unfold bkA;simp
theorem zpI{b:Bk}(h:WfB b){n:Nat}(hn:n<31)(v:Int): putCells (bkA b) (321+n) [nA v]=bkA { b with base:=b.base.set n v }:=by
 obtain⟨h1,h2,h3,h4⟩:=h
 have e:bkA b=(bl true::(b.codes.map nA++b.o::(b.first.map nA++b.count.map nA)))++(b.base.map nA++[]):=by unfold bkA;simp
 have hl:(bl true::(b.codes.map nA++b.o::(b.first.map nA++b.count.map nA))).length=321:=by simp[h1,h2,h3]
 rw[e,<-hl,zbD (α:=Nat),zdb _ _ _ _ (by omega)]
 unfold bkA;simp
theorem zxT{N:Nat}{f g:Nat->Int}{n:Nat}{v:Int}(hn:n<N)(hv:g n=v)(hg:∀i:Nat,¬i=n->f i=g i): ((List.range N).map f).set n v=(List.range N).map g:=by
 apply List.ext_getElem?
 intro i
 by_cases hi:i<N
 ·by_cases e:i=n
  ·subst e
   rw[List.getElem?_set_self (by simpa using hi),List.getElem?_map,List.getElem?_range hi,Option.map_some,hv]
  ·rw[List.getElem?_set_ne (fun c=>e c.symm),List.getElem?_map,List.getElem?_map,List.getElem?_range hi,Option.map_some,Option.map_some,hg i e]
 ·rw[List.getElem?_eq_none (by simp;omega),List.getElem?_eq_none (by simp;omega)]
def codeN: Nat->Int
 | 0=>0
 | n+1=>codeN n*2+cntN 257 n
theorem zge: ∀n:Fin 32,0<=codeN n.val/\codeN n.val<=4294967296:=by decide +kernel
def zdZ(n k:Nat): List Nat:=(List.range k).filter (fun s:Nat=>decide (szI (s:Int)=(n:Int)))
def ordN: Nat->List Nat
 | 0=>[]
 | n+1=>ordN n++zdZ n 257
theorem zmn: ∀n:Fin 32,(ordN n.val).length<=257:=by decide +kernel
theorem zbF(n k:Nat): zdZ n (k+1)=zdZ n k++if szI (k:Int)=n then[k]else[]:=by
 unfold zdZ
 rw[List.range_succ,List.filter_append]
 by_cases h:szI (k:Int)=n
 ·simp[h]
 ·simp[h]
theorem zpJ(n k:Nat): (zdZ n k).length<=k:=by
 unfold zdZ
 have:=List.length_filter_le (fun s:Nat=>decide (szI (s:Int)=(n:Int))) (List.range k)
 rwa [List.length_range]at this
def csI(s:Nat): Int:=codeN (szI (s:Int)).toNat*2+cntN s (szI (s:Int)).toNat
def yc(n k:Nat): List Int:=(List.range 257).map fun s:Nat=>if szI (s:Int)<n\/(szI (s:Int)=n/\s<k)then csI s else 0
def y8(n:Nat): List Int:=(List.range 31).map fun i:Nat=>if 1<=i/\i<n then codeN i*2 else 0
def jG(n:Nat): List Int:=(List.range 31).map fun i:Nat=>if 1<=i/\i<n then((ordN i).length:Int)else 0
@[go_sem] def zaR(s:Nat): List AV:=[i64 (s:Int)]
theorem zt5(n:Nat): zdZ n 0=[]:=rfl
theorem zt6(n:Nat): cntN 0 n=0:=rfl
theorem zpK{k n:Nat}(h:k<=257): 0<=cntN k n/\cntN k n<=257:=zfd h
@[go_sem] theorem zgf(l:List Nat): y9 (l.map zaR).flatten=true:=ze (fun a=>by simp[zaR,y9,pur]) l
@[go_sem] theorem zt7{κ:List Nat}{σ:Sto}(l:List Nat): List.map (fzl κ σ) (l.map zaR)=l.map zaR:=vc (fun _=>rfl) l
def b2(n k st m m2:Nat): Bk:=⟨yc n k,.row 1 st,y8 m,zcf 257,jG m2⟩
theorem zaS(n k st m m2:Nat): WfB (b2 n k st m m2):=⟨by simp[b2,yc],by simp[b2,y8],by simp[b2,zcf],by simp[b2,jG]⟩
@[go_sem] theorem zxU{σ:Sto}(n k st m m2:Nat): fzl [0,1] σ (bkA (b2 n k st m m2))=bkA (b2 n k st m m2):=by
 rw[jz]
 unfold bkA b2
 have h:∀l:List Int,(l.map nA).map (fz [0,1] σ)=l.map nA:=by
  intro l;rw[List.map_map];exact List.map_congr_left (fun _ _=>rfl)
 simp only[List.map_cons,List.map_append,h]
 rfl
theorem zhI{n:Nat}(h1:1<=n)(h:n<31): (y8 n).set n (codeN n*2)=y8 (n+1):=by
 unfold y8
 refine zxT h (if_pos ⟨h1,by omega⟩) (fun i hi=>?_)
 by_cases c:1<=i/\i<n
 ·rw[if_pos c,if_pos ⟨c.1,by omega⟩]
 ·rw[if_neg c,if_neg (by omega)]
theorem zi0{n:Nat}(h1:1<=n)(h:n<31): (jG n).set n ((ordN n).length:Int)=jG (n+1):=by
 unfold jG
 refine zxT h (if_pos ⟨h1,by omega⟩) (fun i hi=>?_)
 by_cases c:1<=i/\i<n
 ·rw[if_pos c,if_pos ⟨c.1,by omega⟩]
 ·rw[if_neg c,if_neg (by omega)]
theorem zhJ{n k:Nat}(hk:k<257)(h:szI (k:Int)=n): (yc n k).set k (codeN n*2+cntN k n)=yc n (k+1):=by
 unfold yc
 refine zxT hk ?_ (fun i hi=>?_)
 ·rw [if_pos (.inr ⟨h, by omega⟩)]
  unfold csI
  rw[h];rfl
 ·by_cases c:szI (i:Int)<n\/(szI (i:Int)=n/\i<k)
  ·rw[if_pos c,if_pos (by omega)]
  ·rw[if_neg c,if_neg (by omega)]
theorem zhK{n k:Nat}(h:¬szI (k:Int)=n): yc n (k+1)=yc n k:=by
 unfold yc
 apply List.map_congr_left
 intro i _
 by_cases e:i=k
 ·subst e
  by_cases c:szI (i:Int)<n
  ·rw[if_pos (.inl c),if_pos (.inl c)]
  ·rw[if_neg (by omega),if_neg (by omega)]
 ·by_cases c:szI (i:Int)<n\/(szI (i:Int)=n/\i<k)
  ·rw[if_pos c,if_pos (by omega)]
  ·rw[if_neg c,if_neg (by omega)]
theorem zfe(n:Nat): yc n 257=yc (n+1) 0:=by
 unfold yc
 apply List.map_congr_left
 intro i hi
 have hi:i<257:=by simpa using hi
 by_cases c:szI (i:Int)<n\/(szI (i:Int)=n/\i<257)
 ·rw[if_pos c,if_pos (by omega)]
 ·rw[if_neg c,if_neg (by omega)]
theorem zhL: yc 1 0=zvY:=by decide +kernel
theorem zhM: y8 1=z31:=by decide +kernel
theorem zi1: jG 1=z31:=by decide +kernel
theorem zgg: ordN 1=[]:=by decide +kernel
theorem zhN(n:Nat): codeN (n+1)=codeN n*2+cntN 257 n:=rfl
theorem zi2(n:Nat): ordN (n+1)=ordN n++zdZ n 257:=rfl
theorem zi3: (ordN 31).length=257:=by decide +kernel
theorem codeN_one: codeN 1=0:=by decide +kernel
attribute [local irreducible] bkA cntN codeN ordN zdZ yc y8 jG zcf
set_option maxRecDepth 20000 in
set_option maxHeartbeats 40000000 in
theorem zxV: AEq Tryz.prog 237 [] [] (.ptr 0 0) [.box (bkA (b2 31 0 257 31 31)),.row 257 3 1 ((ordN 31).map zaR)]:=by
 refine enT Tryz.func237 Tryz.ntmps237 ?_
 have hU:=True.intro
 repeat'(first|refine goR ?_|refine zd fun K hK=>?_|refine hK _ _ ?_;clear hK K)
 refine zO [2,8,9,10,11,12,13,14,15,16,17,18,19,20,21,22] (fun k:Nat=>[(8,i64 k)]) (fun k=>[.box (bkA (b1 k))]) (fun k=>k<=257) (fun k=>257-k) 0 (Nat.zero_le _) ?_ (by with_unfolding_all rfl) ?_
 ·(refine⟨⟨_,sT,?_⟩,trivial⟩<;>(try exact zu))
 ·rintro k hk
  simp only[yN,List.map_cons,List.map_nil,List.cons_append,List.nil_append]
  by_cases hlt:k<257
  ·have hsb := zgd (s := (k : Int)) (by omega) (by omega)
   obtain⟨n,hn⟩:∃n:Nat,szI (k:Int)=n:=⟨(szI (k:Int)).toNat,by omega⟩
   have hn31:n<31:=by omega
   have hcl:(zcf k)[n]?=some (cntN k n):=by unfold zcf;rw[List.getElem?_map,List.getElem?_range hn31];rfl
   have hget:(bkA (b1 k))[290+n*1]?=some (i64 (cntN k n)):=by rw[Nat.mul_one];exact zbE (ziZ k) hcl
   have hput:List.take (290+n*1) (bkA (b1 k))++[i64 (cntN k n+1)]++List.drop (290+n*1+1) (bkA (b1 k))=bkA (b1 (k+1)):=by
    rw[Nat.mul_one]
    refine(show _=putCells (bkA (b1 k)) (290+n) [nA (cntN k n+1)]from rfl).trans ((zmi (ziZ k) hn31 (cntN k n+1)).trans ?_)
    show bkA ⟨zvY,.sl true false [],z31,(zcf k).set n (cntN k n+1),z31⟩=_
    rw[zmj k n hn31 hn];rfl
   have hlen:=zbC (ziZ k)
   have hcb:0<=cntN k n/\cntN k n<=257:=zfd (by omega)
   have hle:(290+n*1+1<=352)=True:=by simp;omega
   have hle2:(290+n*1+(0+1)<=352)=True:=by simp;omega
   have hU:=And.intro @hn ( And.intro @hget ( And.intro @hput ( And.intro @hlen ( And.intro @hle (@hle2)))))
   repeat'(first|refine goR ?_|(guard_target =~ PWp _ _ _ _ _ _ _;refine zV (id:=5) [0,1,2,3,4,5,6,7,8,9,10,11] [11] mixed (by kernel_rfl) (by kernel_rfl) ?_)|refine zd fun K hK=>?_|refine zc ?_ ?_<;>intro hcd<;>(try simp only[hcP]at hcd)<;>try exact cdT|(guard_target =~ dw _ _ _ _ _ _ _ _ _ _;first|(guard_target =~ dw _ _ _ _ _ (2::_) _ _ _ _;(refine vp rfl rfl (h:=(fun τ=>zH (h:=zj (f:=247) rfl Tryz.call247 (h:=AEq.pure' agT (zmh _ (by omega) (by omega)) (hq:=zl ⟨rfl,rfl⟩))))) (hk:=?_)))|((first|guard_target =~ dw _ _ _ _ _ (5::_) _ _ _ _|guard_target =~ dw _ _ _ _ _ (9::_) _ _ _ _|guard_target =~ dw _ _ _ _ _ (10::_) _ _ _ _);(refine kZ rfl rfl (h:=zH (h:=zz rfl (hK:=zl ⟨rfl,rfl⟩))) (hk:=?_)))|((first|guard_target =~ dw _ _ _ _ _ (10::_) _ _ _ _|guard_target =~ dw _ _ _ _ _ (11::_) _ _ _ _);(refine vg rfl rfl (h:=zaj (h:=zW rfl (hK:=zl ⟨rfl,rfl⟩))) (hk:=?_))))|refine hK _ _ ?_;clear hK K)
   refine⟨k+1,by omega,by omega,?_,arT,srT⟩
   (refine⟨⟨_,sT,?_⟩,trivial⟩<;>(try exact zu))
  ·have hk7 : k = 257 := by omega
   subst hk7
   repeat'(first|refine goR ?_|refine zd fun K hK=>?_|refine zc ?_ ?_<;>intro hcd<;>(try simp only[hcP]at hcd)<;>try exact cdT|refine hK _ _ ?_;clear hK K|(apply_assumption (exfalso:=false) (symm:=false)))
   refine yE (σ2:=[.box (bkA (b2 1 0 0 1 1)),.row 0 3 1 ((ordN 1).map zaR)]) 0 258 3 1 (by decide) rfl (zdc (ziZ 257)) ?_ ?_
   ·show[Ob.box ((bkA (b1 257)).set 258 (.row 1 0)),Ob.row 0 3 1 []]=_
    rw[zml (ziZ 257),zgg]
    unfold b2 b1
    rw[zhL,zhM,zi1]
    rfl
   refine zO [3,4,5,23,24,25,26,27,28,29,30,31,32,33,34,35,36,37,38,39,40,41,42,43,44,45,46,47,48,49,50,51,52,53,54,55,56,57,58,59,60,61,62,63,64,65,66,67,68,69,70] (fun n:Nat=>[(4,i64 n),(3,i64 (codeN n))]) (fun n=>[.box (bkA (b2 n 0 (ordN n).length n n)),.row (ordN n).length 3 1 ((ordN n).map zaR)]) (fun n=>1<=n/\n<=31) (fun n=>31-n) 1 ⟨by decide,by decide⟩ ?_ (by rw[zgg];rfl) ?_
   ·(refine⟨⟨_,sT,?_⟩,⟨_,sT,?_⟩,trivial⟩<;>(try(first | exact zu)))
    all_goals exact yV codeN_one.symm
   ·rintro n ⟨h1,h31⟩
    simp only[yN,List.map_cons,List.map_nil,List.cons_append,List.nil_append]
    by_cases hlt2:n<31
    ·have hcb := zge ⟨n, by omega⟩
     have hcb2:=zge ⟨n+1,by omega⟩
     have hol:=zmn ⟨n,by omega⟩
     dsimp only at hcb hcb2 hol
     have hlen:=zbC (zaS n 0 (ordN n).length n n)
     have hlen1:=zbC (zaS n 0 (ordN n).length (n+1) n)
     have hfst:List.take (259+n*1) (bkA (b2 n 0 (ordN n).length n n))++[i64 (codeN n*2)]++List.drop (259+n*1+1) (bkA (b2 n 0 (ordN n).length n n))=bkA (b2 n 0 (ordN n).length (n+1) n):=by
      rw[Nat.mul_one]
      refine(show _=putCells (bkA (b2 n 0 (ordN n).length n n)) (259+n) [nA (codeN n*2)]from rfl).trans ((zmm (zaS n 0 (ordN n).length n n) hlt2 (codeN n*2)).trans ?_)
      show bkA ⟨yc n 0,.row 1 (ordN n).length,(y8 n).set n (codeN n*2),zcf 257,jG n⟩=_
      rw[zhI h1 hlt2];rfl
     have hbse:List.take (321+n*1) (bkA (b2 n 0 (ordN n).length (n+1) n))++[i64 ((ordN n).length:Int)]++List.drop (321+n*1+1) (bkA (b2 n 0 (ordN n).length (n+1) n))=bkA (b2 n 0 (ordN n).length (n+1) (n+1)):=by
      rw[Nat.mul_one]
      refine(show _=putCells (bkA (b2 n 0 (ordN n).length (n+1) n)) (321+n) [nA ((ordN n).length:Int)]from rfl).trans ((zpI (zaS n 0 (ordN n).length (n+1) n) hlt2 ((ordN n).length:Int)).trans ?_)
      show bkA ⟨yc n 0,.row 1 (ordN n).length,y8 (n+1),zcf 257,(jG n).set n ((ordN n).length:Int)⟩=_
      rw[zi0 h1 hlt2];rfl
     have hor:=zdc (zaS n 0 (ordN n).length (n+1) n)
     have hor1:(bkA (b2 n 0 (ordN n).length (n+1) n))[258]?=some (.row 1 (ordN n).length):=hor
     have hle1:(259+n*1+1<=352)=True:=by simp;omega
     have hle2:(259+n*1+(0+1)<=352)=True:=by simp;omega
     have hle3:(321+n*1+1<=352)=True:=by simp;omega
     have hle4:(321+n*1+(0+1)<=352)=True:=by simp;omega
     have hU:=And.intro @hlen ( And.intro @hlen1 ( And.intro @hfst ( And.intro @hbse ( And.intro @hor1 ( And.intro @hle1 ( And.intro @hle2 ( And.intro @hle3 (@hle4))))))))
     repeat'(first|refine goR ?_|(guard_target =~ PWp _ _ _ _ _ _ _;refine zv (id:=13) [0,1,2,3,4,5,6,7,8,9,10] [10] mixed (by kernel_rfl) (by kernel_rfl) ?_)|refine zd fun K hK=>?_|refine zc ?_ ?_<;>intro hcd<;>(try simp only[hcP]at hcd)<;>try exact cdT|(guard_target =~ dw _ _ _ _ _ _ _ _ _ _;first|((first|guard_target =~ dw _ _ _ _ _ (5::_) _ _ _ _|guard_target =~ dw _ _ _ _ _ (9::_) _ _ _ _|guard_target =~ dw _ _ _ _ _ (10::_) _ _ _ _);(refine kZ rfl rfl (h:=zH (h:=zz rfl (hK:=zl ⟨rfl,rfl⟩))) (hk:=?_)))|((first|guard_target =~ dw _ _ _ _ _ (10::_) _ _ _ _|guard_target =~ dw _ _ _ _ _ (11::_) _ _ _ _);(refine vg rfl rfl (h:=zaj (h:=zW rfl (hK:=zl ⟨rfl,rfl⟩))) (hk:=?_))))|refine hK _ _ ?_;clear hK K)
     refine zO [3,5,45,46,47,48,49,50,51,52,53,54,55,56,57,58,59,60,61,62,63,64,65,66,67,68,69,70] (fun k:Nat=>[(45,i64 k),(3,i64 (codeN n*2+cntN k n))]) (fun k=>[.box (bkA (b2 n k ((ordN n).length+(zdZ n k).length) (n+1) (n+1))),.row ((ordN n).length+(zdZ n k).length) 3 1 ((ordN n++zdZ n k).map zaR)]) (fun k=>k<=257) (fun k=>257-k) 0 (Nat.zero_le _) ?_ (by rw[zt5,List.append_nil];rfl) ?_
     ·(refine⟨⟨_,sT,?_⟩,⟨_,sT,?_⟩,trivial⟩<;>(try(first | exact zu)))
      all_goals exact yV (by rw[zt6,Int.add_zero])
     ·rintro k hk
      simp only[yN,List.map_cons,List.map_nil,List.cons_append,List.nil_append]
      by_cases hlt3:k<257
      ·have hsb := zgd (s := (k : Int)) (by omega) (by omega)
       have hsl:=zpJ n k
       have hck:=zpK (k:=k) (n:=n) (by omega)
       by_cases hsz:szI (k:Int)=(n:Int)
       ·obtain⟨st,hst⟩:∃st,(ordN n).length+(zdZ n k).length=st:=⟨_,rfl⟩
        rw[hst]
        have hlenk:=zbC (zaS n k st (n+1) (n+1))
        have hlenk1:=zbC (zaS n k (st+1) (n+1) (n+1))
        have hork:(bkA (b2 n k st (n+1) (n+1)))[258]?=some (.row 1 st):=zdc (zaS n k st (n+1) (n+1))
        have hap:List.map zaR (ordN n++zdZ n k)++[[AV.lit (.int .i64 (k:Int))]]=List.map zaR (ordN n++zdZ n (k+1)):=by
         rw[zbF,if_pos hsz,<-List.append_assoc,List.map_append (l₁:=ordN n++zdZ n k)];rfl
        have hpo:List.take 258 (bkA (b2 n k st (n+1) (n+1)))++[.row 1 (st+1)]++List.drop 259 (bkA (b2 n k st (n+1) (n+1)))=bkA (b2 n k (st+1) (n+1) (n+1)):=
         (show _=putCells (bkA (b2 n k st (n+1) (n+1))) 258 [.row 1 (st+1)]from rfl).trans (zEf (zaS n k st (n+1) (n+1)) (.row 1 (st+1)))
        have hpc:List.take (1+k*1) (bkA (b2 n k (st+1) (n+1) (n+1)))++[i64 (codeN n*2+cntN k n)]++List.drop (1+k*1+1) (bkA (b2 n k (st+1) (n+1) (n+1)))=bkA (b2 n (k+1) (st+1) (n+1) (n+1)):=by
         rw[Nat.mul_one]
         refine(show _=putCells (bkA (b2 n k (st+1) (n+1) (n+1))) (1+k) [nA (codeN n*2+cntN k n)]from rfl).trans ((zmk (zaS n k (st+1) (n+1) (n+1)) hlt3 (codeN n*2+cntN k n)).trans ?_)
         show bkA ⟨(yc n k).set k (codeN n*2+cntN k n),.row 1 (st+1),y8 (n+1),zcf 257,jG (n+1)⟩=_
         rw[zhJ hlt3 hsz];rfl
        have hlk1:(1+k*1+1<=352)=True:=by simp;omega
        have hlk2:(1+k*1+(0+1)<=352)=True:=by simp;omega
        have hol2:(ordN n++zdZ n k).length=st:=by rw[List.length_append];exact hst
        have hU:=And.intro @hsz ( And.intro @hlenk ( And.intro @hlenk1 ( And.intro @hork ( And.intro @hap ( And.intro @hpo ( And.intro @hpc ( And.intro @hlk1 (@hlk2))))))))
        repeat'(first|refine goS ?_|refine zd fun K hK=>?_|refine zc ?_ ?_<;>intro hcd<;>(try simp only[hcP]at hcd)<;>try exact cdT|(refine zj (f:=247) rfl Tryz.call247 (h:=AEq.pure' agT (zmh _ (by omega) (by omega)) (hq:=?_)))|refine hK _ _ ?_;clear hK K)
        refine⟨k+1,by omega,by omega,?_,arT,?_⟩
        ·(refine⟨⟨_,sT,?_⟩,⟨_,sT,?_⟩,trivial⟩<;>(try(first | exact zu)))
         all_goals exact yV (by rw[jX,if_pos hsz,Int.add_assoc])
        ·rw[zbF,if_pos hsz,List.length_append,<-Nat.add_assoc,hst]
         simp only[hap,hpo,hpc,go_sem]
       ·have hbn : ∀ st : Nat, b2 n (k + 1) st (n + 1) (n + 1) = b2 n k st (n + 1) (n + 1) := fun st => by unfold b2; rw [zhK hsz]
        have hU:=True.intro
        repeat'(first|refine goR ?_|refine zd fun K hK=>?_|refine zc ?_ ?_<;>intro hcd<;>(try simp only[hcP]at hcd)<;>try exact cdT|(refine zj (f:=247) rfl Tryz.call247 (h:=AEq.pure' agT (zmh _ (by omega) (by omega)) (hq:=?_)))|refine hK _ _ ?_;clear hK K)
        refine⟨k+1,by omega,by omega,?_,arT,?_⟩
        ·(refine⟨⟨_,sT,?_⟩,⟨_,sT,?_⟩,trivial⟩<;>(try(first | exact zu)))
         all_goals exact yV (by rw[jX,if_neg hsz,Int.add_zero])
        ·rw[zbF,if_neg hsz,List.append_nil,hbn]
      ·have hk7 : k = 257 := by omega
       subst hk7
       have hU:=True.intro
       repeat'(first|refine goR ?_|refine zd fun K hK=>?_|refine zc ?_ ?_<;>intro hcd<;>(try simp only[hcP]at hcd)<;>try exact cdT|refine hK _ _ ?_;clear hK K|(apply_assumption (exfalso:=false) (symm:=false)))
       refine⟨n+1,⟨by omega,by omega⟩,by omega,?_,arT,?_⟩
       ·(refine⟨⟨_,sT,?_⟩,⟨_,sT,?_⟩,trivial⟩<;>(try(first | exact zu)))
        all_goals exact yV (zhN n).symm
       ·have hb3 : ∀ st : Nat, b2 (n + 1) 0 st (n + 1) (n + 1) = b2 n 257 st (n + 1) (n + 1) := fun st => by unfold b2; rw [zfe]
        rw[zi2,List.length_append,hb3]
    ·have hn31 : n = 31 := by omega
     subst hn31
     have hol31:=zi3
     have hU:=@hol31
     repeat'(first|refine goR ?_|refine zd fun K hK=>?_|refine zc ?_ ?_<;>intro hcd<;>(try simp only[hcP]at hcd)<;>try exact cdT|((refine zo [0,1] (by rw[Tryz.results237,Lf.zI]) (zw ?_) ?_)<;>(try exact uT))|refine hK _ _ ?_;clear hK K|(apply_assumption (exfalso:=false) (symm:=false)))
end
section
def bkB: List AV:=bkA (b2 31 0 257 31 31)
def ordB: List Nat:=ordN 31
def zaG(n:Nat): Int:=codeN n*2
def zeI(n:Nat): Int:=((ordN n).length:Int)
theorem zmo: ordB.length=257:=zi3
theorem zxW: bkB[0]?=some (bl true):=by unfold bkB bkA;rfl
theorem zmp{s:Nat}(hs:s<257): bkB[1+s]?=some (i64 (csI s)):=by
 have hb:=zgd (s:=(s:Int)) (by omega) (by omega)
 have e:bkB=[bl true]++((yc 31 0).map nA++(.row 1 257::((y8 31).map nA++((zcf 257).map nA++(jG 31).map nA)))):=by unfold bkB bkA b2;simp
 rw[e,List.getElem?_append_right (by simp),show 1+s-([bl true]:List AV).length=s from by simp,List.getElem?_append_left (by simp[yc];omega),List.getElem?_map]
 have hc:(yc 31 0)[s]?=some (csI s):=by
  unfold yc
  rw[List.getElem?_map,List.getElem?_range hs,Option.map_some,if_pos (.inl (by omega))]
 rw[hc];rfl
theorem zpL: bkB[258]?=some (.row 1 257):=zdc (zaS 31 0 257 31 31)
theorem zi4{n:Nat}(h1:1<=n)(hn:n<=30): bkB[259+n]?=some (i64 (zaG n)):=by
 have e:bkB=(bl true::((yc 31 0).map nA++[.row 1 257]))++((y8 31).map nA++((zcf 257).map nA++(jG 31).map nA)):=by unfold bkB bkA b2;simp
 have hl:(bl true::((yc 31 0).map nA++[AV.row 1 257])).length=259:=by simp[yc]
 rw[e,List.getElem?_append_right (by omega),hl,show 259+n-259=n from by omega,List.getElem?_append_left (by simp[y8];omega),List.getElem?_map]
 have hc:(y8 31)[n]?=some (zaG n):=by
  unfold y8
  rw[List.getElem?_map,List.getElem?_range (by omega),Option.map_some,if_pos ⟨h1,by omega⟩];rfl
 rw[hc];rfl
theorem zi5{n:Nat}(hn:n<=30): bkB[290+n]?=some (i64 (cntN 257 n)):=by
 refine zbE (zaS 31 0 257 31 31) ?_
 show(zcf 257)[n]?=_
 unfold zcf
 rw[List.getElem?_map,List.getElem?_range (by omega)];rfl
theorem zmq{n:Nat}(h1:1<=n)(hn:n<=30): bkB[321+n]?=some (i64 (zeI n)):=by
 have e:bkB=(bl true::((yc 31 0).map nA ++ .row 1 257::((y8 31).map nA++(zcf 257).map nA)))++(jG 31).map nA:=by unfold bkB bkA b2;simp
 have hl:(bl true::((yc 31 0).map nA ++ .row 1 257::((y8 31).map nA++(zcf 257).map nA))).length=321:=by simp[yc,y8,zcf]
 rw[e,List.getElem?_append_right (by omega),hl,show 321+n-321=n from by omega,List.getElem?_map]
 have hc:(jG 31)[n]?=some (zeI n):=by
  unfold jG
  rw[List.getElem?_map,List.getElem?_range (by omega),Option.map_some,if_pos ⟨h1,by omega⟩];rfl
 rw[hc];rfl
@[go_sem] theorem zzB{σ:Sto}: fzl [0,1] σ bkB=bkB:=zxU 31 0 257 31 31
theorem zt8: AEq Tryz.prog 237 [] [] (.ptr 0 0) [.box bkB,.row 257 3 1 (ordB.map zaR)]:=zxV
def vT(c n:Int): Bool:=decide (1<=n/\n<=30/\zaG n.toNat<=c/\c-zaG n.toNat<cntN 257 n.toNat)
def kt(c n:Int): Int:=(ordB.getD (zeI n.toNat+(c-zaG n.toNat)).toNat 0:Nat)
theorem zt9: ∀n:Fin 31,0<=zaG n.val/\zaG n.val<=4294967296/\0<=zeI n.val/\0<=cntN 257 n.val/\zeI n.val+cntN 257 n.val<=257:=by decide +kernel
theorem zff(f:Nat->Nat): ∀xs,rnl f xs=xs.map (rn f)
 | []=>rfl
 | x::xs=>by rw[rnl,zff f xs];rfl
theorem zgh(n:Nat): ∀xs,zad n xs=xs.all (scp n)
 | []=>rfl
 | x::xs=>by rw[zad,zgh n xs];rfl
theorem zi6: ∀xs,nbl xs=xs.all nb
 | []=>rfl
 | x::xs=>by rw[nbl,zi6 xs];rfl
@[go_sem] theorem zpM(L:Nat): rnl (ix [0,1] L) bkB=bkB:=by
 rw[zff]
 unfold bkB bkA b2
 have h:∀l:List Int,(l.map nA).map (rn (ix [0,1] L))=l.map nA:=by
  intro l;rw[List.map_map];exact List.map_congr_left (fun _ _=>rfl)
 simp only[List.map_cons,List.map_append,h]
 rfl
theorem zmr: zad 2 bkB=true:=by
 rw[zgh]
 unfold bkB bkA b2
 have h:∀l:List Int,(l.map nA).all (scp 2)=true:=by
  intro l;rw[List.all_map];exact List.all_eq_true.2 (fun _ _=>rfl)
 simp only[List.all_cons,List.all_append,h]
 rfl
@[go_sem] theorem zi7: nbl bkB=true:=by
 rw[zi6]
 unfold bkB bkA b2
 have h:∀l:List Int,(l.map nA).all nb=true:=by
  intro l;rw[List.all_map];exact List.all_eq_true.2 (fun _ _=>rfl)
 simp only[List.all_cons,List.all_append,h]
 rfl
theorem jY(σ:Sto): SubOk [0,1] [.box bkB,.row 257 3 1 (ordB.map zaR)] (.box bkB :: .row 257 3 1 (ordB.map zaR)::σ):=by
 refine SubOk.mk' (by decide) ⟨?_,zmr,rfl,zgf ordB,trivial⟩
 show some (Ob.box bkB)=some (Ob.box (rnl _ bkB))
 rw[zpM]
theorem jZ: ([.box bkB,.row 257 3 1 (ordB.map zaR)]:Sto).all okP=true:=by
 have h1:=zi7
 have h2:=zgf ordB
 simp only[List.all_cons,List.all_nil,okP,h1,h2,Bool.and_self]
attribute [local irreducible] bkB cntN ordB zaG zeI csI
theorem zua(s:Int): AEq Tryz.prog 249 [.ptr 0 0,i64 s] [.box bkB,.row 257 3 1 (ordB.map zaR)] (bl (decide (0<=s) && decide (s<=256))) [.box bkB,.row 257 3 1 (ordB.map zaR)]:=by
 have h0:=zxW
 refine enT Tryz.func249 Tryz.ntmps249 ?_
 have hU:=@h0
 repeat'(first|refine goR ?_|refine zd fun K hK=>?_|((refine zo [0,1] (by rw[Tryz.results249,Lf.zI]) (zw ?_) ?_)<;>(try exact uT))|refine hK _ _ ?_;clear hK K)
theorem zxX(s:Nat)(h1:s<257): AEq Tryz.prog 239 [.ptr 0 0,i64 (s:Int)] [.box bkB,.row 257 3 1 (ordB.map zaR)] (.tu [i64 (csI s),i64 (szI (s:Int))]) [.box bkB,.row 257 3 1 (ordB.map zaR)]:=by
 have hc:bkB[1+s*1]?=some (i64 (csI s)):=by rw[Nat.mul_one];exact zmp h1
 have h2:(s:Int)<=256:=by omega
 refine enT Tryz.func239 Tryz.ntmps239 ?_
 have hU:=@hc
 repeat'(first|refine goR ?_|(guard_target =~ PWp _ _ _ _ _ _ _;refine zv (id:=3) [0,1,2,3,4,5,6,7,8,9] [] mixed (by kernel_rfl) (by kernel_rfl) ?_)|refine zd fun K hK=>?_|refine zc ?_ ?_<;>intro hcd<;>(try simp only[hcP]at hcd)<;>try exact cdT|(refine zj (f:=249) rfl Tryz.call249 (h:=AEq.sub' [0,1] (by refine⟨?_,?_,trivial⟩<;>(first|exact zi|exact zD (by rfl) (by rfl))) (by exact jY _) (zua _) (ho:=by exact jZ) (hq:=?_)))|((refine zo [0,1] (by rw[Tryz.results239,Lf.ym]) (zF ?_ ?_) ?_)<;>(try exact uT))|(guard_target =~ dw _ _ _ _ _ _ _ _ _ _;first|(guard_target =~ dw _ _ _ _ _ (4::_) _ _ _ _;(refine kZ rfl rfl (h:=zH (h:=zz rfl (hK:=zl ⟨rfl,rfl⟩))) (hk:=?_)))|(guard_target =~ dw _ _ _ _ _ (7::_) _ _ _ _;(refine vp rfl rfl (h:=(fun τ=>zH (h:=zj (f:=247) rfl Tryz.call247 (h:=AEq.pure' agT (zmh _ aoT aoT) (hq:=zl ⟨rfl,rfl⟩))))) (hk:=?_))))|refine hK _ _ ?_;clear hK K)
end
section
theorem zfg{c n:Int}(h:¬(1<=n/\n<=30/\zaG n.toNat<=c/\c-zaG n.toNat<cntN 257 n.toNat)): vT c n=false:=decide_eq_false h
theorem zpN{c n:Int}(h:1<=n/\n<=30/\zaG n.toNat<=c/\c-zaG n.toNat<cntN 257 n.toNat): vT c n=true:=decide_eq_true h
def j0(c n:Int): Int:=if vT c n=true then kt c n else 0
attribute [local irreducible] bkB cntN ordB zaG zeI csI
theorem zpO(c n:Int)(h0:0<=c)(h1:c<=4294967296): AEq Tryz.prog 244 [.ptr 0 0,i64 c,i64 n] [.box bkB,.row 257 3 1 (ordB.map zaR)] (.tu [i64 (j0 c n),bl (vT c n)]) [.box bkB,.row 257 3 1 (ordB.map zaR)]:=by
 by_cases hn:1<=n/\n<=30
 ·obtain⟨hn1,hn2⟩:=hn
  obtain⟨m,rfl⟩:∃m:Nat,n=m:=⟨n.toNat,by omega⟩
  have hm1:1<=m:=by omega
  have hm2:m<=30:=by omega
  obtain⟨t1,t2,t3,t4,t5⟩:=zt9 ⟨m,by omega⟩
  dsimp only at t1 t2 t3 t4 t5
  have hf:bkB[259+m*1]?=some (i64 (zaG m)):=by rw[Nat.mul_one];exact zi4 hm1 hm2
  have hcn:bkB[290+m*1]?=some (i64 (cntN 257 m)):=by rw[Nat.mul_one];exact zi5 hm2
  have hbs:bkB[321+m*1]?=some (i64 (zeI m)):=by rw[Nat.mul_one];exact zmq hm1 hm2
  have ho:=zpL
  have hol:=zmo
  by_cases hc1:c<zaG m
  ·have hY := zfg (c := c) (n := (m : Int)) (by rw [Int.toNat_natCast]; omega)
   have hR:j0 c m=0:=by unfold j0;rw[hY];rfl
   rw[hY,hR]
   refine enT Tryz.func244 Tryz.ntmps244 ?_
   have hU:=And.intro @hf ( And.intro @hcn ( And.intro @hbs (@ho)))
   exact wc
  by_cases hc2:c-zaG m<cntN 257 m
  ·have hY := zpN (c := c) (n := (m : Int)) (by rw [Int.toNat_natCast]; omega)
   obtain⟨i,hi⟩:∃i:Nat,zeI m+(c-zaG m)=i:=⟨(zeI m+(c-zaG m)).toNat,by omega⟩
   have hil:i<ordB.length:=by rw[hol];omega
   obtain⟨s,hs⟩:∃s,ordB[i]?=some s:=⟨ordB[i],List.getElem?_eq_getElem hil⟩
   have hR:j0 c m=(s:Int):=by
    unfold j0 kt
    rw[if_pos hY,Int.toNat_natCast,hi,Int.toNat_natCast,List.getD_eq_getElem?_getD,hs];rfl
   rw[hY,hR]
   have hm3:(List.map zaR ordB)[i]?=some (zaR s):=by rw[List.getElem?_map,hs];rfl
   refine enT Tryz.func244 Tryz.ntmps244 ?_
   have hU:=And.intro @hf ( And.intro @hcn ( And.intro @hbs ( And.intro @ho ( And.intro @hi ( And.intro @hs (@hm3))))))
   repeat'(first|refine goR ?_|refine zd fun K hK=>?_|refine y7 ?_|refine zc ?_ ?_<;>intro hcd<;>(try simp only[hcP]at hcd)<;>try exact cdT|(refine zj (f:=249) rfl Tryz.call249 (h:=AEq.sub' [0,1] (by refine⟨?_,?_,trivial⟩<;>(first|exact zi|exact zD (by rfl) (by rfl))) (by exact jY _) (zua _) (ho:=by exact jZ) (hq:=?_)))|((refine zo [0,1] (by rw[Tryz.results244,Lf.ym]) (zF ?_ ?_) ?_)<;>(try exact uT))|(guard_target =~ dg _ _ _ _ _ _ _;first|(guard_target =~ dg _ _ _ (⟨_,.indexAddr _ _ _,_,_,_,none⟩::_) _ _ _;first|(refine vz (x:=_) (h:=zH (h:=yG rfl (hK:=zl ⟨rfl,rfl⟩))) (hk:=?_))|(refine vz (x:=_) (h:=zH (h:=zz rfl (hK:=zl ⟨rfl,rfl⟩))) (hk:=?_))))|refine hK _ _ ?_;clear hK K)
  ·have hY := zfg (c := c) (n := (m : Int)) (by rw [Int.toNat_natCast]; omega)
   have hR:j0 c m=0:=by unfold j0;rw[hY];rfl
   rw[hY,hR]
   refine enT Tryz.func244 Tryz.ntmps244 ?_
   have hU:=And.intro @hf ( And.intro @hcn ( And.intro @hbs (@ho)))
   exact wc
 ·have hY := zfg (c := c) (n := n) (by omega)
  have hR:j0 c n=0:=by unfold j0;rw[hY];rfl
  rw[hY,hR]
  refine enT Tryz.func244 Tryz.ntmps244 ?_
  have hU:=True.intro
  exact wc
end
def tR0: List Int:=[13,23,28,28,28,28,28,28,28,24,30,28,28,30,28,28]
def tR1: List Int:=[28,28,28,28,28,28,30,28,28,28,28,28,28,28,28,28]
def tR2: List Int:=[6,10,10,12,13,6,8,11,10,10,8,11,8,6,6,6]
def tR3: List Int:=[5,5,5,6,6,6,6,6,6,6,7,8,15,6,12,10]
def tR4: List Int:=[13,6,7,7,7,7,7,7,7,7,7,7,7,7,7,7]
def tR5: List Int:=[7,7,7,7,7,7,7,7,8,7,8,13,19,13,14,6]
def tR6: List Int:=[15,5,6,5,6,5,6,6,6,5,7,7,6,6,6,5]
def tR7: List Int:=[6,7,6,5,5,6,7,7,7,7,7,15,11,14,13,28]
def tR8: List Int:=[20,22,20,20,22,22,22,23,22,23,23,23,23,23,24,23]
def tR9: List Int:=[24,24,22,23,24,23,23,23,23,21,22,23,22,23,23,24]
def zEg: List Int:=[22,21,20,22,22,23,23,21,23,22,22,24,21,22,23,23]
def zEh: List Int:=[21,21,22,21,23,22,23,23,20,22,22,22,23,22,22,23]
def zEi: List Int:=[26,26,20,19,22,23,22,25,26,26,26,27,27,26,24,25]
def zEj: List Int:=[19,21,26,27,27,26,27,24,21,21,26,26,28,27,27,27]
def zEk: List Int:=[20,24,20,21,22,21,21,23,22,22,25,25,24,24,26,23]
def zEl: List Int:=[26,27,26,26,27,27,27,27,27,28,27,27,27,27,27,26]
def zEm: List Int:=[30]
def zEn: Nat->List Int
 | 0=>tR0
 | 1=>tR1
 | 2=>tR2
 | 3=>tR3
 | 4=>tR4
 | 5=>tR5
 | 6=>tR6
 | 7=>tR7
 | 8=>tR8
 | 9=>tR9
 | 10=>zEg
 | 11=>zEh
 | 12=>zEi
 | 13=>zEj
 | 14=>zEk
 | 15=>zEl
 | _=>zEm
def zms: List Int:=(List.range 257).map fun s:Nat=>szI (s:Int)
attribute [local irreducible] zEn szI zms zdZ ordN cntN codeN
end Go.Proofs.YtdalcgfnlbofdaaGreatDoor
namespace Go.Proofs.YtdalcgfnlbofdaaGreatDoor
open Go Go.Lf Go.Proofs Go.RowKit
attribute [local irreducible] Lf.rg Lf.ro Lf.PWp Lf.SOp Lf.ACall Lf.Scoped Lf.dg
set_option maxRecDepth 20000
set_option maxHeartbeats 4000000
end Go.Proofs.YtdalcgfnlbofdaaGreatDoor
