import Derived.Test.YtdalcgfnlbofdaaGreatDoorZ13
set_option linter.unusedVariables false
set_option linter.unusedSimpArgs false
namespace Go.Proofs.YtdalcgfnlbofdaaGreatDoor
open Go Go.Lf Go.Proofs
attribute [local irreducible] Lf.rg Lf.ro Lf.PWp Lf.SOp Lf.ACall Lf.Scoped Lf.dg
set_option maxRecDepth 20000
set_option maxHeartbeats 4000000
@[go_sem] theorem zuE{κ:List Nat}{σ:Sto}(l:List (Int×Int)): List.map (fzl κ σ) (l.map z7)=l.map z7:=vc (fun _=>rfl) l
def zyj(b:List UInt8): Int×Int:=(z4 b 2,z4 (b.drop 2) 4)
def zqy(b:List UInt8): Nat->List (Int×Int)
 | 0=>[]
 | k+1=>zqy b k++[zyj (b.drop (6*k))]
def zyk(b:List UInt8): Int:=if b.length % 6=0 then 0 else 4
def zlp(b:List UInt8): List (Int×Int):=if b.length % 6=0 then zqy b (b.length / 6)else[]
theorem zgF(b:List UInt8)(k:Nat): (zqy b k).length=k:=by induction k with|zero=>rfl|succ k ih=>simp[zqy,ih]
theorem zep(f q:Bool)(b:List UInt8)(hb:b.length<=100000000000): AEq Tryz.prog 99 [.sl f q (b.map zk)] [] (.tu [.sl false false ((zlp b).map z7),i64 (zyk b)]) []:=by
 by_cases h6:b.length % 6=0
 ·have h1:zyk b=0:=if_pos h6
  have h2:zlp b=zqy b (b.length / 6):=if_pos h6
  rw[h1,h2]
  refine enT Tryz.func99 Tryz.ntmps99 ?_
  have hU:=True.intro
  repeat'(first|refine goR ?_|refine zd fun K hK=>?_|refine zc ?_ ?_<;>intro hcd<;>(try simp only[hcP]at hcd)<;>try exact cdT|(refine zj (f:=95) rfl Tryz.call95 (h:=AEq.sub' [] (by first|((repeat'(first|exact trivial|(first|exact zi|exact zq id id|exact vb|exact zq (by simp) id|exact zq (by simp) (fun _=>rfl)|exact z0 (by rfl) (by rfl) (fun _=>rfl)|exact yu (by rfl) (by rfl) (fun _=>rfl)|exact zD (by rfl) (by rfl)|exact yr)|refine⟨?_,?_⟩));done)|fail) (hc:=zfu _ _ _ (by omega)) (hq:=?_)))|refine hK _ _ ?_;clear hK K)
  refine kD 5 92 2 (by decide) (by rfl) rfl rfl ?_
  refine zO [5,6,7,8,9,16,17,18,19,20,21,22,23,24,25,26,27,28,29,30,31,32,33,34] (fun s:Nat×Nat=>[(5,.row 1 s.2)]) (fun s=>[.box [.sl false false (b.map zk),i64 (6*s.1)],.row s.2 92 2 ((zqy b s.1).map z7)]) (fun s=>s.1<=b.length / 6) (fun s=>b.length / 6-s.1) (0,0) (Nat.zero_le _) ?_ rfl ?_
  ·(refine⟨⟨_,sT,?_⟩,trivial⟩<;>(try exact zu))
  ·rintro⟨k,s⟩ hk
   simp only[yN,List.map_cons,List.map_nil,List.cons_append,List.nil_append]
   dsimp only at hk ⊢
   have hpl:=zgF b k
   by_cases hlt:k<b.length / 6
   ·have e1 : (6 * (k : Int)).toNat = 6 * k := by omega
    have e2:(6*(k:Int)+2).toNat=6*k+2:=by omega
    have hE1:zdj (b.drop (6*(k:Int)).toNat) 2=0:=by
     unfold zdj
     rw[if_neg (by rw[vE (by omega)];simp),if_neg (by rw[e1,List.length_drop];omega)]
    have hE2:zdj (b.drop (6*(k:Int)+2).toNat) 4=0:=by
     unfold zdj
     rw[if_neg (by rw[vE (by omega)];simp),if_neg (by rw[e2,List.length_drop];omega)]
    have hc1:zmU b (6*(k:Int)) 2=6*(k:Int)+2:=by unfold zmU;rw[if_pos hE1]
    have hc2:zmU b (6*(k:Int)+2) 4=6*((k+1:Nat):Int):=by unfold zmU;rw[if_pos hE2];omega
    have hd:zyj (b.drop (6*k))=(z4 (b.drop (6*(k:Int)).toNat) 2,z4 (b.drop (6*(k:Int)+2).toNat) 4):=by
     unfold zyj;rw[e1,e2,List.drop_drop]
    have hU:=And.intro @hc1 (@hc2)
    repeat'(first|refine goS ?_|refine zd fun K hK=>?_|refine zc ?_ ?_<;>intro hcd<;>(try simp only[hcP]at hcd)<;>try exact cdT|(refine zj (f:=144) rfl Tryz.call144 (h:=AEq.sub' [_] (by first|((repeat'(first|exact trivial|(first|exact zi|exact zq id id|exact vb|exact zq (by simp) id|exact zq (by simp) (fun _=>rfl)|exact z0 (by rfl) (by rfl) (fun _=>rfl)|exact yu (by rfl) (by rfl) (fun _=>rfl)|exact zD (by rfl) (by rfl)|exact yr)|refine⟨?_,?_⟩));done)|fail) (hc:=zbP _ _ _ _ (by omega) (by omega) (by omega)) (hq:=?_)))|(refine zj (f:=98) rfl Tryz.call98 (h:=AEq.sub' [_] (by first|((repeat'(first|exact trivial|(first|exact zi|exact zq id id|exact vb|exact zq (by simp) id|exact zq (by simp) (fun _=>rfl)|exact z0 (by rfl) (by rfl) (fun _=>rfl)|exact yu (by rfl) (by rfl) (fun _=>rfl)|exact zD (by rfl) (by rfl)|exact yr)|refine⟨?_,?_⟩));done)|fail) (hc:=km _ _ _ (by omega) (by omega)) (hq:=?_)))|refine hK _ _ ?_;clear hK K|(dsimp only[Lf.yk,Lf.yJ]))
    refine⟨(k+1,s+1),by dsimp only;omega,by dsimp only;omega,?_,arT,by first|(dsimp only;simp only[zqy,hd,List.map_append,List.map_cons,List.map_nil,z7];done)|fail⟩
    (refine⟨⟨_,sT,?_⟩,trivial⟩<;>(try exact zu))
   ·have he : k = b.length / 6 := by omega
    subst he
    repeat'(first|refine goR ?_|refine zd fun K hK=>?_|refine zc ?_ ?_<;>intro hcd<;>(try simp only[hcP]at hcd)<;>try exact cdT|(refine zj (f:=98) rfl Tryz.call98 (h:=AEq.sub' [_] (by first|((repeat'(first|exact trivial|(first|exact zi|exact zq id id|exact vb|exact zq (by simp) id|exact zq (by simp) (fun _=>rfl)|exact z0 (by rfl) (by rfl) (fun _=>rfl)|exact yu (by rfl) (by rfl) (fun _=>rfl)|exact zD (by rfl) (by rfl)|exact yr)|refine⟨?_,?_⟩));done)|fail) (hc:=km _ _ _ (by omega) (by omega)) (hq:=?_)))|((refine zo [] (by rw[Tryz.results99,Lf.ym]) (zF ?_ ?_) ?_)<;>(try exact uT))|refine hK _ _ ?_;clear hK K|(apply_assumption (exfalso:=false) (symm:=false)))
 ·have h1:zyk b=4:=if_neg h6
  have h2:zlp b=[]:=if_neg h6
  rw[h1,h2]
  refine enT Tryz.func99 Tryz.ntmps99 ?_
  have hU:=True.intro
  repeat'(first|refine goR ?_|refine zd fun K hK=>?_|refine zc ?_ ?_<;>intro hcd<;>(try simp only[hcP]at hcd)<;>try exact cdT|((refine zo [] (by rw[Tryz.results99,Lf.ym]) (zF ?_ ?_) ?_)<;>(try exact uT))|refine hK _ _ ?_;clear hK K)
def zjW(s:Int×Int): Prop:=vh s.1 2=0/\vh s.2 4=0
instance (s:Int×Int):Decidable (zjW s):=by unfold zjW;infer_instance
def zv7(s:Int×Int): List UInt8:=beB s.1 2++beB s.2 4
def spE: List (Int×Int)->Int
 | []=>0
 | s::l=>if zjW s then spE l else 5
def spF(l:List (Int×Int)): List UInt8:=l.flatMap zv7
def spB(l:List (Int×Int)): List UInt8:=if spE l=0 then spF l else[]
theorem zmV(l:List (Int×Int))(s:Int×Int): spF (l++[s])=spF l++zv7 s:=by simp[spF]
theorem zjX(l:List (Int×Int)): (spF l).length=6*l.length:=by
 induction l with
 | nil=>rfl
 | cons s l ih=>
  show(zv7 s++spF l).length=_
  rw[List.length_append,ih,zv7,List.length_append,kl,kl,List.length_cons];omega
theorem zeq(n size:Int)(h1:1<=size)(h2:size<=4)(h:¬vh n size=0): vh n size=5:=by
 unfold vh at *
 rw[vE ⟨h1,h2⟩]at *
 rw[if_neg (by simp)]at *
 split
 ·rfl
 ·rename_i h3;rw[if_neg h3]at h;exact absurd rfl h
theorem zjY(b:List UInt8)(n size:Int)(h:vh n size=0): zhT b n size=b++beB n size.toNat:=if_pos h
theorem zn8{l:List (Int×Int)}{i:Nat}{s:Int×Int}(h:spE l=spE (l.drop i))(hs:l[i]?=some s)(hc:¬zjW s): spE l=5:=by
 rw[h,zdx hs,spE,if_neg hc]
theorem zyl{l:List (Int×Int)}{i:Nat}{s:Int×Int}(h:spE l=spE (l.drop i))(hs:l[i]?=some s)(hc:zjW s): spE l=spE (l.drop (i+1)):=by
 rw[h,zdx hs,spE,if_pos hc]
theorem zuF{l:List (Int×Int)}{i:Nat}(h:spE l=spE (l.drop i))(hi:l.length<=i): spE l=0:=by
 rw[h,List.drop_eq_nil_of_le hi];rfl
theorem zqz(f q:Bool)(l:List (Int×Int))(hl:l.length<=1000000): AEq Tryz.prog 130 [.sl f q (l.map z7)] [] (.tu [.sl false false ((spB l).map zk),i64 (spE l)]) []:=by
 have hB:spE l=0->spB l=spF l:=fun h=>if_pos h
 have hB5:spE l=5->spB l=[]:=fun h=>if_neg (by omega)
 refine enT Tryz.func130 Tryz.ntmps130 ?_
 have hU:=True.intro
 repeat'(first|refine goR ?_|refine zd fun K hK=>?_|refine hK _ _ ?_;clear hK K)
 refine vZ [2,3,4,6,7,8,11,12,13,14,15,16,17,18,19,20,21,22,23,24,25,26,27,28,29,30,31,32,33,34,35] [] (fun i:Nat=>[(11,i64 i),(4,.sl false false ((spF (l.take i)).map zk))]) (fun i=>[]) (fun i=>i<=l.length/\spE l=spE (l.drop i)) (fun i=>l.length-i) 0 (fun _=>rfl) rfl rfl ⟨Nat.zero_le _,rfl⟩ ?_ rfl (by intro s i x h;simp only[List.mem_cons,Prod.mk.injEq,List.not_mem_nil,or_false]at h;rcases h with⟨rfl,_⟩|⟨rfl,_⟩<;>decide) ?_
 ·(refine⟨⟨_,sT,?_⟩,⟨_,sT,?_⟩,trivial⟩<;>(try exact zu))
 ·rintro i ⟨hi,hk⟩
  simp only[yN,List.map_cons,List.map_nil,List.cons_append,List.nil_append]
  have hfl:=zjX (l.take i)
  rw[List.length_take]at hfl
  by_cases hlt:i<l.length
  ·obtain⟨s,hs⟩:=yv hlt
   have hsn:=zmV (l.take i) s
   rw[<-vq hs]at hsn
   have hpl:=zmQ (spF (l.take i)) s.1 2
   by_cases h1:vh s.1 2=0
   ·have hL1:=zjY (spF (l.take i)) s.1 2 h1
    by_cases h2:vh s.2 4=0
    ·have hgo:=zyl hk hs ⟨h1,h2⟩
     have hL2:=zjY (zhT (spF (l.take i)) s.1 2) s.2 4 h2
     have hU:=And.intro @h1 (@h2)
     repeat'(first|refine goR ?_|refine zd fun K hK=>?_|refine zc ?_ ?_<;>intro hcd<;>(try simp only[hcP]at hcd)<;>try exact cdT|refine y1C ?_|refine hK _ _ ?_;clear hK K)
     refine⟨i+1,⟨by omega,hgo⟩,by omega,?_,arT,srT⟩
     (refine⟨⟨_,sT,?_⟩,⟨_,sT,?_⟩,trivial⟩<;>(try exact zu))
     all_goals exact ziO (by rw[hL2,hL1,hsn,List.append_assoc];rfl) id
    ·have h5 := zeq _ _ (by decide) (by decide) h2
     have hh:=zn8 hk hs (fun h=>h2 h.2)
     have hb5:=hB5 hh
     have hU:=And.intro @h1 (@h5)
     repeat'(first|refine goR ?_|refine zd fun K hK=>?_|refine zc ?_ ?_<;>intro hcd<;>(try simp only[hcP]at hcd)<;>try exact cdT|refine y1C ?_|((refine zo [] (by rw[Tryz.results130,Lf.ym]) (zF ?_ ?_) ?_)<;>(try exact uT))|refine hK _ _ ?_;clear hK K)
     ·(rw[hb5];exact za1)
     ·exact yV (by rw[hh])
   ·have h5 := zeq _ _ (by decide) (by decide) h1
    have hh:=zn8 hk hs (fun h=>h1 h.1)
    have hb5:=hB5 hh
    have hU:=@h5
    repeat'(first|refine goR ?_|refine zd fun K hK=>?_|refine zc ?_ ?_<;>intro hcd<;>(try simp only[hcP]at hcd)<;>try exact cdT|refine y1C ?_|((refine zo [] (by rw[Tryz.results130,Lf.ym]) (zF ?_ ?_) ?_)<;>(try exact uT))|refine hK _ _ ?_;clear hK K)
    ·(rw[hb5];exact za1)
    ·exact yV (by rw[hh])
  ·have he := zuF hk (by omega)
   have ht:l.take i=l:=List.take_of_length_le (by omega)
   repeat'(first|refine goR ?_|refine zd fun K hK=>?_|refine zc ?_ ?_<;>intro hcd<;>(try simp only[hcP]at hcd)<;>try exact cdT|((refine zo [] (by rw[Tryz.results130,Lf.ym]) (zF ?_ ?_) ?_)<;>(try exact uT))|refine hK _ _ ?_;clear hK K|(apply_assumption (exfalso:=false) (symm:=false)))
   ·exact ziO (by rw[ht,hB he]) id
   ·exact yV (by rw[he])
structure Hd where
 (l t g s:Int) (r:Bool)
@[go_sem] def hdA(h:Hd): List AV:=[i64 h.l,i64 h.t,i64 h.g,i64 h.s,bl h.r]
def zcj(h:Hd): Prop:=0<=h.l/\h.l<=16777215/\0<=h.t/\h.t<=255/\0<=h.g/\h.g<=255/\0<=h.s/\h.s<=2147483647
instance (h:Hd):Decidable (zcj h):=by unfold zcj;infer_instance
theorem zjZ(n m:Int): AEq Tryz.prog 92 [i64 n,i64 m] [] (bl (decide (0<=n) && decide (n<=m))) []:=by
 refine enT Tryz.func92 Tryz.ntmps92 ?_
 have hU:=True.intro
 repeat'(first|refine goR ?_|refine zd fun K hK=>?_|((refine zo [] (by rw[Tryz.results92,Lf.zI]) (zw ?_) ?_)<;>(try exact uT))|refine hK _ _ ?_;clear hK K)
theorem zn9(l t g s:Int)(r:Bool): AEq Tryz.prog 50 [.ag [i64 l,i64 t,i64 g,i64 s,bl r]] [] (bl (decide (zcj ⟨l,t,g,s,r⟩))) []:=by
 refine enT Tryz.func50 Tryz.ntmps50 ?_
 have hU:=True.intro
 repeat'(first|refine goR ?_|refine zd fun K hK=>?_|(guard_target =~ rg _ _ _ (⟨_,_,_,_,_,some _⟩::_) _ _ _;(first|refine zP gT (fun hcd=>?_) (fun hcd=>?_)|refine zK gT (fun hcd=>?_) (fun hcd=>?_))<;>(try simp only[hcd])<;>(try(simp only[Bool.not_eq_true',Bool.not_eq_false']at hcd;try simp only[hcd]))<;>(refine kC (Γ2:=_) ewT ?_)<;>(try simp only[hcP]at hcd)<;>(try exact cdT))|(refine zj (f:=92) rfl Tryz.call92 (h:=AEq.pure' agT (zjZ _ _) (hq:=?_)))|((refine zo [] (by rw[Tryz.results50,Lf.zI]) (zw ?_) ?_)<;>(try exact uT))|refine hK _ _ ?_;clear hK K)
 all_goals first|exact zJ (by symm;rw[decide_eq_true_eq];unfold zcj;dsimp only;omega)|exact zJ (by symm;rw[decide_eq_false_iff_not];unfold zcj;dsimp only;omega)|exact zJ (by rw[Bool.eq_iff_iff];simp only[Bool.and_eq_true,decide_eq_true_eq];unfold zcj;dsimp only;omega)
def hdS(s:Int)(r:Bool): Int:=if r then s+2147483648 else s
theorem zym(s:Int): hdS s true=s+2147483648:=rfl
theorem zyn(s:Int): hdS s false=s:=rfl
theorem zfv(n size:Int)(h1:1<=size)(h2:size<=4)(h3:0<=n)(h4:n<=zgo size): vh n size=0:=by
 unfold vh
 rw[vE ⟨h1,h2⟩,if_neg (by simp),if_neg (by omega)]
theorem zyo: zgo 4=4294967295:=rfl
theorem zj0(f q:Bool)(b:List UInt8)(n size:Int)(h1:1<=size)(h2:size<=4)(h0:0<=n)(hn:n<=zgo size)(hb:b.length<=1000000000): AEq Tryz.prog 171 [.sl f q (b.map zk),i64 n,i64 size] [] (.tu [.row 0 size.toNat,i64 0]) [.row size.toNat 5 1 ((b++beB n size.toNat).map zk)]:=by
 have hpn:(je size.toNat:Int)<=4294967296:=(zdk _ (by omega)).2
 have htl:=zft size h1 h2
 obtain⟨m,hm⟩:∃m,m=zgo size:=⟨_,rfl⟩
 have hm':=hm.symm
 rw[<-hm]at hn htl
 refine enT Tryz.func171 Tryz.ntmps171 ?_
 have hU:=True.intro
 repeat'(first|refine goR ?_|refine zd fun K hK=>?_|refine zc ?_ ?_<;>intro hcd<;>(try simp only[hcP]at hcd)<;>try exact cdT|(refine zj (f:=194) rfl Tryz.call194 (h:=AEq.pure' agT (zbK _ (by assumption) (by assumption)) (hq:=?_)))|(guard_target =~ SOp _ _ ⟨_,.makeSlice _ _ _,_,_,_,none⟩ _ _ _;refine znP rfl (he:=eoT) (hK:=?_))|(guard_target =~ SOp _ _ ⟨_,.call ⟨.builtin .copy,_,_⟩,_,_,_,none⟩ _ _ _;refine znQ rfl (hK:=?_))|refine hK _ _ ?_;clear hK K)
 refine zO [10, 11, 40, 41, 42, 43, 44, 45, 46, 47, 48, 49, 50, 51] (fun s : Int × List UInt8 × Nat => [(10, .row 0 s.2.2), (11, i64 s.1)]) (fun s => [.row s.2.2 5 1 ((b ++ s.2.1).map zk)])
  (fun s=>∃k:Nat,s.1=8*k/\k<=size.toNat/\s.2.1++beB n k=beB n size.toNat/\s.2.2+k=size.toNat) (fun s=>s.1.toNat) (8*size,[],0) ⟨size.toNat,by simp;omega,Nat.le_refl _,rfl,Nat.zero_add _⟩ ?_ (by rw[List.append_nil]) ?_
 ·(refine⟨⟨_,sT,?_⟩,⟨_,sT,?_⟩,trivial⟩<;>(try exact zu))
 ·rintro⟨a,l,s⟩ ⟨k,ha,hk,hl,hst⟩
  simp only[yN,List.map_cons,List.map_nil,List.cons_append,List.nil_append]
  dsimp only at ha hl hst ⊢
  have hll:l.length+k=size.toNat:=by have:=congrArg List.length hl;simpa[kl]using this
  by_cases h0k:k=0
  ·subst h0k
   have hl':l=beB n size.toNat:=by simpa[beB]using hl
   subst hl'
   obtain rfl:s=size.toNat:=by omega
   repeat'(first|refine goR ?_|refine zd fun K hK=>?_|refine zc ?_ ?_<;>intro hcd<;>(try simp only[hcP]at hcd)<;>try exact cdT|((refine zo [0] (by rw[Tryz.results171,Lf.ym]) (zF ?_ ?_) ?_)<;>(try exact uT))|refine hK _ _ ?_;clear hK K|(apply_assumption (exfalso:=false) (symm:=false)))
  ·obtain ⟨k', rfl⟩ : ∃ k', k = k' + 1 := ⟨k - 1, by omega⟩
   have hsb:=zgB n h0 k' (by omega) (a-8) (by omega)
   have hU:=@hsb
   repeat'(first|refine goS ?_|refine zd fun K hK=>?_|refine zc ?_ ?_<;>intro hcd<;>(try simp only[hcP]at hcd)<;>try exact cdT|refine hK _ _ ?_;clear hK K|(dsimp only[Lf.yk,Lf.yJ]))
   refine⟨(a-8,l++[ju n k'],s+1),⟨k',by simp only[];omega,by omega,by simpa[beB]using hl,by dsimp only;omega⟩,by simp only[];omega,?_,arT,by simp[zk]⟩
   (refine⟨⟨_,sT,?_⟩,⟨_,sT,?_⟩,trivial⟩<;>(try exact zu))
theorem zat(b:List UInt8)(n:Int): 0<=z4 b n/\z4 b n<4294967296:=by
 unfold z4
 split
 ·rename_i h
  obtain⟨h1,h2⟩:=h
  have h4:n<=4:=by simp[okS]at h1;omega
  have:=zdu (b.take n.toNat)
  have hp:(je (b.take n.toNat).length:Int)<=4294967296:=(zdk _ (by rw[List.length_take];omega)).2
  omega
 ·omega
def vH(m:Int): Int:=if m<2147483648 then m else m-2147483648
theorem zgG(b:List UInt8)(a:Nat)(x:UInt8)(h:b[a]?=some x): z4 (b.drop a) 1=x.toNat:=by
 have hl:a<b.length:=(List.getElem?_eq_some_iff.1 h).1
 have e:(b.drop a).take 1=[x]:=by
  have h2:(b.drop a)[0]?=some x:=by rw[List.getElem?_drop,Nat.add_zero];exact h
  have:=vq h2
  simpa using this
 unfold z4
 rw[if_pos ⟨rfl,by rw[List.length_drop];omega⟩,show(1:Int).toNat=1 from rfl,e]
 simp[kG]
theorem hof(w t g s:Int)(r f:Bool)(b:List UInt8)(hl:b.length<=100000000000): AEq Tryz.prog 51 [.ag [i64 w,i64 t,i64 g,i64 s,bl r,.sl f false (b.map zk)]] [] (.ag [i64 b.length,i64 t,i64 g,i64 s,bl r]) []:=by
 refine enT Tryz.func51 Tryz.ntmps51 ?_
 have hU:=True.intro
 repeat'(first|refine goR ?_|refine zd fun K hK=>?_|((refine zX [] exT (by rfl) (by rw[Tryz.results51,Lf.zap];(try simp(disch:=omega)only[Lf.z3,go_sem,seval,↓reduceIte,hU]);rfl) sT sT (zw ?_) ?_)<;>(try exact uT))|refine hK _ _ ?_;clear hK K)
end Go.Proofs.YtdalcgfnlbofdaaGreatDoor
