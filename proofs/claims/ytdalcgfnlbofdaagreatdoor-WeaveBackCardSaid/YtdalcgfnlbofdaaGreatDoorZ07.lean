import Derived.Test.YtdalcgfnlbofdaaGreatDoorZ04
import Derived.Test.YtdalcgfnlbofdaaGreatDoorZ06
set_option linter.unusedVariables false
set_option linter.unusedSimpArgs false
namespace Go.Proofs.YtdalcgfnlbofdaaGreatDoor
open Go Go.Lf Go.Proofs
attribute [local irreducible] Lf.rg Lf.ro Lf.PWp Lf.SOp Lf.ACall Lf.Scoped Lf.dg Lf.dw
set_option maxRecDepth 20000
set_option maxHeartbeats 4000000
section
/-! the greater of two by vN -/
def slB(s:Bool)(l:List UInt8): List UInt8:=if s then yO (encL l)else l
def slF(s:Bool): Int:=if s then 128 else 0
def slP(s:Bool)(l:List UInt8): List UInt8:=vr (slF s) 7 ((slB s l).length:Int)++slB s l
theorem zx8(l:List UInt8): slP false l=vr 0 7 (l.length:Int)++l:=rfl
theorem zx9(l:List UInt8): slP true l=vr 128 7 ((yO (encL l)).length:Int)++yO (encL l):=rfl
theorem zjA(l:List UInt8): (yO (encL l)).length<=4*l.length:=by
 have h1:=zdh l
 rw[ja];omega
theorem yw(f b n:Int): 1<=(vr f b n).length/\(vr f b n).length<=6:=by
 unfold vr
 split
 ·rw[yj];omega
 ·have:=zgn 4 (n-(pwI b-1))
  rw[List.length_append,yj];omega
theorem zEx: (0:Int) % pwI 7=0:=by decide
theorem zup: (128:Int) % pwI 7=0:=by decide
theorem zn1: ∀x:Fin 256,jV .u8 (x.val:Int) 128=if(x.val:Int)<128 then 0 else 128:=by decide +kernel
theorem zjB{x:UInt8}(h:(x.toNat:Int)<128): jV .u8 (x.toNat:Int) 128=0:=by
 have:=zn1 ⟨x.toNat,x.toNat_lt⟩
 dsimp only at this
 rw[this,if_pos h]
theorem zjC{x:UInt8}(h:¬(x.toNat:Int)<128): jV .u8 (x.toNat:Int) 128=128:=by
 have:=zn1 ⟨x.toNat,x.toNat_lt⟩
 dsimp only at this
 rw[this,if_neg h]
theorem zn2(b:List UInt8): ∀(k a:Nat) (n:Int),0<=n->a+k<=5->0<=(pgF b k a n).1/\(pgF b k a n).1<=2147483647/\0<=(pgF b k a n).2.1/\(pgF b k a n).2.1<=(b.length:Int)/\(pgF b k a n).2.1<=6
 | 0,a,n,h,h2=>by rw[zqc];dsimp only;omega
 | k+1,a,n,h,h2=>by
  cases hx:b[a+1]? with
  | none=>rw[zdl hx];dsimp only;omega
  | some x=>
   have hl:=(List.getElem?_eq_some_iff.1 hx).1
   have hp:=zEw a
   have hm:0<=(x.toNat:Int) % 128*pwI (7*(a:Int)):=Int.mul_nonneg (by omega) (by omega)
   by_cases h1:(x.toNat:Int)<128
   ·by_cases h3:2147483647<n+(x.toNat:Int) % 128*pwI (7*(a:Int))
    ·rw[zfq hx h1 h3];dsimp only;omega
    ·rw[zdm hx h1 h3];dsimp only;omega
   ·rw[za8 hx h1]
    exact zn2 b k (a+1) _ (by omega) (by omega)
theorem zen(b:List UInt8){c:Int}(h1:1<=c)(h8:c<=8): 0<=(pgG b c).1/\(pgG b c).1<=2147483647/\0<=(pgG b c).2.1/\(pgG b c).2.1<=(b.length:Int)/\(pgG b c).2.1<=6:=by
 have hp:=zbI h1 h8
 cases hx:b[0]? with
 | none=>rw[za9 hx];dsimp only;omega
 | some x=>
  have hl:=(List.getElem?_eq_some_iff.1 hx).1
  have hm0:0<=(x.toNat:Int) % pwI c:=Int.emod_nonneg _ (by omega)
  by_cases h:(x.toNat:Int) % pwI c<pwI c-1
  ·rw[zgp hx h];dsimp only;omega
  ·rw[zgq hx h];exact zn2 b 5 0 _ hm0 (by omega)
theorem zuq(b:List UInt8){c:Int}(h:(pgG b c).2.2=0): 1<=b.length:=by
 cases hx:b[0]? with
 | none=>rw[za9 hx]at h;exact absurd h (by decide)
 | some x=>have hl:=(List.getElem?_eq_some_iff.1 hx).1;omega
def hiB(b:List UInt8): Bool:=match b[0]? with
 | some x=>decide (¬(x.toNat:Int)<128)
 | none=>false
theorem zjD{b:List UInt8}{x:UInt8}(h:b[0]?=some x): hiB b=decide (¬(x.toNat:Int)<128):=by unfold hiB;rw[h]
def zaI(b:List UInt8)(k n:Nat): List UInt8:=(b.drop k).take n
def slG(b:List UInt8)(most:Int): List UInt8×Bool×Int×Int:=
 if(pgG b 7).2.2≠0 then([],false,0,(pgG b 7).2.2)
 else if max most 0<(pgG b 7).1 then([],false,0,9)
 else if(b.length:Int)-(pgG b 7).2.1<(pgG b 7).1 then([],false,0,3)
 else if hiB b=false then(zaI b (pgG b 7).2.1.toNat (pgG b 7).1.toNat,false,(pgG b 7).2.1+(pgG b 7).1,0)
 else if(huM (bitsL (zaI b (pgG b 7).2.1.toNat (pgG b 7).1.toNat)) 0 0 []).2≠0 then([],false,0,(huM (bitsL (zaI b (pgG b 7).2.1.toNat (pgG b 7).1.toNat)) 0 0 []).2)
 else((huM (bitsL (zaI b (pgG b 7).2.1.toNat (pgG b 7).1.toNat)) 0 0 []).1,true,(pgG b 7).2.1+(pgG b 7).1,0)
attribute [local irreducible] pwI vr pgF pgG huM bitsL yO encL
theorem zrV(l:List UInt8)(s:Bool)(hl:l.length<=100000): AEq Tryz.prog 199 [.lit (.string ⟨l.toArray⟩),bl s] [] (.sl false false ((slP s l).map zk)) []:=by
 have h70:=zEx
 have h71:=zup
 have hel:=zjA l
 cases s with
 | false=>
  have hpl:=yw 0 7 (l.length:Int)
  rw[zx8,List.map_append]
  refine enT Tryz.func199 Tryz.ntmps199 ?_
  have hU:=True.intro
  repeat'(first|refine goS ?_|refine zd fun K hK=>?_|refine zc ?_ ?_<;>intro hcd<;>(try simp only[hcP]at hcd)<;>try exact cdT|(refine zj (f:=197) rfl Tryz.call197 (h:=AEq.sub' [] (hc:=jo _ _ _ aoT aoT aoT aoT aoT aoT aoT) (hq:=?_)))|(guard_target =~ SOp _ _ ⟨_,.convert _ _ _,_,_,_,none⟩ _ _ _;refine zja rfl bT sT bT sT lmT ?_)|((refine zo [] (by rw[Tryz.results199,Lf.zI]) (zw ?_) ?_)<;>(try exact uT))|refine hK _ _ ?_;clear hK K)
 | true=>
  have hpl:=yw 128 7 ((yO (encL l)).length:Int)
  rw[zx9,List.map_append]
  refine enT Tryz.func199 Tryz.ntmps199 ?_
  have hU:=True.intro
  repeat'(first|refine goS ?_|refine zd fun K hK=>?_|refine zc ?_ ?_<;>intro hcd<;>(try simp only[hcP]at hcd)<;>try exact cdT|(refine zj (f:=197) rfl Tryz.call197 (h:=AEq.sub' [] (hc:=jo _ _ _ aoT aoT aoT aoT aoT aoT aoT) (hq:=?_)))|(refine zj (f:=222) rfl Tryz.call222 (h:=AEq.pure' agT (zpX _ _ _ aoT) (hq:=?_)))|(guard_target =~ SOp _ _ ⟨_,.convert _ _ _,_,_,_,none⟩ _ _ _;refine zja rfl bT sT bT sT lmT ?_)|((refine zo [] (by rw[Tryz.results199,Lf.zI]) (zw ?_) ?_)<;>(try exact uT))|refine hK _ _ ?_;clear hK K)
theorem zya{b:List UInt8}{most:Int}(h:(pgG b 7).2.2≠0): slG b most=([],false,0,(pgG b 7).2.2):=by rw[slG,if_pos h]
theorem zmI{b:List UInt8}{most:Int}(h:(pgG b 7).2.2=0)(h2:max most 0<(pgG b 7).1): slG b most=([],false,0,9):=by rw[slG,if_neg (by simpa using h),if_pos h2]
theorem zjE{b:List UInt8}{most:Int}(h:(pgG b 7).2.2=0)(h2:¬max most 0<(pgG b 7).1)(h3:(b.length:Int)-(pgG b 7).2.1<(pgG b 7).1): slG b most=([],false,0,3):=by rw[slG,if_neg (by simpa using h),if_neg h2,if_pos h3]
theorem zdn{b:List UInt8}{most:Int}{k n:Nat}(h:(pgG b 7).2.2=0)(h2:¬max most 0<(pgG b 7).1)(h3:¬(b.length:Int)-(pgG b 7).2.1<(pgG b 7).1)(hk:(pgG b 7).2.1=k)(hn:(pgG b 7).1=n)(h4:hiB b=false): slG b most=(zaI b k n,false,(k:Int)+(n:Int),0):=by
 rw[slG,if_neg (by simpa using h),if_neg h2,if_neg h3,if_pos h4,hk,hn,Int.toNat_natCast,Int.toNat_natCast]
theorem zfr{b:List UInt8}{most:Int}{k n:Nat}(h:(pgG b 7).2.2=0)(h2:¬max most 0<(pgG b 7).1)(h3:¬(b.length:Int)-(pgG b 7).2.1<(pgG b 7).1)(hk:(pgG b 7).2.1=k)(hn:(pgG b 7).1=n)(h4:hiB b=true)(h5:(huM (bitsL (zaI b k n)) 0 0 []).2≠0): slG b most=([],false,0,(huM (bitsL (zaI b k n)) 0 0 []).2):=by
 rw[slG,if_neg (by simpa using h),if_neg h2,if_neg h3,if_neg (by simp[h4]),hk,hn,Int.toNat_natCast,Int.toNat_natCast,if_pos h5]
theorem zdo{b:List UInt8}{most:Int}{k n:Nat}(h:(pgG b 7).2.2=0)(h2:¬max most 0<(pgG b 7).1)(h3:¬(b.length:Int)-(pgG b 7).2.1<(pgG b 7).1)(hk:(pgG b 7).2.1=k)(hn:(pgG b 7).1=n)(h4:hiB b=true)(h5:(huM (bitsL (zaI b k n)) 0 0 []).2=0): slG b most=((huM (bitsL (zaI b k n)) 0 0 []).1,true,(k:Int)+(n:Int),0):=by
 rw[slG,if_neg (by simpa using h),if_neg h2,if_neg h3,if_neg (by simp[h4]),hk,hn,Int.toNat_natCast,Int.toNat_natCast,if_neg (by simpa using h5)]
theorem zbL(b:List UInt8)(most:Int): ((pgG b 7).2.2≠0/\slG b most=([],false,0,(pgG b 7).2.2))\/((pgG b 7).2.2=0/\1<=b.length/\max most 0<(pgG b 7).1/\slG b most=([],false,0,9))\/((pgG b 7).2.2=0/\1<=b.length/\¬max most 0<(pgG b 7).1/\(b.length:Int)-(pgG b 7).2.1<(pgG b 7).1/\slG b most=([],false,0,3))\/((pgG b 7).2.2=0/\1<=b.length/\¬max most 0<(pgG b 7).1/\¬(b.length:Int)-(pgG b 7).2.1<(pgG b 7).1):=by
 by_cases h:(pgG b 7).2.2=0
 ·have h1:=zuq b h
  by_cases h2:max most 0<(pgG b 7).1
  ·exact .inr (.inl ⟨h,h1,h2,zmI h h2⟩)
  by_cases h3:(b.length:Int)-(pgG b 7).2.1<(pgG b 7).1
  ·exact .inr (.inr (.inl ⟨h,h1,h2,h3,zjE h h2 h3⟩))
  ·exact .inr (.inr (.inr ⟨h,h1,h2,h3⟩))
 ·exact .inl ⟨h,zya h⟩
attribute [local irreducible] slG zaI
theorem zyb(f q:Bool)(b:List UInt8)(hb:b.length<=100000)(most:Int)(t:List UInt8)(s:Bool)(k e:Int)(htot:slG b most=(t,s,k,e)): AEq Tryz.prog 213 [.sl f q (b.map zk),i64 most] [] (.tu [.ag [.lit (.string ⟨t.toArray⟩),bl s],i64 k,i64 e]) []:=by
 have hbd:=zen b (c:=7) (by decide) (by decide)
 rcases zbL b most with⟨h1,h2⟩|⟨h1,h0,h3,h2⟩|⟨h1,h0,h3,h4,h2⟩|⟨h1,h0,h3,h4⟩
 ·rw[h2]at htot
  obtain⟨rfl,rfl,rfl,rfl⟩:t=[]/\s=false/\k=0/\e=(pgG b 7).2.2:=by simp only[Prod.mk.injEq]at htot;exact⟨htot.1.symm,htot.2.1.symm,htot.2.2.1.symm,htot.2.2.2.symm⟩
  refine enT Tryz.func213 Tryz.ntmps213 ?_
  have hU:=True.intro
  repeat'(first|refine goR ?_|refine zd fun K hK=>?_|refine zc ?_ ?_<;>intro hcd<;>(try simp only[hcP]at hcd)<;>try exact cdT|refine yt ?_|((refine zX [] exT (by rfl) (by rw[Tryz.results213];exact Lf.vC roT roT roT) sT sT (yI ?_ ?_ ?_) ?_)<;>(try exact uT))|refine hK _ _ ?_;clear hK K)
 ·rw[h2]at htot
  obtain⟨rfl,rfl,rfl,rfl⟩:t=[]/\s=false/\k=0/\e=9:=by simp only[Prod.mk.injEq]at htot;exact⟨htot.1.symm,htot.2.1.symm,htot.2.2.1.symm,htot.2.2.2.symm⟩
  refine enT Tryz.func213 Tryz.ntmps213 ?_
  have hU:=@h1
  repeat'(first|refine goR ?_|refine zd fun K hK=>?_|refine zc ?_ ?_<;>intro hcd<;>(try simp only[hcP]at hcd)<;>try exact cdT|refine y10 ?_|refine yt ?_|((refine zX [] exT (by rfl) (by rw[Tryz.results213];exact Lf.vC roT roT roT) sT sT (yI ?_ ?_ ?_) ?_)<;>(try exact uT))|refine hK _ _ ?_;clear hK K)
 ·rw[h2]at htot
  obtain⟨rfl,rfl,rfl,rfl⟩:t=[]/\s=false/\k=0/\e=3:=by simp only[Prod.mk.injEq]at htot;exact⟨htot.1.symm,htot.2.1.symm,htot.2.2.1.symm,htot.2.2.2.symm⟩
  refine enT Tryz.func213 Tryz.ntmps213 ?_
  have hU:=@h1
  repeat'(first|refine goR ?_|refine zd fun K hK=>?_|refine zc ?_ ?_<;>intro hcd<;>(try simp only[hcP]at hcd)<;>try exact cdT|refine y1x ?_|refine yt ?_|((refine zX [] exT (by rfl) (by rw[Tryz.results213];exact Lf.vC roT roT roT) sT sT (yI ?_ ?_ ?_) ?_)<;>(try exact uT))|refine hK _ _ ?_;clear hK K)
 ·obtain ⟨x, hx⟩ := yv (l := b) (i := 0) (by omega)
  have hxl:=x.toNat_lt
  obtain⟨k0,hk⟩:∃j:Nat,(pgG b 7).2.1=j:=⟨(pgG b 7).2.1.toNat,by omega⟩
  obtain⟨n0,hn⟩:∃j:Nat,(pgG b 7).1=j:=⟨(pgG b 7).1.toNat,by omega⟩
  have h30:=h3
  have h40:=h4
  rw[hn]at h3
  rw[hk,hn]at h4
  rw[hk,hn]at hbd
  have hcl:(zaI b k0 n0).length=n0:=by unfold zaI;rw[List.length_take,List.length_drop];omega
  have hcb:List.drop k0 (List.take ((k0:Int)+(n0:Int)).toNat b)=zaI b k0 n0:=by unfold zaI;rw[show((k0:Int)+(n0:Int)).toNat=k0+n0 from by omega,List.drop_take,Nat.add_sub_cancel_left]
  by_cases hlo:(x.toNat:Int)<128
  ·have ha:=zjB hlo
   rw[zdn h1 h30 h40 hk hn (by rw[zjD hx];simp[hlo])]at htot
   obtain⟨rfl,rfl,rfl,rfl⟩:t=zaI b k0 n0/\s=false/\k=(k0:Int)+(n0:Int)/\e=0:=by simp only[Prod.mk.injEq]at htot;exact⟨htot.1.symm,htot.2.1.symm,htot.2.2.1.symm,htot.2.2.2.symm⟩
   refine enT Tryz.func213 Tryz.ntmps213 ?_
   have hU:=And.intro @h1 ( And.intro @hk ( And.intro @hn ( And.intro @ha (@hcb))))
   repeat'(first|refine goR ?_|refine zd fun K hK=>?_|refine y7 ?_|refine zc ?_ ?_<;>intro hcd<;>(try simp only[hcP]at hcd)<;>try exact cdT|refine y10 ?_|refine yt ?_|(guard_target =~ SOp _ _ ⟨_,.convert _ _ _,_,_,_,none⟩ _ _ _;refine zc3 rfl (hK:=?_))|((refine zX [] exT (by rfl) (by rw[Tryz.results213];exact Lf.vC roT roT roT) sT sT (yI ?_ ?_ ?_) ?_)<;>(try exact uT))|(guard_target =~ dg _ _ _ _ _ _ _;first|(guard_target =~ dg _ _ _ (⟨_,.slice _ _ _ _ _,_,_,_,none⟩::_) _ _ _;(refine vz (x:=_) (h:=zH (h:=z8 rfl (hg:=(fun _=>gT)) (hK:=zl ⟨rfl,rfl⟩))) (hk:=?_)))|(guard_target =~ dg _ _ _ (⟨_,.indexAddr _ _ _,_,_,_,none⟩::_) _ _ _;(refine vz (x:=_) (h:=zH (h:=zZ rfl (hK:=zl ⟨rfl,rfl⟩))) (hk:=?_))))|refine hK _ _ ?_;clear hK K)
  ·have ha:=zjC hlo
   have hhi:hiB b=true:=by rw[zjD hx];simp[hlo]
   by_cases h5:(huM (bitsL (zaI b k0 n0)) 0 0 []).2=0
   ·rw[zdo h1 h30 h40 hk hn hhi h5]at htot
    obtain⟨rfl,rfl,rfl,rfl⟩:t=(huM (bitsL (zaI b k0 n0)) 0 0 []).1/\s=true/\k=(k0:Int)+(n0:Int)/\e=0:=by simp only[Prod.mk.injEq]at htot;exact⟨htot.1.symm,htot.2.1.symm,htot.2.2.1.symm,htot.2.2.2.symm⟩
    refine enT Tryz.func213 Tryz.ntmps213 ?_
    have hU:=And.intro @h1 ( And.intro @hk ( And.intro @hn ( And.intro @ha ( And.intro @hcb (@h5)))))
    repeat'(first|refine goR ?_|refine zd fun K hK=>?_|refine y7 ?_|refine zc ?_ ?_<;>intro hcd<;>(try simp only[hcP]at hcd)<;>try exact cdT|refine y10 ?_|refine yt ?_|(guard_target =~ SOp _ _ ⟨_,.convert _ _ _,_,_,_,none⟩ _ _ _;refine zc3 rfl (hK:=?_))|(refine zj (f:=233) rfl Tryz.call233 (h:=AEq.pure' agT (zjp _ _ _ (by omega)) (hq:=?_)))|((refine zX [] exT (by rfl) (by rw[Tryz.results213];exact Lf.vC roT roT roT) sT sT (yI ?_ ?_ ?_) ?_)<;>(try exact uT))|(guard_target =~ dg _ _ _ _ _ _ _;first|(guard_target =~ dg _ _ _ (⟨_,.slice _ _ _ _ _,_,_,_,none⟩::_) _ _ _;(refine vz (x:=_) (h:=zH (h:=z8 rfl (hg:=(fun _=>gT)) (hK:=zl ⟨rfl,rfl⟩))) (hk:=?_)))|(guard_target =~ dg _ _ _ (⟨_,.indexAddr _ _ _,_,_,_,none⟩::_) _ _ _;(refine vz (x:=_) (h:=zH (h:=zZ rfl (hK:=zl ⟨rfl,rfl⟩))) (hk:=?_))))|refine hK _ _ ?_;clear hK K)
   ·rw[zfr h1 h30 h40 hk hn hhi h5]at htot
    obtain⟨rfl,rfl,rfl,rfl⟩:t=[]/\s=false/\k=0/\e=(huM (bitsL (zaI b k0 n0)) 0 0 []).2:=by simp only[Prod.mk.injEq]at htot;exact⟨htot.1.symm,htot.2.1.symm,htot.2.2.1.symm,htot.2.2.2.symm⟩
    refine enT Tryz.func213 Tryz.ntmps213 ?_
    have hU:=And.intro @h1 ( And.intro @hk ( And.intro @hn ( And.intro @ha (@hcb))))
    repeat'(first|refine goR ?_|refine zd fun K hK=>?_|refine y7 ?_|refine zc ?_ ?_<;>intro hcd<;>(try simp only[hcP]at hcd)<;>try exact cdT|refine y10 ?_|refine yt ?_|(refine zj (f:=233) rfl Tryz.call233 (h:=AEq.pure' agT (zjp _ _ _ (by omega)) (hq:=?_)))|((refine zX [] exT (by rfl) (by rw[Tryz.results213];exact Lf.vC roT roT roT) sT sT (yI ?_ ?_ ?_) ?_)<;>(try exact uT))|(guard_target =~ dg _ _ _ _ _ _ _;first|(guard_target =~ dg _ _ _ (⟨_,.slice _ _ _ _ _,_,_,_,none⟩::_) _ _ _;(refine vz (x:=_) (h:=zH (h:=z8 rfl (hg:=(fun _=>gT)) (hK:=zl ⟨rfl,rfl⟩))) (hk:=?_)))|(guard_target =~ dg _ _ _ (⟨_,.indexAddr _ _ _,_,_,_,none⟩::_) _ _ _;(refine vz (x:=_) (h:=zH (h:=zZ rfl (hK:=zl ⟨rfl,rfl⟩))) (hk:=?_))))|refine hK _ _ ?_;clear hK K)
end
section
theorem zjF(s:Bool): slF s % pwI 7=0:=by cases s<;>decide
theorem zqe(s:Bool)(l:List UInt8): (slB s l).length<=4*l.length:=by
 cases s
 ·show l.length<=_;omega
 ·exact zjA l
attribute [local irreducible] pwI vr pgG huM bitsL yO encL slG zaI
theorem zrW(f q:Bool)(b:List UInt8)(hb:b.length<=100000)(most:Int): AEq Tryz.prog 213 [.sl f q (b.map zk),i64 most] [] (.tu [.ag [.lit (.string ⟨(slG b most).1.toArray⟩),bl (slG b most).2.1],i64 (slG b most).2.2.1,i64 (slG b most).2.2.2]) []:=zyb f q b hb most _ _ _ _ rfl
end
theorem zgr(b:List UInt8)(most:Int): 0<=(slG b most).2.2.1/\(slG b most).2.2.1<=(b.length:Int):=by
 have hbd:=zen b (c:=7) (by decide) (by decide)
 rcases zbL b most with⟨h1,h2⟩|⟨h1,h0,h3,h2⟩|⟨h1,h0,h3,h4,h2⟩|⟨h1,h0,h3,h4⟩
 ·rw[h2];dsimp only;omega
 ·rw[h2];dsimp only;omega
 ·rw[h2];dsimp only;omega
 ·obtain ⟨k0, hk⟩ : ∃ j : Nat, (pgG b 7).2.1 = j := ⟨(pgG b 7).2.1.toNat, by omega⟩
  obtain⟨n0,hn⟩:∃j:Nat,(pgG b 7).1=j:=⟨(pgG b 7).1.toNat,by omega⟩
  have h40:=h4
  rw[hk,hn]at h40
  cases hh:hiB b with
  | false=>rw[zdn h1 h3 h4 hk hn hh];dsimp only;omega
  | true=>
   by_cases h5:(huM (bitsL (zaI b k0 n0)) 0 0 []).2=0
   ·rw[zdo h1 h3 h4 hk hn hh h5];dsimp only;omega
   ·rw[zfr h1 h3 h4 hk hn hh h5];dsimp only;omega
structure Rp where
 (k i:Int) (nm:List UInt8) (ns:Bool) (vl:List UInt8) (vs:Bool) (sz n e:Int)
def zcB(e:Int): Rp:=⟨0,0,[],false,[],false,0,0,e⟩
def rgV(b:List UInt8)(k i:Int)(nm:List UInt8)(ns:Bool)(a:Nat): Rp:=
 if(slG (b.drop a) (b.length:Int)).2.2.2≠0 then zcB (slG (b.drop a) (b.length:Int)).2.2.2
 else⟨k,i,nm,ns,(slG (b.drop a) (b.length:Int)).1,(slG (b.drop a) (b.length:Int)).2.1,0,(a:Int)+(slG (b.drop a) (b.length:Int)).2.2.1,0⟩
def rgN(b:List UInt8)(k:Int)(a:Nat): Rp:=
 if(slG (b.drop a) (b.length:Int)).2.2.2≠0 then zcB (slG (b.drop a) (b.length:Int)).2.2.2
 else rgV b k 0 (slG (b.drop a) (b.length:Int)).1 (slG (b.drop a) (b.length:Int)).2.1 (a+(slG (b.drop a) (b.length:Int)).2.2.1.toNat)
def rgK(b:List UInt8)(k:Int)(p:Int×Int×Int): Rp:=
 if p.2.2≠0 then zcB p.2.2
 else if k=5 then⟨5,0,[],false,[],false,p.1,p.2.1,0⟩
 else if k=1 then(if p.1=0 then zcB 12 else⟨1,p.1,[],false,[],false,0,p.2.1,0⟩)
 else if p.1=0 then rgN b k p.2.1.toNat
 else rgV b k p.1 [] false p.2.1.toNat
def rgM(b:List UInt8): Rp:=match b[0]? with
 | none=>zcB 3
 | some x=>rgK b (vP x.toNat) (pgG b (biI (vP x.toNat)))
theorem zgs{b:List UInt8}(h:b[0]?=none): rgM b=zcB 3:=by rw[rgM,h]
theorem jb{b:List UInt8}{x:UInt8}{k:Int}{p:Int×Int×Int}(h:b[0]?=some x)(hk:vP x.toNat=k)(hp:pgG b (biI k)=p): rgM b=rgK b k p:=by rw[rgM,h];dsimp only;rw[hk,hp]
theorem zur{b:List UInt8}{k n j e:Int}(h:e≠0): rgK b k (n,j,e)=zcB e:=by rw[rgK,if_pos h]
theorem zqf{b:List UInt8}{n j:Int}: rgK b 5 (n,j,0)=⟨5,0,[],false,[],false,n,j,0⟩:=rfl
theorem zn3{b:List UInt8}{j:Int}: rgK b 1 (0,j,0)=zcB 12:=rfl
theorem zqg{b:List UInt8}{n j:Int}(h:¬n=0): rgK b 1 (n,j,0)=⟨1,n,[],false,[],false,0,j,0⟩:=by
 rw[rgK,if_neg (by simp),if_neg (by decide),if_pos rfl,if_neg h]
theorem zqh{b:List UInt8}{k:Int}{j:Nat}(h5:k≠5)(h1:k≠1): rgK b k (0,j,0)=rgN b k j:=by
 rw[rgK,if_neg (by simp),if_neg h5,if_neg h1,if_pos rfl,Int.toNat_natCast]
theorem zqi{b:List UInt8}{k n:Int}{j:Nat}(h5:k≠5)(h1:k≠1)(h:¬n=0): rgK b k (n,j,0)=rgV b k n [] false j:=by
 rw[rgK,if_neg (by simp),if_neg h5,if_neg h1,if_neg h,Int.toNat_natCast]
theorem zmJ{b:List UInt8}{k i:Int}{nm:List UInt8}{ns:Bool}{a:Nat}{t:List UInt8}{s:Bool}{j e:Int}(h:slG (b.drop a) (b.length:Int)=(t,s,j,e))(he:e≠0): rgV b k i nm ns a=zcB e:=by
 rw[rgV,h,if_pos he]
theorem zcC{b:List UInt8}{k i:Int}{nm:List UInt8}{ns:Bool}{a:Nat}{t:List UInt8}{s:Bool}{j:Int}(h:slG (b.drop a) (b.length:Int)=(t,s,j,0)): rgV b k i nm ns a=⟨k,i,nm,ns,t,s,0,(a:Int)+j,0⟩:=by
 rw[rgV,h,if_neg (by simp)]
theorem zus{b:List UInt8}{k:Int}{a:Nat}{t:List UInt8}{s:Bool}{j e:Int}(h:slG (b.drop a) (b.length:Int)=(t,s,j,e))(he:e≠0): rgN b k a=zcB e:=by
 rw[rgN,h,if_pos he]
theorem zgt{b:List UInt8}{k:Int}{a:Nat}{t:List UInt8}{s:Bool}{j:Nat}(h:slG (b.drop a) (b.length:Int)=(t,s,(j:Int),0)): rgN b k a=rgV b k 0 t s (a+j):=by
 rw[rgN,h,if_neg (by simp)];dsimp only;rw[Int.toNat_natCast]
theorem zgu{x:Int}(h0:0<=x): vP x=1\/vP x=2\/vP x=3\/vP x=4\/vP x=5:=by
 unfold vP
 split
 ·exact .inl rfl
 split
 ·exact .inr (.inl rfl)
 split
 ·exact .inr (.inr (.inr (.inr rfl)))
 split
 ·exact .inr (.inr (.inr (.inl rfl)))
 ·exact .inr (.inr (.inl rfl))
theorem zmK{k:Int}(h:k=1\/k=2\/k=3\/k=4\/k=5): ∃tl,List.drop (k.toNat*2) [AV.lit (.int .i64 0),AV.lit (.int .i64 0),AV.lit (.int .i64 128),AV.lit (.int .i64 7),AV.lit (.int .i64 64),AV.lit (.int .i64 6),AV.lit (.int .i64 0),AV.lit (.int .i64 4),AV.lit (.int .i64 16),AV.lit (.int .i64 4),AV.lit (.int .i64 32),AV.lit (.int .i64 5)]=i64 (frI k)::i64 (biI k)::tl:=by
 rcases h with rfl|rfl|rfl|rfl|rfl
 all_goals exact⟨_,rfl⟩
theorem zjG{k:Int}(h:k=1\/k=2\/k=3\/k=4\/k=5): 4<=biI k/\biI k<=7:=by
 rcases h with rfl|rfl|rfl|rfl|rfl
 all_goals decide
theorem zyc: biI 5=5:=by decide
theorem zyd: biI 1=7:=by decide
theorem zye: txB 1=false:=by decide
theorem zqj{k:Int}(h:k=1\/k=2\/k=3\/k=4\/k=5)(h1:k≠1)(h5:k≠5): txB k=true:=by
 obtain rfl|rfl|rfl:k=2\/k=3\/k=4:=by omega
 all_goals decide
attribute [local irreducible] pgG slG vP frI biI txB
end Go.Proofs.YtdalcgfnlbofdaaGreatDoor
