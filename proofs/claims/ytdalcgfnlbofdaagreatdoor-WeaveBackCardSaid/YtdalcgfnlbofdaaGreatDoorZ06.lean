import Derived.Test.YtdalcgfnlbofdaaGreatDoorZ05
import Derived.Test.YtdalcgfnlbofdaaGreatDoorZ03
set_option linter.unusedVariables false
set_option linter.unusedSimpArgs false
namespace Go.Proofs.YtdalcgfnlbofdaaGreatDoor
open Go Go.Lf Go.Proofs
attribute [local irreducible] Lf.rg Lf.ro Lf.PWp Lf.SOp Lf.ACall Lf.Scoped Lf.dg Lf.dw
set_option maxRecDepth 20000
set_option maxHeartbeats 4000000
section
theorem zuo: ∀x:Fin 256,jV .u8 (x.val:Int) 127=(x.val:Int) % 128:=by decide +kernel
def pgF(b:List UInt8): Nat->Nat->Int->Int×Int×Int
 | 0,_,_=>(0,0,5)
 | k + 1, a, n => match b[a + 1]? with
  | none=>(0,0,3)
  | some x=>if(x.toNat:Int)<128 then(if 2147483647<n+(x.toNat:Int) % 128*pwI (7*(a:Int))then(0,0,5)else(n+(x.toNat:Int) % 128*pwI (7*(a:Int)),(a:Int)+2,0))else pgF b k (a+1) (n+(x.toNat:Int) % 128*pwI (7*(a:Int)))
theorem zqc{b:List UInt8}{a:Nat}{n:Int}: pgF b 0 a n=(0,0,5):=rfl
theorem zdl{b:List UInt8}{k a:Nat}{n:Int}(h:b[a+1]?=none): pgF b (k+1) a n=(0,0,3):=by rw[pgF,h]
theorem zfq{b:List UInt8}{k a:Nat}{n:Int}{x:UInt8}(h:b[a+1]?=some x)(h1:(x.toNat:Int)<128)(h2:2147483647<n+(x.toNat:Int) % 128*pwI (7*(a:Int))): pgF b (k+1) a n=(0,0,5):=by
 rw[pgF,h];dsimp only;rw[if_pos h1,if_pos h2]
theorem zdm{b:List UInt8}{k a:Nat}{n:Int}{x:UInt8}(h:b[a+1]?=some x)(h1:(x.toNat:Int)<128)(h2:¬2147483647<n+(x.toNat:Int) % 128*pwI (7*(a:Int))): pgF b (k+1) a n=(n+(x.toNat:Int) % 128*pwI (7*(a:Int)),(a:Int)+2,0):=by
 rw[pgF,h];dsimp only;rw[if_pos h1,if_neg h2]
theorem za8{b:List UInt8}{k a:Nat}{n:Int}{x:UInt8}(h:b[a+1]?=some x)(h1:¬(x.toNat:Int)<128): pgF b (k+1) a n=pgF b k (a+1) (n+(x.toNat:Int) % 128*pwI (7*(a:Int))):=by
 rw[pgF,h];dsimp only;rw[if_neg h1]
def pgG(b:List UInt8)(c:Int): Int×Int×Int:=match b[0]? with
 | none=>(0,0,3)
 | some x=>if(x.toNat:Int) % pwI c<pwI c-1 then((x.toNat:Int) % pwI c,1,0)else pgF b 5 0 ((x.toNat:Int) % pwI c)
theorem za9{b:List UInt8}{c:Int}(h:b[0]?=none): pgG b c=(0,0,3):=by rw[pgG,h]
theorem zgp{b:List UInt8}{c:Int}{x:UInt8}(h:b[0]?=some x)(h1:(x.toNat:Int) % pwI c<pwI c-1): pgG b c=((x.toNat:Int) % pwI c,1,0):=by rw[pgG,h];dsimp only;rw[if_pos h1]
theorem zgq{b:List UInt8}{c:Int}{x:UInt8}(h:b[0]?=some x)(h1:¬(x.toNat:Int) % pwI c<pwI c-1): pgG b c=pgF b 5 0 ((x.toNat:Int) % pwI c):=by rw[pgG,h];dsimp only;rw[if_neg h1]
theorem zEu{a:Nat}(h:a<=4): 1<=pwI (7*(a:Int))/\pwI (7*(a:Int))<=268435456:=by
 obtain rfl|rfl|rfl|rfl|rfl:a=0\/a=1\/a=2\/a=3\/a=4:=by omega
 all_goals decide
attribute [local irreducible] pwI pgF
theorem zx7(f q:Bool)(b:List UInt8)(hb:b.length<=1000000)(c:Int)(h1:1<=c)(h8:c<=8)(rn rk re:Int)(htot:pgG b c=(rn,rk,re)): AEq Tryz.prog 212 [.sl f q (b.map zk),i64 c] [] (.tu [i64 rn,i64 rk,i64 re]) []:=by
 have hp:=zbI h1 h8
 by_cases hbe:b.length=0
 ·have hb0 : b[0]? = none := List.getElem?_eq_none (by omega)
  rw[za9 hb0]at htot
  obtain⟨rfl,rfl,rfl⟩:rn=0/\rk=0/\re=3:=by simp only[Prod.mk.injEq]at htot;omega
  refine enT Tryz.func212 Tryz.ntmps212 ?_
  have hU:=True.intro
  repeat'(first|refine goR ?_|refine zd fun K hK=>?_|refine hK _ _ ?_;clear hK K)
  refine jH (S:=Unit) 0 (fun _=>[]) (fun _=>[]) (fun _=>False) (fun _=>0) (by rfl) (fun s hs=>absurd hs id) (fun _=>?_)
  exact wn
 ·obtain ⟨x, hx⟩ := yv (l := b) (i := 0) (by omega)
  have hxl:=x.toNat_lt
  have hand:=zfn (n:=(x.toNat:Int)) h1 h8 (by omega) (by omega)
  by_cases hlt:(x.toNat:Int) % pwI c<pwI c-1
  ·rw[zgp hx hlt]at htot
   obtain⟨rfl,rfl,rfl⟩:rn=(x.toNat:Int) % pwI c/\rk=1/\re=0:=by simp only[Prod.mk.injEq]at htot;omega
   refine enT Tryz.func212 Tryz.ntmps212 ?_
   have hU:=@hand
   repeat'(first|refine goR ?_|refine zd fun K hK=>?_|refine hK _ _ ?_;clear hK K)
   refine jH (S:=Unit) 0 (fun _=>[]) (fun _=>[]) (fun _=>False) (fun _=>0) (by rfl) (fun s hs=>absurd hs id) (fun _=>?_)
   exact wn
  ·rw[zgq hx hlt]at htot
   have hm0:0<=(x.toNat:Int) % pwI c:=Int.emod_nonneg _ (by omega)
   have hm1:(x.toNat:Int) % pwI c<pwI c:=Int.emod_lt_of_pos _ (by omega)
   refine enT Tryz.func212 Tryz.ntmps212 ?_
   have hU:=@hand
   repeat'(first|refine goR ?_|refine zd fun K hK=>?_|refine hK _ _ ?_;clear hK K)
   refine jH (S:=Nat×Int) 0 (fun s=>[(0,.sl f q (b.map zk)),(8,i64 s.1),(7,i64 s.2)]) (fun _=>[]) (fun s=>s.1<=5/\s.1+1<=b.length/\0<=s.2/\s.2<=256+34359738368*s.1/\pgF b (5-s.1) s.1 s.2=(rn,rk,re)) (fun s=>5-s.1) (by rfl) ?_ (fun hB=>?_)
   ·rintro⟨a,n⟩ ⟨ha,hab,hn0,hn1,htt⟩
    dsimp only at ha hab hn0 hn1 htt ⊢
    by_cases ha5:a=5
    ·subst ha5
     rw[show 5-5=0 from rfl,zqc]at htt
     obtain⟨rfl,rfl,rfl⟩:rn=0/\rk=0/\re=5:=by simp only[Prod.mk.injEq]at htt;omega
     have hU:=True.intro
     exact w9
    rw[show 5-a=(5-(a+1))+1 from by omega]at htt
    by_cases hal:a+1=b.length
    ·rw [zdl (List.getElem?_eq_none (by omega))] at htt
     obtain⟨rfl,rfl,rfl⟩:rn=0/\rk=0/\re=3:=by simp only[Prod.mk.injEq]at htt;omega
     have hU:=True.intro
     exact w9
    obtain⟨y,hy⟩:=yv (l:=b) (i:=a+1) (by omega)
    have hyl:=y.toNat_lt
    have hpa:=zEu (a:=a) (by omega)
    have h127:=zuo ⟨y.toNat,hyl⟩
    dsimp only at h127
    have hmul:0<=(y.toNat:Int) % 128*pwI (7*(a:Int))/\(y.toNat:Int) % 128*pwI (7*(a:Int))<=127*268435456:=⟨Int.mul_nonneg (by omega) (by omega),Int.mul_le_mul (by omega) hpa.2 (by omega) (by omega)⟩
    have hshl:IntKind.i64.wrap ((y.toNat:Int) % 128*2 ^ (7*((a:Int)+1-1)).toNat)=(y.toNat:Int) % 128*pwI (7*(a:Int)):=by
     rw[Int.add_sub_cancel]
     have e:(2:Int) ^ (7*(a:Int)).toNat=pwI (7*(a:Int)):=by unfold pwI;rfl
     rw[e,w64 (by omega)]
    generalize hv:(y.toNat:Int) % 128*pwI (7*(a:Int))=v at *
    by_cases hlt2:(y.toNat:Int)<128
    ·by_cases hbig:2147483647<n+v
     ·rw [zfq hy hlt2 (by rw [hv]; exact hbig)] at htt
      obtain⟨rfl,rfl,rfl⟩:rn=0/\rk=0/\re=5:=by simp only[Prod.mk.injEq]at htt;omega
      have hU:=And.intro @h127 (@hshl)
      exact w9
     ·rw [zdm hy hlt2 (by rw [hv]; exact hbig), hv] at htt
      obtain⟨rfl,rfl,rfl⟩:rn=n+v/\rk=(a:Int)+2/\re=0:=by simp only[Prod.mk.injEq]at htt;omega
      have hU:=And.intro @h127 (@hshl)
      exact w9
    ·rw[za8 hy hlt2,hv]at htt
     have hU:=And.intro @h127 (@hshl)
     repeat'(first|refine goR ?_|refine zd fun K hK=>?_|refine zc ?_ ?_<;>intro hcd<;>(try simp only[hcP]at hcd)<;>try exact cdT|refine y1b ?_|refine hK _ _ ?_;clear hK K|(dsimp only[Lf.yk,Lf.yJ])|(dsimp only[zi8])|(guard_target =~ (_:Nat)=_/\_;refine⟨rfl,?_⟩))
     refine⟨(a+1,n+v),[],⟨by dsimp only;omega,by dsimp only;omega,by dsimp only;omega,by dsimp only;omega,htt⟩,by dsimp only;omega,rfl,?_,?_⟩
     ·have hU:=True.intro
      (refine⟨⟨_,sT,?_⟩,⟨_,sT,?_⟩,⟨_,sT,?_⟩,trivial⟩<;>(try exact zu))
     ·rfl
   ·repeat' (first | (refine goR ?_) | (refine zd (fun K hK => ?_)) | ((refine zc (fun hcd => ?_) (fun hcd => ?_)) <;> (try simp only [hcP] at hcd) <;> (try exact cdT)) | (refine zj (f := 221) rfl Tryz.call221 (h := AEq.pure' agT (zju _ (by assumption) (by assumption)) (hq := ?_))) | (refine hK _ _ ?_; clear hK K))
    refine zbg ?_
    dsimp only[Lf.yk]
    refine hK _ _ ?_
    refine hB _ _ (0,(x.toNat:Int) % pwI c) [] ⟨by dsimp only;omega,by dsimp only;omega,hm0,by dsimp only;omega,htot⟩ rfl ?_ ?_
    ·have hU:=True.intro
     (refine⟨⟨_,sT,?_⟩,⟨_,sT,?_⟩,⟨_,sT,?_⟩,trivial⟩<;>(try exact zu))
    ·rfl
theorem zh8(f q:Bool)(b:List UInt8)(hb:b.length<=1000000)(c:Int)(h1:1<=c)(h8:c<=8): AEq Tryz.prog 212 [.sl f q (b.map zk),i64 c] [] (.tu [i64 (pgG b c).1,i64 (pgG b c).2.1,i64 (pgG b c).2.2]) []:=zx7 f q b hb c h1 h8 _ _ _ rfl
end
/-! what is put is got -/
theorem zEv(a:Nat): pwI (7*((a+1:Nat):Int))=128*pwI (7*(a:Int)):=by
 unfold pwI
 have e1:(7*((a+1:Nat):Int)).toNat=7*a+7:=by omega
 have e2:(7*(a:Int)).toNat=7*a:=by omega
 rw[e1,e2,Int.pow_add]
 have:(2:Int) ^ 7=128:=by decide
 rw[this,Int.mul_comm]
theorem zEw(a:Nat): 1<=pwI (7*(a:Int)):=by
 unfold pwI
 have e:((2:Int) ^ (7*(a:Int)).toNat)=((2 ^ (7*(a:Int)).toNat:Nat):Int):=by simp
 rw[e]
 have:=Nat.pow_pos (n:=(7*(a:Int)).toNat) (show 0<2 by decide)
 omega
theorem zqd: ∀(k a:Nat) (m n0:Int) (p z:List UInt8),p.length=a+1->0<=m->m<128 ^ (k+1)->n0+m*pwI (7*(a:Int))<=2147483647->pgF (p++(zb8 k m++z)) (k+1) a n0=(n0+m*pwI (7*(a:Int)),(a:Int)+1+((zb8 k m).length:Int),0):=by
 have last:∀(k a:Nat) (m n0:Int) (p z:List UInt8),p.length=a+1->0<=m->m<128->n0+m*pwI (7*(a:Int))<=2147483647->pgF (p++(zas m++z)) (k+1) a n0=(n0+m*pwI (7*(a:Int)),(a:Int)+1+((zas m).length:Int),0):=by
  intro k a m n0 p z hp h0 h1 hn
  have hx:(p++(zas m++z))[a+1]?=some (byI m):=by
   rw[List.getElem?_append_right (by omega),hp,Nat.sub_self];rfl
  have hv:=jI h0 (show m<=255 by omega)
  have hmm:((byI m).toNat:Int) % 128=m:=by omega
  rw[zdm hx (by omega) (by rw[hmm];omega),hmm,yj]
  simp only[Prod.mk.injEq,and_true,true_and]
  omega
 intro k
 induction k with
 | zero=>intro a m n0 p z hp h0 h1 hn;exact last 0 a m n0 p z hp h0 (by simpa using h1) hn
 | succ k ih=>
  intro a m n0 p z hp h0 h1 hn
  by_cases hlt:m<128
  ·rw[zjs hlt];exact last (k+1) a m n0 p z hp h0 hlt hn
  ·rw[zjt hlt]
   have hv:=jI (x:=128+m % 128) (by omega) (by omega)
   have hx:(p++(zas (128+m % 128)++zb8 k (m / 128)++z))[a+1]?=some (byI (128+m % 128)):=by
    rw[List.getElem?_append_right (by omega),hp,Nat.sub_self];rfl
   have hmm:((byI (128+m % 128)).toNat:Int) % 128=m % 128:=by omega
   have hs:n0+m % 128*pwI (7*(a:Int))+m / 128*pwI (7*((a+1:Nat):Int))=n0+m*pwI (7*(a:Int)):=by
    rw[zEv]
    have e:m / 128*(128*pwI (7*(a:Int)))=(128*(m / 128))*pwI (7*(a:Int)):=by rw[<-Int.mul_assoc,Int.mul_comm (m / 128) 128]
    rw[e,Int.add_assoc,<-Int.add_mul]
    congr 2;omega
   rw[za8 hx (by omega),hmm]
   rw[Int.pow_succ]at h1
   have hp2:(p++zas (128+m % 128)).length=a+1+1:=by rw[List.length_append,yj,hp]
   have h3:=ih (a+1) (m / 128) (n0+m % 128*pwI (7*(a:Int))) (p++zas (128+m % 128)) z hp2 (by omega) (by omega) (by rw[hs];exact hn)
   rw[hs]at h3
   rw[show p++(zas (128+m % 128)++zb8 k (m / 128)++z)=p++zas (128+m % 128)++(zb8 k (m / 128)++z)by simp[List.append_assoc],h3,List.length_append,yj]
   simp only[Prod.mk.injEq,and_true,true_and]
   omega
theorem zjz{f c n:Int}(z:List UInt8)(h1:1<=c)(h8:c<=8)(h0:0<=f)(h255:f<=255)(hf:f % pwI c=0)(hn0:0<=n)(hn1:n<=2147483647): pgG (vr f c n++z) c=(n,((vr f c n).length:Int),0):=by
 have hp:=zbI h1 h8
 have hfp:∀m,0<=m->m<pwI c->(f+m) % pwI c=m:=by
  intro m hm0 hm1
  rw[Int.add_emod,hf,Int.zero_add,Int.emod_emod_of_dvd _ (Int.dvd_refl _),Int.emod_eq_of_lt hm0 hm1]
 by_cases hlt:n<pwI c-1
 ·have hle := (zbJ h1 h8 hf h0 h255 hn0 (by omega)).2
  rw[zfo hlt]
  have hx:(zas (f+n)++z)[0]?=some (byI (f+n)):=rfl
  have hv:=jI (x:=f+n) (by omega) (by omega)
  have hm:=hfp n hn0 (by omega)
  rw[zgp hx (by rw[hv,hm];exact hlt),hv,hm,yj];rfl
 ·have hle := (zbJ (n := pwI c - 1) h1 h8 hf h0 h255 (by omega) (by omega)).2
  rw[zfp hlt]
  have hx:(zas (f+pwI c-1)++zb8 4 (n-(pwI c-1))++z)[0]?=some (byI (f+pwI c-1)):=rfl
  have hv:=jI (x:=f+pwI c-1) (by omega) (by omega)
  have hm:=hfp (pwI c-1) (by omega) (by omega)
  have hm2:((byI (f+pwI c-1)).toNat:Int) % pwI c=pwI c-1:=by rw[hv,show f+pwI c-1=f+(pwI c-1)from by omega,hm]
  have h70:pwI (7*((0:Nat):Int))=1:=by decide
  rw[zgq hx (by rw[hm2];omega),hm2,List.append_assoc,zqd 4 0 _ _ _ _ (yj _) (by omega) (by omega) (by rw[h70];omega),h70,List.length_append,yj]
  simp only[Prod.mk.injEq,and_true,true_and]
  omega
theorem zem{f c n:Int}(h1:1<=c)(h8:c<=8)(h0:0<=f)(h255:f<=255)(hf:f % pwI c=0)(hn0:0<=n): ∃x:UInt8,∃r,vr f c n=x::r/\f<=(x.toNat:Int)/\(x.toNat:Int)<f+pwI c:=by
 have hp:=zbI h1 h8
 by_cases hlt:n<pwI c-1
 ·have hle := (zbJ h1 h8 hf h0 h255 hn0 (by omega)).2
  have hv:=jI (x:=f+n) (by omega) (by omega)
  rw[zfo hlt]
  exact⟨byI (f+n),[],rfl,by omega,by omega⟩
 ·have hle := (zbJ (n := pwI c - 1) h1 h8 hf h0 h255 (by omega) (by omega)).2
  have hv:=jI (x:=f+pwI c-1) (by omega) (by omega)
  rw[zfp hlt]
  exact⟨byI (f+pwI c-1),zb8 4 (n-(pwI c-1)),rfl,by omega,by omega⟩
end Go.Proofs.YtdalcgfnlbofdaaGreatDoor
