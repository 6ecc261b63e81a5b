import Derived.Test.YtdalcgfnlbofdaaGreatDoorZ07
set_option linter.unusedVariables false
set_option linter.unusedSimpArgs false
namespace Go.Proofs.YtdalcgfnlbofdaaGreatDoor
open Go Go.Lf Go.Proofs
attribute [local irreducible] Lf.rg Lf.ro Lf.PWp Lf.SOp Lf.ACall Lf.Scoped Lf.dg Lf.dw
set_option maxRecDepth 20000
set_option maxHeartbeats 4000000
def at3(a b c:Nat): Nat->Nat
 | 0=>a
 | 1=>b
 | _=>c
def ze7: List AV:=[i64 0,i64 0,.lit (.string ⟨#[]⟩),bl false,.lit (.string ⟨#[]⟩),bl false,i64 0]
def bxT(κ:Int)(t1:List UInt8)(s1:Bool)(t2:List UInt8)(s2:Bool): Nat->List AV
 | 0=>[i64 κ,i64 0,.lit (.string ⟨#[]⟩),bl false,.lit (.string ⟨#[]⟩),bl false,i64 0]
 | 1=>[i64 κ,i64 0,.lit (.string ⟨t1.toArray⟩),bl s1,.lit (.string ⟨#[]⟩),bl false,i64 0]
 | _=>[i64 κ,i64 0,.lit (.string ⟨t1.toArray⟩),bl s1,.lit (.string ⟨t2.toArray⟩),bl s2,i64 0]
def bxV(κ n:Int)(t1:List UInt8)(s1:Bool): Nat->List AV
 | 0=>[i64 κ,i64 n,.lit (.string ⟨#[]⟩),bl false,.lit (.string ⟨#[]⟩),bl false,i64 0]
 | _=>[i64 κ,i64 n,.lit (.string ⟨#[]⟩),bl false,.lit (.string ⟨t1.toArray⟩),bl s1,i64 0]
attribute [local irreducible] pgG slG vP frI biI txB
theorem zmM(f q:Bool)(b:List UInt8)(hb:b.length<=100000)(k i:Int)(nm:List UInt8)(ns:Bool)(vl:List UInt8)(vs:Bool)(sz n e:Int)(htot:rgM b=⟨k,i,nm,ns,vl,vs,sz,n,e⟩): AEq Tryz.prog 187 [.sl f q (b.map zk)] [] (.tu [.ag [i64 k,i64 i,.lit (.string ⟨nm.toArray⟩),bl ns,.lit (.string ⟨vl.toArray⟩),bl vs,i64 sz],i64 n,i64 e]) []:=by
 by_cases hbe:b.length=0
 ·rw [zgs (List.getElem?_eq_none (by omega))] at htot
  obtain⟨rfl,rfl,rfl,rfl,rfl,rfl,rfl,rfl,rfl⟩:0=k/\0=i/\[]=nm/\false=ns/\[]=vl/\false=vs/\0=sz/\0=n/\3=e:=by simpa only[zcB,Rp.mk.injEq]using htot
  refine enT Tryz.func187 Tryz.ntmps187 ?_
  have hU:=True.intro
  repeat'(first|refine goR ?_|refine zd fun K hK=>?_|refine zc ?_ ?_<;>intro hcd<;>(try simp only[hcP]at hcd)<;>try exact cdT|((refine zX [] exT (by rfl) (by rw[Tryz.results187];exact Lf.vC roT roT roT) sT sT (yI ?_ ?_ ?_) ?_)<;>(try exact uT))|refine hK _ _ ?_;clear hK K)
 obtain⟨x,hx⟩:=yv (l:=b) (i:=0) (by omega)
 have hxl:=x.toNat_lt
 obtain⟨κ,hkm⟩:∃c,vP (x.toNat:Int)=c:=⟨_,rfl⟩
 have hκ:=zgu (x:=(x.toNat:Int)) (by omega)
 rw[hkm]at hκ
 have hcb:=zjG hκ
 obtain⟨tl,hfo⟩:=zmK hκ
 have hbd:=zen b (c:=biI κ) (by omega) (by omega)
 obtain⟨⟨pn,pk,pe⟩,hp⟩:∃p,pgG b (biI κ)=p:=⟨_,rfl⟩
 rw[jb hx hkm hp]at htot
 rw[hp]at hbd
 dsimp only at hbd
 obtain⟨a,rfl⟩:∃j:Nat,pk=j:=⟨pk.toNat,by omega⟩
 by_cases hpe:pe=0
 rotate_left
 ·rw[zur hpe]at htot
  obtain⟨rfl,rfl,rfl,rfl,rfl,rfl,rfl,rfl,rfl⟩:0=k/\0=i/\[]=nm/\false=ns/\[]=vl/\false=vs/\0=sz/\0=n/\pe=e:=by simpa only[zcB,Rp.mk.injEq]using htot
  refine enT Tryz.func187 Tryz.ntmps187 ?_
  have hU:=And.intro @hkm ( And.intro @hp (@hfo))
  exact wd
 subst hpe
 by_cases h5:κ=5
 ·subst h5
  have hp5:=hp
  rw[zyc]at hp5
  rw[zqf]at htot
  obtain⟨rfl,rfl,rfl,rfl,rfl,rfl,rfl,rfl,rfl⟩:5=k/\0=i/\[]=nm/\false=ns/\[]=vl/\false=vs/\pn=sz/\(a:Int)=n/\0=e:=by simpa only[zcB,Rp.mk.injEq]using htot
  refine enT Tryz.func187 Tryz.ntmps187 ?_
  have hU:=And.intro @hkm ( And.intro @hp5 (@hfo))
  exact wd
 by_cases h1:κ=1
 ·subst h1
  have hp5:=hp
  rw[zyd]at hp5
  have htx:=zye
  by_cases hn0:pn=0
  ·subst hn0
   rw[zn3]at htot
   obtain⟨rfl,rfl,rfl,rfl,rfl,rfl,rfl,rfl,rfl⟩:0=k/\0=i/\[]=nm/\false=ns/\[]=vl/\false=vs/\0=sz/\0=n/\12=e:=by simpa only[zcB,Rp.mk.injEq]using htot
   refine enT Tryz.func187 Tryz.ntmps187 ?_
   have hU:=And.intro @hkm ( And.intro @hp5 ( And.intro @hfo (@htx)))
   exact wd
  ·rw[zqg hn0]at htot
   obtain⟨rfl,rfl,rfl,rfl,rfl,rfl,rfl,rfl,rfl⟩:1=k/\pn=i/\[]=nm/\false=ns/\[]=vl/\false=vs/\0=sz/\(a:Int)=n/\0=e:=by simpa only[zcB,Rp.mk.injEq]using htot
   refine enT Tryz.func187 Tryz.ntmps187 ?_
   have hU:=And.intro @hkm ( And.intro @hp5 ( And.intro @hfo (@htx)))
   repeat'(first|refine goR ?_|refine zd fun K hK=>?_|refine zc ?_ ?_<;>intro hcd<;>(try simp only[hcP]at hcd)<;>try exact cdT|refine y1y ?_|refine y1z ?_|refine yt ?_|((refine zX [] exT (by rfl) (by rw[Tryz.results187];exact Lf.vC roT roT roT) sT sT (yI ?_ ?_ ?_) ?_)<;>(try exact uT))|refine hK _ _ ?_;clear hK K)
 have hda:List.drop a (List.take b.length b)=List.drop a b:=by rw[List.take_length]
 have hdl:(List.drop a b).length=b.length-a:=List.length_drop
 obtain⟨⟨t1,s1,k1,e1⟩,hs1⟩:∃p,slG (b.drop a) (b.length:Int)=p:=⟨_,rfl⟩
 have hk1:=zgr (b.drop a) (b.length:Int)
 rw[hs1,hdl]at hk1
 dsimp only at hk1
 obtain⟨a1,rfl⟩:∃j:Nat,k1=j:=⟨k1.toNat,by omega⟩
 have htx:=zqj hκ h1 h5
 by_cases hn0:pn=0
 ·subst hn0
  rw[zqh h5 h1]at htot
  have hdl2:(List.drop (a+a1) b).length=b.length-(a+a1):=List.length_drop
  obtain⟨⟨t2,s2,k2,e2⟩,hs2⟩:∃p,slG (b.drop (a+a1)) (b.length:Int)=p:=⟨_,rfl⟩
  have hk2:=zgr (b.drop (a+a1)) (b.length:Int)
  rw[hs2,hdl2]at hk2
  dsimp only at hk2
  obtain⟨a2,rfl⟩:∃j:Nat,k2=j:=⟨k2.toNat,by omega⟩
  refine enT Tryz.func187 Tryz.ntmps187 ?_
  have hU:=And.intro @hkm ( And.intro @hp ( And.intro @hfo (@htx)))
  repeat'(first|refine goR ?_|refine zd fun K hK=>?_|refine zc ?_ ?_<;>intro hcd<;>(try simp only[hcP]at hcd)<;>try exact cdT|refine y1y ?_|refine y1z ?_|refine y1c ?_|refine yt ?_|refine hK _ _ ?_;clear hK K)
  refine zN [3,4,7,11,12,13,14,74,75,76,77,78,79,80,81,82,83,84,85,86,87,88,89,90,91,92,93,94,95,96,97,98] (fun j:Nat=>[(74,i64 (j:Int)),(7,i64 (at3 a (a+a1) (a+a1+a2) j:Nat))]) (fun j=>[.box ze7,.box (bxT κ t1 s1 t2 s2 j),.row 0 298 1 [[.ptr 1 2],[.ptr 1 4]]]) (fun j=>j<=2/\(1<=j->e1=0)/\(2<=j->e2=0)) (fun j=>2-j) 0 ⟨by omega,fun h=>absurd h (by decide),fun h=>absurd h (by decide)⟩ ?_ rfl ?_
  ·dsimp only[at3]
   have hU:=True.intro
   (refine⟨⟨_,sT,?_⟩,⟨_,sT,?_⟩,trivial⟩<;>(try exact zu))
  ·rintro j ⟨hj,hj1,hj2⟩
   simp only[yN,List.map_cons,List.map_nil,List.cons_append,List.nil_append]
   obtain rfl|rfl|rfl:j=0\/j=1\/j=2:=by omega
   ·dsimp only[at3,bxT,ze7]
    by_cases he1:e1=0
    ·subst he1
     have hU:=@hs1
     repeat'(first|refine goR ?_|refine zd fun K hK=>?_|refine zc ?_ ?_<;>intro hcd<;>(try simp only[hcP]at hcd)<;>try exact cdT|(guard_target =~ SOp _ _ ⟨_,.slice _ _ _ _ _,_,_,_,none⟩ _ _ _;refine z8 rfl (hg:=(fun _=>gT)) (hK:=?_))|refine y1A ?_|refine hK _ _ ?_;clear hK K)
     refine⟨1,[0,1,2],⟨by decide,fun _=>rfl,fun h=>absurd h (by decide)⟩,by decide,rfl,?_,arT,?_⟩
     ·try dsimp only[at3]
      have hU:=True.intro
      (refine⟨⟨_,sT,?_⟩,⟨_,sT,?_⟩,trivial⟩<;>(try exact zu))
      all_goals first|exact yV (by omega)|trace_state
     ·try dsimp only[bxT,ze7]
      first|rfl|trace_state
    ·rw[zus hs1 he1]at htot
     obtain⟨rfl,rfl,rfl,rfl,rfl,rfl,rfl,rfl,rfl⟩:0=k/\0=i/\[]=nm/\false=ns/\[]=vl/\false=vs/\0=sz/\0=n/\e1=e:=by simpa only[zcB,Rp.mk.injEq]using htot
     have hU:=@hs1
     exact we
   ·dsimp only[at3,bxT,ze7]
    obtain rfl:=hj1 (Nat.le_refl _)
    rw[zgt hs1]at htot
    by_cases he2:e2=0
    ·subst he2
     have hU:=@hs2
     repeat'(first|refine goR ?_|refine zd fun K hK=>?_|refine zc ?_ ?_<;>intro hcd<;>(try simp only[hcP]at hcd)<;>try exact cdT|(guard_target =~ SOp _ _ ⟨_,.slice _ _ _ _ _,_,_,_,none⟩ _ _ _;refine z8 rfl (hg:=(fun _=>gT)) (hK:=?_))|refine y1A ?_|refine hK _ _ ?_;clear hK K)
     refine⟨2,[0,1,2],⟨by decide,fun _=>rfl,fun _=>rfl⟩,by decide,rfl,?_,arT,?_⟩
     ·try dsimp only[at3]
      have hU:=True.intro
      (refine⟨⟨_,sT,?_⟩,⟨_,sT,?_⟩,trivial⟩<;>(try exact zu))
      all_goals first|exact yV (by omega)|trace_state
     ·try dsimp only[bxT,ze7]
      first|rfl|trace_state
    ·rw[zmJ hs2 he2]at htot
     obtain⟨rfl,rfl,rfl,rfl,rfl,rfl,rfl,rfl,rfl⟩:0=k/\0=i/\[]=nm/\false=ns/\[]=vl/\false=vs/\0=sz/\0=n/\e2=e:=by simpa only[zcB,Rp.mk.injEq]using htot
     have hU:=@hs2
     exact we
   ·dsimp only[at3,bxT,ze7]
    obtain rfl:=hj1 (by decide)
    obtain rfl:=hj2 (by decide)
    rw[zgt hs1,zcC hs2]at htot
    obtain⟨rfl,rfl,rfl,rfl,rfl,rfl,rfl,rfl,rfl⟩:κ=k/\0=i/\t1=nm/\s1=ns/\t2=vl/\s2=vs/\0=sz/\((a+a1:Nat):Int)+(a2:Int)=n/\0=e:=by simpa only[zcB,Rp.mk.injEq]using htot
    have hU:=True.intro
    exact wq
 ·rw[zqi h5 h1 hn0]at htot
  refine enT Tryz.func187 Tryz.ntmps187 ?_
  have hU:=And.intro @hkm ( And.intro @hp ( And.intro @hfo (@htx)))
  repeat'(first|refine goR ?_|refine zd fun K hK=>?_|refine zc ?_ ?_<;>intro hcd<;>(try simp only[hcP]at hcd)<;>try exact cdT|(guard_target =~ SOp _ _ ⟨_,.slice _ _ _ _ _,_,_,_,none⟩ _ _ _;refine ze4 rfl (hK:=?_))|refine y1y ?_|refine y1z ?_|refine y1c ?_|refine yt ?_|refine hK _ _ ?_;clear hK K)
  refine zN [3,4,7,11,12,13,14,74,75,76,77,78,79,80,81,82,83,84,85,86,87,88,89,90,91,92,93,94,95,96,97,98] (fun j:Nat=>[(74,i64 (j:Int)),(7,i64 (at3 a (a+a1) 0 j:Nat))]) (fun j=>[.box ze7,.box (bxV κ pn t1 s1 j),.row 0 298 1 [[.ptr 1 2],[.ptr 1 4]]]) (fun j=>j<=1/\(1<=j->e1=0)) (fun j=>1-j) 0 ⟨by omega,fun h=>absurd h (by decide)⟩ ?_ rfl ?_
  ·dsimp only[at3]
   have hU:=True.intro
   (refine⟨⟨_,sT,?_⟩,⟨_,sT,?_⟩,trivial⟩<;>(try exact zu))
  ·rintro j ⟨hj,hj1⟩
   simp only[yN,List.map_cons,List.map_nil,List.cons_append,List.nil_append]
   obtain rfl|rfl:j=0\/j=1:=by omega
   ·dsimp only[at3,bxV,ze7]
    by_cases he1:e1=0
    ·subst he1
     have hU:=@hs1
     repeat'(first|refine goR ?_|refine zd fun K hK=>?_|refine zc ?_ ?_<;>intro hcd<;>(try simp only[hcP]at hcd)<;>try exact cdT|(guard_target =~ SOp _ _ ⟨_,.slice _ _ _ _ _,_,_,_,none⟩ _ _ _;refine z8 rfl (hg:=(fun _=>gT)) (hK:=?_))|refine y1A ?_|refine hK _ _ ?_;clear hK K)
     refine⟨1,[0,1,2],⟨by decide,fun _=>rfl⟩,by decide,rfl,?_,arT,?_⟩
     ·try dsimp only[at3]
      have hU:=True.intro
      (refine⟨⟨_,sT,?_⟩,⟨_,sT,?_⟩,trivial⟩<;>(try exact zu))
      all_goals first|exact yV (by omega)|trace_state
     ·try dsimp only[bxV,ze7]
      first|rfl|trace_state
    ·rw[zmJ hs1 he1]at htot
     obtain⟨rfl,rfl,rfl,rfl,rfl,rfl,rfl,rfl,rfl⟩:0=k/\0=i/\[]=nm/\false=ns/\[]=vl/\false=vs/\0=sz/\0=n/\e1=e:=by simpa only[zcB,Rp.mk.injEq]using htot
     have hU:=@hs1
     exact we
   ·dsimp only[at3,bxV,ze7]
    obtain rfl:=hj1 (Nat.le_refl _)
    rw[zcC hs1]at htot
    obtain⟨rfl,rfl,rfl,rfl,rfl,rfl,rfl,rfl,rfl⟩:κ=k/\pn=i/\[]=nm/\false=ns/\t1=vl/\s1=vs/\0=sz/\(a:Int)+(a1:Int)=n/\0=e:=by simpa only[zcB,Rp.mk.injEq]using htot
    have hU:=True.intro
    exact wq
theorem j6(f q:Bool)(b:List UInt8)(hb:b.length<=100000): AEq Tryz.prog 187 [.sl f q (b.map zk)] [] (.tu [.ag [i64 (rgM b).k,i64 (rgM b).i,.lit (.string ⟨(rgM b).nm.toArray⟩),bl (rgM b).ns,.lit (.string ⟨(rgM b).vl.toArray⟩),bl (rgM b).vs,i64 (rgM b).sz],i64 (rgM b).n,i64 (rgM b).e]) []:=zmM f q b hb _ _ _ _ _ _ _ _ _ rfl
end Go.Proofs.YtdalcgfnlbofdaaGreatDoor
