import Derived.Test.YtdalcgfnlbofdaaGreatDoorZ09
import Derived.Test.YtdalcgfnlbofdaaGreatDoorZ08
set_option linter.unusedVariables false
set_option linter.unusedSimpArgs false
namespace Go.Proofs.YtdalcgfnlbofdaaGreatDoor
open Go Go.Lf Go.Proofs
attribute [local irreducible] Lf.rg Lf.ro Lf.PWp Lf.SOp Lf.ACall Lf.Scoped Lf.dg
set_option maxRecDepth 20000
set_option maxHeartbeats 4000000
theorem zdp(s:Bool)(l z:List UInt8)(most:Int)(h:((slB s l).length:Int)<=most)(hl:l.length<=100000): slG (slP s l++z) most=(l,s,((slP s l).length:Int),0):=by
 have hb:=zqe s l
 have hf0:0<=slF s/\slF s<=255:=by cases s<;>decide
 have hp:=yw (slF s) 7 ((slB s l).length:Int)
 have hg:=zjz (f:=slF s) (c:=7) (n:=((slB s l).length:Int)) (slB s l++z) (by decide) (by decide) hf0.1 hf0.2 (zjF s) (by omega) (by omega)
 rw[<-List.append_assoc]at hg
 obtain⟨x,r,hx,hx1,hx2⟩:=zem (f:=slF s) (c:=7) (n:=((slB s l).length:Int)) (by decide) (by decide) hf0.1 hf0.2 (zjF s) (by omega)
 have h7:pwI 7=128:=zmH
 rw[h7]at hx2
 have hx0:(slP s l++z)[0]?=some x:=by unfold slP;rw[hx];rfl
 have e:slP s l=vr (slF s) 7 ((slB s l).length:Int)++slB s l:=rfl
 rw[<-e]at hg
 have hlen:(slP s l++z).length=(vr (slF s) 7 ((slB s l).length:Int)).length+(slB s l).length+z.length:=by rw[e,List.length_append,List.length_append]
 have hlen2:(slP s l).length=(vr (slF s) 7 ((slB s l).length:Int)).length+(slB s l).length:=by rw[e,List.length_append]
 have hcut:zaI (slP s l++z) (vr (slF s) 7 ((slB s l).length:Int)).length (slB s l).length=slB s l:=by
  unfold zaI
  rw[e,List.append_assoc,List.drop_left,List.take_left]
 have hh:=zjD hx0
 have g1:(pgG (slP s l++z) 7).2.2=0:=by rw[hg]
 have g2:(pgG (slP s l++z) 7).2.1=((vr (slF s) 7 ((slB s l).length:Int)).length:Int):=by rw[hg]
 have g3:(pgG (slP s l++z) 7).1=((slB s l).length:Int):=by rw[hg]
 have g4:¬max most 0<(pgG (slP s l++z) 7).1:=by rw[g3];omega
 have g5:¬((slP s l++z).length:Int)-(pgG (slP s l++z) 7).2.1<(pgG (slP s l++z) 7).1:=by rw[g2,g3,hlen];omega
 have hln:((vr (slF s) 7 ((slB s l).length:Int)).length:Int)+((slB s l).length:Int)=((slP s l).length:Int):=by rw[hlen2];omega
 cases s with
 | false=>
  have hs:hiB (slP false l++z)=false:=by rw[hh];have:slF false=0:=rfl;rw[this]at hx2;simp;omega
  rw[zdn g1 g4 g5 g2 g3 hs,hcut,hln];rfl
 | true=>
  have hs:hiB (slP true l++z)=true:=by rw[hh];have:slF true=128:=rfl;rw[this]at hx1;simp;omega
  have hd:huM (bitsL (slB true l)) 0 0 []=(l,0):=zp5 l
  rw[zdo g1 g4 g5 g2 g3 hs (by rw[hcut,hd]),hcut,hd,hln]
theorem zba{k n:Int}(z:List UInt8)(hk:k=1\/k=2\/k=3\/k=4\/k=5)(hn0:0<=n)(hn1:n<=2147483647): ∃x:UInt8,(vr (frI k) (biI k) n++z)[0]?=some x/\vP x.toNat=k/\pgG (vr (frI k) (biI k) n++z) (biI k)=(n,((vr (frI k) (biI k) n).length:Int),0):=by
 have hb:=zjG hk
 have hf:0<=frI k/\frI k<=255/\frI k % pwI (biI k)=0:=by
  rcases hk with rfl|rfl|rfl|rfl|rfl
  all_goals decide
 obtain⟨x,r,hx,hx1,hx2⟩:=zem (f:=frI k) (c:=biI k) (n:=n) (by omega) (by omega) hf.1 hf.2.1 hf.2.2 hn0
 refine⟨x,by rw[hx];rfl,?_,zjz z (by omega) (by omega) hf.1 hf.2.1 hf.2.2 hn0 hn1⟩
 have hxl:=x.toNat_lt
 rcases hk with rfl|rfl|rfl|rfl|rfl
 ·have e1:frI 1=128:=rfl
  rw[e1]at hx1
  unfold vP;rw[if_pos hx1]
 ·have e1:frI 2=64:=rfl
  have e2:pwI (biI 2)=64:=by decide
  rw[e1]at hx1 hx2;rw[e2]at hx2
  unfold vP;rw[if_neg (by omega),if_pos (by omega)]
 ·have e1:frI 3=0:=rfl
  have e2:pwI (biI 3)=16:=by decide
  rw[e1]at hx1 hx2;rw[e2]at hx2
  unfold vP;rw[if_neg (by omega),if_neg (by omega),if_neg (by omega),if_neg (by omega)]
 ·have e1:frI 4=16:=rfl
  have e2:pwI (biI 4)=16:=by decide
  rw[e1]at hx1 hx2;rw[e2]at hx2
  unfold vP;rw[if_neg (by omega),if_neg (by omega),if_neg (by omega),if_pos (by omega)]
 ·have e1:frI 5=32:=rfl
  have e2:pwI (biI 5)=32:=by decide
  rw[e1]at hx1 hx2;rw[e2]at hx2
  unfold vP;rw[if_neg (by omega),if_neg (by omega),if_pos (by omega)]
theorem zjI(s:Bool)(l:List UInt8): (slB s l).length<=(slP s l).length:=by
 unfold slP
 rw[List.length_append];omega
theorem zjJ{k i:Int}{nm:List UInt8}{ns:Bool}{vl:List UInt8}{vs:Bool}{sz:Int}(h:RP k i nm ns vl vs sz)(z:List UInt8)(hnl:nm.length<=100000)(hvl:vl.length<=100000): rgM (rpB k i nm ns vl vs sz++z)=⟨k,i,nm,ns,vl,vs,sz,((rpB k i nm ns vl vs sz).length:Int),0⟩:=by
 rcases zgy h with⟨rfl,rfl,rfl,rfl,rfl,rfl,h5,h6⟩|⟨rfl,rfl,rfl,rfl,rfl,rfl,h5,h6⟩|⟨hk,rfl,rfl⟩|⟨hk,rfl,rfl,rfl,h5,h6⟩
 ·rw[zut]
  obtain⟨x,hx,hkx,hp⟩:=zba (k:=5) (n:=sz) z (by omega) h5 h6
  rw[show frI 5=32 from rfl,show biI 5=5 from rfl]at hx hp
  rw[jb hx hkx (show pgG _ (biI 5)=_ from hp),zqf]
 ·rw[zuu]
  obtain⟨x,hx,hkx,hp⟩:=zba (k:=1) (n:=i) z (by omega) (by omega) h6
  rw[show frI 1=128 from rfl,show biI 1=7 from rfl]at hx hp
  rw[jb hx hkx (show pgG _ (biI 1)=_ from hp),zqg (by omega)]
 ·have ht : txB k = true := zqj (by omega) (by omega) (by omega)
  rw[zgw nm ns vl vs ht]
  obtain⟨x,hx,hkx,hp⟩:=zba (k:=k) (n:=0) (slP ns nm++(slP vs vl++z)) (by omega) (by decide) (by decide)
  have ea:vr (frI k) (biI k) 0++slP ns nm++slP vs vl++z=vr (frI k) (biI k) 0++(slP ns nm++(slP vs vl++z)):=by simp only[List.append_assoc]
  have hlen:(vr (frI k) (biI k) 0++(slP ns nm++(slP vs vl++z))).length=(vr (frI k) (biI k) 0).length+((slP ns nm).length+((slP vs vl).length+z.length)):=by simp only[List.length_append]
  have hl1:=zjI ns nm
  have hl2:=zjI vs vl
  have s1:=zdp ns nm (slP vs vl++z) ((vr (frI k) (biI k) 0++(slP ns nm++(slP vs vl++z))).length:Int) (by rw[hlen];omega) hnl
  have s2:=zdp vs vl z ((vr (frI k) (biI k) 0++(slP ns nm++(slP vs vl++z))).length:Int) (by rw[hlen];omega) hvl
  have d1:List.drop (vr (frI k) (biI k) 0).length (vr (frI k) (biI k) 0++(slP ns nm++(slP vs vl++z)))=slP ns nm++(slP vs vl++z):=List.drop_left
  have d2:List.drop ((vr (frI k) (biI k) 0).length+(slP ns nm).length) (vr (frI k) (biI k) 0++(slP ns nm++(slP vs vl++z)))=slP vs vl++z:=by
   rw[<-List.drop_drop,d1,List.drop_left]
  rw[ea,jb hx hkx hp,zqh (by omega) (by omega),zgt (by rw[d1];exact s1),zcC (by rw[d2];exact s2)]
  simp only[Rp.mk.injEq,true_and,and_true,List.length_append]
  omega
 ·have ht : txB k = true := zqj (by omega) (by omega) (by omega)
  rw[zgx vl vs ht (by omega)]
  obtain⟨x,hx,hkx,hp⟩:=zba (k:=k) (n:=i) (slP vs vl++z) (by omega) (by omega) h6
  have ea:vr (frI k) (biI k) i++slP vs vl++z=vr (frI k) (biI k) i++(slP vs vl++z):=by simp only[List.append_assoc]
  have hlen:(vr (frI k) (biI k) i++(slP vs vl++z)).length=(vr (frI k) (biI k) i).length+((slP vs vl).length+z.length):=by simp only[List.length_append]
  have hl2:=zjI vs vl
  have s2:=zdp vs vl z ((vr (frI k) (biI k) i++(slP vs vl++z)).length:Int) (by rw[hlen];omega) hvl
  have d1:List.drop (vr (frI k) (biI k) i).length (vr (frI k) (biI k) i++(slP vs vl++z))=slP vs vl++z:=List.drop_left
  rw[ea,jb hx hkx hp,zqi (by omega) (by omega) (by omega),zcC (by rw[d1];exact s2)]
  simp only[Rp.mk.injEq,true_and,and_true,List.length_append]
  omega
theorem zjK(b:List UInt8): ∀(k a:Nat) (n:Int),(pgF b k a n).2.2=0->1<=(pgF b k a n).2.1
 | 0,a,n,h=>by rw[zqc]at h;exact absurd h (by decide)
 | k+1,a,n,h=>by
  cases hx:b[a+1]? with
  | none=>rw[zdl hx]at h;exact absurd h (by decide)
  | some x=>
   by_cases h1:(x.toNat:Int)<128
   ·by_cases h3:2147483647<n+(x.toNat:Int) % 128*pwI (7*(a:Int))
    ·rw[zfq hx h1 h3]at h;exact absurd h (by decide)
    ·rw[zdm hx h1 h3];dsimp only;omega
   ·rw[za8 hx h1]at h ⊢
    exact zjK b k (a+1) _ h
theorem zqn{b:List UInt8}{c:Int}(h:(pgG b c).2.2=0): 1<=(pgG b c).2.1:=by
 cases hx:b[0]? with
 | none=>rw[za9 hx]at h;exact absurd h (by decide)
 | some x=>
  by_cases h1:(x.toNat:Int) % pwI c<pwI c-1
  ·rw[zgp hx h1];dsimp only;omega
  ·rw[zgq hx h1]at h ⊢;exact zjK b 5 0 _ h
theorem zdq(b:List UInt8): ((rgM b).e≠0/\(rgM b).n=0)\/((rgM b).e=0/\RP (rgM b).k (rgM b).i (rgM b).nm (rgM b).ns (rgM b).vl (rgM b).vs (rgM b).sz/\0<(rgM b).n/\(rgM b).n<=(b.length:Int)):=by
 by_cases hbe:b.length=0
 ·rw[zgs (List.getElem?_eq_none (by omega))];exact .inl ⟨by decide,rfl⟩
 obtain⟨x,hx⟩:=yv (l:=b) (i:=0) (by omega)
 obtain⟨κ,hkm⟩:∃c,vP (x.toNat:Int)=c:=⟨_,rfl⟩
 have hκ:=zgu (x:=(x.toNat:Int)) (by omega)
 rw[hkm]at hκ
 have hcb:=zjG hκ
 have hbd:=zen b (c:=biI κ) (by omega) (by omega)
 have hps:=zqn (b:=b) (c:=biI κ)
 obtain⟨⟨pn,pk,pe⟩,hp⟩:∃p,pgG b (biI κ)=p:=⟨_,rfl⟩
 rw[jb hx hkm hp]
 rw[hp]at hbd hps
 dsimp only at hbd hps
 obtain⟨a,rfl⟩:∃j:Nat,pk=j:=⟨pk.toNat,by omega⟩
 by_cases hpe:pe=0
 rotate_left
 ·rw[zur hpe];exact .inl ⟨hpe,rfl⟩
 subst hpe
 have hps:=hps rfl
 by_cases h5:κ=5
 ·subst h5
  rw[zqf]
  refine .inr ⟨rfl,?_,by dsimp only;omega,by dsimp only;omega⟩
  dsimp only;unfold RP;simp;omega
 by_cases h1:κ=1
 ·subst h1
  by_cases hn0:pn=0
  ·subst hn0;rw[zn3];exact .inl ⟨by decide,rfl⟩
  ·rw[zqg hn0]
   refine .inr ⟨rfl,?_,by dsimp only;omega,by dsimp only;omega⟩
   dsimp only;unfold RP;simp;omega
 have hdl:(List.drop a b).length=b.length-a:=List.length_drop
 obtain⟨⟨t1,s1,k1,e1⟩,hs1⟩:∃p,slG (b.drop a) (b.length:Int)=p:=⟨_,rfl⟩
 have hk1:=zgr (b.drop a) (b.length:Int)
 rw[hs1,hdl]at hk1
 dsimp only at hk1
 obtain⟨a1,rfl⟩:∃j:Nat,k1=j:=⟨k1.toNat,by omega⟩
 by_cases hn0:pn=0
 ·subst hn0
  rw[zqh h5 h1]
  by_cases he1:e1=0
  rotate_left
  ·rw[zus hs1 he1];exact .inl ⟨he1,rfl⟩
  subst he1
  rw[zgt hs1]
  have hdl2:(List.drop (a+a1) b).length=b.length-(a+a1):=List.length_drop
  obtain⟨⟨t2,s2,k2,e2⟩,hs2⟩:∃p,slG (b.drop (a+a1)) (b.length:Int)=p:=⟨_,rfl⟩
  have hk2:=zgr (b.drop (a+a1)) (b.length:Int)
  rw[hs2,hdl2]at hk2
  dsimp only at hk2
  by_cases he2:e2=0
  ·subst he2
   rw[zcC hs2]
   refine .inr ⟨rfl,?_,by dsimp only;omega,by dsimp only;omega⟩
   dsimp only;unfold RP;simp;omega
  ·rw[zmJ hs2 he2];exact .inl ⟨he2,rfl⟩
 ·rw[zqi h5 h1 hn0]
  by_cases he1:e1=0
  ·subst he1
   rw[zcC hs1]
   refine .inr ⟨rfl,?_,by dsimp only;omega,by dsimp only;omega⟩
   dsimp only;unfold RP;simp;omega
  ·rw[zmJ hs1 he1];exact .inl ⟨he1,rfl⟩
end Go.Proofs.YtdalcgfnlbofdaaGreatDoor
