import Derived.Test.YtdalcgfnlbofdaaGreatDoorZ22
set_option linter.unusedVariables false
set_option linter.unusedSimpArgs false
namespace Go.Proofs.YtdalcgfnlbofdaaGreatDoor
open Go Go.Lf Go.Proofs
attribute [local irreducible] Lf.rg Lf.ro Lf.PWp Lf.SOp Lf.ACall Lf.Scoped Lf.dg
set_option maxRecDepth 20000
set_option maxHeartbeats 4000000
def NoK(xs:List Fl): Prop:=∀f∈xs,f.k=false
theorem zu7: NoK xsE:=fun f hf=>by simp[xsE]at hf
theorem zg0{xs:List Fl}(h:NoK xs)(z:Int): NoK (keptL xs z):=fun f hf=>h f (v3 _ _ f hf)
theorem zm5{t:DT}(h:NoK t.xs)(f:Fl): NoK (zbU t f).xs:=by
 unfold zbU
 split
 ·intro g hg
  dsimp only at hg
  unfold addX at hg
  rw[List.mem_append,List.mem_singleton]at hg
  rcases hg with hg|rfl
  ·exact zg0 h _ g hg
  ·rfl
 ·exact zu7
def TEq(a b:DT): Prop:=a.xs=b.xs/\a.m=b.m
theorem zqZ{a b:DT}(h:TEq a b)(f:Fl): TEq (zbU a f) (zbU b f):=by
 obtain⟨x,s,m⟩:=a
 obtain⟨y,s',m'⟩:=b
 obtain⟨rfl,rfl⟩:=h
 unfold zbU
 dsimp only
 split<;>exact⟨rfl,rfl⟩
theorem zEG{g:Fl}(h:g.k=false): g=⟨g.n,g.v,false⟩:=by cases g;simp at h;rw[h]
theorem zu8{n v:ByteArray}{i:Int}(h:zaJ n v i=true): stF i=⟨n,v,false⟩:=by
 unfold zaJ at h
 have:=of_decide_eq_true h
 unfold stF
 rw[this.1,this.2]
theorem zg1(n v:ByteArray): ∀(R:List Fl) (i:Int),ku n v R i≠0->1<=i->∃(j:Nat) (g:Fl),R[j]?=some g/\g.n=n/\g.v=v/\ku n v R i=i+j
 | [],i,h,_=>absurd rfl h
 | f::R,i,h,hi=>by
  unfold ku at h ⊢
  by_cases hf:f.n=n/\f.v=v
  ·rw[if_pos hf]
   exact⟨0,f,rfl,hf.1,hf.2,by omega⟩
  ·rw[if_neg hf]at h ⊢
   obtain⟨j,g,h1,h2,h3,h4⟩:=zg1 n v R (i+1) h (by omega)
   exact⟨j+1,g,by simpa using h1,h2,h3,by rw[h4];omega⟩
theorem zg2(n:ByteArray): ∀(R:List Fl) (i:Int),vD n R i≠0->1<=i->∃(j:Nat) (g:Fl),R[j]?=some g/\g.n=n/\vD n R i=i+j
 | [],i,h,_=>absurd rfl h
 | f::R,i,h,hi=>by
  unfold vD at h ⊢
  by_cases hf:f.n=n
  ·rw[if_pos hf]
   exact⟨0,f,rfl,hf,by omega⟩
  ·rw[if_neg hf]at h ⊢
   obtain⟨j,g,h1,h2,h4⟩:=zg2 n R (i+1) h (by omega)
   exact⟨j+1,g,by simpa using h1,h2,by rw[h4];omega⟩
theorem zyB{xs:List Fl}{n v:ByteArray}(hk:NoK xs)(h:plB xs.reverse n v=true): dAt xs (plI xs.reverse n v)=some ⟨n,v,false⟩:=by
  unfold plI
  by_cases h1:zlq n v=true
  · rw[if_pos h1]
    have h2:=of_decide_eq_true h1
    have e:zdy n v=vi (zaJ n v) 61:=if_pos h2
    rcases yL (zaJ n v) 61 with⟨h3,_⟩|⟨a1,a2,a3,_⟩
    · exact absurd h3 h2
    · rw[e,zgO a1 a2,zu8 a3]
  · have h2:fnB xs.reverse n v=true:=by
      unfold plB at h
      simpa[h1]using h
    rw[if_neg h1,if_pos h2]
    have h3:=of_decide_eq_true h2
    have e:fnI xs.reverse n v=ku n v xs.reverse 1:=if_pos h3
    obtain⟨j,g,b1,b2,b3,b4⟩:=zg1 n v xs.reverse 1 h3 (by decide)
    rw[e,b4,zgP (by omega),show(61+(1+(j:Int))-61).toNat-1=j from by omega,b1]
    have:=zEG (hk g (List.mem_reverse.1 (List.mem_of_getElem? b1)))
    rw[this,b2,b3]
theorem zyC{xs:List Fl}{n:ByteArray}(h:nmI xs.reverse n≠0): ∃g,dAt xs (nmI xs.reverse n)=some g/\g.n=n:=by
 unfold nmI at h ⊢
 by_cases h1:stN n≠0
 ·rw[if_pos h1]
  rcases zgT n with⟨h3,_⟩|⟨a1,a2,a3,_⟩
  ·exact absurd h3 h1
  ·refine⟨_,zgO a1 a2,?_⟩
   show(v6 (stN n)).1=n
   unfold zhW at a3
   exact of_decide_eq_true a3
 ·rw[if_neg h1]at h ⊢
  by_cases h2:vD n xs.reverse 1≠0
  ·rw[if_pos h2]
   obtain⟨j,g,b1,b2,b4⟩:=zg2 n xs.reverse 1 h2 (by decide)
   refine⟨g,?_,b2⟩
   rw[b4,zgP (by omega),show(61+(1+(j:Int))-61).toNat-1=j from by omega,b1]
  ·rw[if_neg h2]at h;exact absurd rfl h
def zm6(r:Rw)(n:Int): Rp:=⟨r.k,r.i,ofB r.nm,r.ns,ofB r.vl,r.vs,0,n,0⟩
theorem zyD{k:Bool}{w:Int}: decide (kdI k w=4)=k:=by
 unfold kdI
 cases k
 ·simp;split<;>decide
 ·simp
theorem zg3{t td:DT}{F:List Fl}{S:List Int}{n v:ByteArray}{k:Bool}{w:Int}{nn sn sv:Bool}{r:Rw}{t':DT}(he:TEq t td)(hk:NoK t.xs)(hr:zaK t.xs.reverse n v k w nn sn sv=r)(ht:zcI t n v k w=t')(m:Int):
    ∃td',vQ ⟨F,S,td⟩ (zm6 r m)=(⟨snF F ⟨n,v,k⟩,S,td'⟩,0)/\TEq t' td'/\NoK t'.xs:=by
  have hkd:=zoo k w
  have hk4:=zyD (k:=k) (w:=w)
  have hxe:td.xs=t.xs:=he.1.symm
  cases hw:whl t.xs.reverse n v k w with
  | true=>
    rw[zgV hw]at hr
    rw[zom hw]at ht
    subst hr;subst ht
    obtain⟨hp,rfl,_,_⟩:=zqR hw
    have hpp:=zko hp
    have hg:fG td.xs (zm6 ⟨1,plI t.xs.reverse n v,⟨#[]⟩,false,⟨#[]⟩,false⟩ m)=some ⟨n,v,false⟩:=by
      rw[zwb (by show ¬plI t.xs.reverse n v=0;omega),hxe]
      exact zyB hk hp
    refine⟨td,?_,he,hk⟩
    rw[jK (by show(1:Int)≠5;decide) (by show(1:Int)≠2;decide) hg]
    rfl
  | false=>
    -- the field at the place of the name,or the name itself
    have hbase:∃g,fG td.xs (zm6 r m)=some g/\g.n=n/\r.vl=v/\r.k=kdI k w:=by
      rcases zgW hw hr with⟨_,rfl⟩|⟨_,_,rfl⟩|⟨_,hz,rfl⟩
      · exact⟨_,zwa rfl,zeu n,rfl,rfl⟩
      · exact⟨_,zwa rfl,zeu n,rfl,rfl⟩
      · obtain⟨g,h1,h2⟩:=zyC hz
        refine⟨g,?_,h2,rfl,rfl⟩
        rw[zwb hz,hxe];exact h1
    obtain⟨g,hg,hgn,hvl,hrk⟩:=hbase
    have hfv:fV (zm6 r m) g=⟨n,v,k⟩:=by
      unfold fV
      have h1:(zm6 r m).k=kdI k w:=hrk
      rw[if_neg (by rw[h1];omega),h1,hk4]
      show(⟨g.n,⟨(ofB r.vl).toArray⟩,k⟩:Fl)=_
      rw[hgn,zeu,hvl]
    have h5:(zm6 r m).k≠5:=by show r.k≠5;rw[hrk];omega
    by_cases h2:kdI k w=2
    · have h2' : (zm6 r m).k = 2 := by show r.k = 2; rw [hrk]; exact h2
      have hkf:k=false:=by
        cases k with
        | false=>rfl
        | true=>rw[h2]at hk4;exact absurd hk4 (by decide)
      have e:t'=zbU t ⟨n,v,k⟩:=by
        rw[<-ht];unfold zcI;rw[if_neg (by simp[hw]),if_pos h2]
      refine⟨zbU td ⟨n,v,k⟩,?_,?_,?_⟩
      · rw[zdB h2' hg,hfv]
      · rw[e];exact zqZ he _
      · rw[e];exact zm5 hk _
    · have h2' : (zm6 r m).k ≠ 2 := by show r.k ≠ 2; rw [hrk]; exact h2
      have e:t'=t:=by
        rw[<-ht];unfold zcI;rw[if_neg (by simp[hw]),if_neg h2]
      refine⟨td,?_,?_,?_⟩
      · rw[jK h5 h2' hg,hfv]
      · rw[e];exact he
      · rw[e];exact hk
theorem zq0{r:Rw}(h:zwe r)(z:List UInt8): rgM (rwB r++z)=zm6 r ((rwB r).length:Int):=by
 obtain⟨h1,h2,h3⟩:=h
 exact zjJ h1 z (by rw[zaL];omega) (by rw[zaL];omega)
theorem zm7{s:Int}(h0:0<=s)(h1:s<=2147483647)(z:List UInt8): rgM (zev s++z)=⟨5,0,[],false,[],false,s,((zev s).length:Int),0⟩:=
 zjJ ⟨by decide,by decide,⟨h0,h1⟩,.inl ⟨rfl,rfl,⟨rfl,rfl⟩,⟨rfl,rfl⟩⟩⟩ z (by decide) (by decide)
theorem zg4(a b c:List UInt8): zbd (zbd a b) c=zbd a (b++c):=List.append_assoc _ _ _
theorem zg5(a:List UInt8): zbd a []=a:=List.append_nil _
theorem zew(how:List Op4): ∀(l:List Fl) (i:Nat) (o:List UInt8) (t:DT),NoK t.xs->t.xs.length+l.length<=100000->(∀f∈l,f.n.size<=1000/\f.v.size<=1000) ->
    ∃(B:List UInt8) (t':DT),kw how l i ⟨o,t⟩=⟨zbd o B,t'⟩/\NoK t'.xs/\∀(n:Nat) (F:List Fl) (S:List Int) (td:DT),TEq t td->B.length<=n->∃td',TEq t' td'/\kP n B ⟨F,S,td⟩=(⟨F++l,S,td'⟩,0)
  | [],i,o,t,hk,_,_=>⟨[],t,by rw[zg5];rfl,hk,fun n F S td he _=>⟨td,he,by rw[zbc rfl,List.append_nil]⟩⟩
  | ⟨fn,fv,fk⟩::l,i,o,t,hk,hx,hz=>by
    have hz1:=hz _ List.mem_cons_self
    dsimp only at hz1
    rw[List.length_cons]at hx
    obtain⟨⟨ow,o1,o2,o3⟩,ho⟩:∃p,j9 how i=p:=⟨_,rfl⟩
    obtain⟨r,hr⟩:∃r,zaK t.xs.reverse fn fv fk ow o1 o2 o3=r:=⟨_,rfl⟩
    obtain⟨t1,ht⟩:∃t1,zcI t fn fv fk ow=t1:=⟨_,rfl⟩
    have hrw:=zdF hr (by rw[List.length_reverse];omega) hz1.1 hz1.2
    have hk1:NoK t1.xs:=(zg3 (F:=[]) (S:=[]) (td:=t) ⟨rfl,rfl⟩ hk hr ht 0).choose_spec.2.2
    have hx1:t1.xs.length<=t.xs.length+1:=by
      rw[<-ht];unfold zcI
      split
      · omega
      · split
        · unfold zbU
          split
          · exact zdz _ _ _
          · show xsE.length<=_;rw[zfy];omega
        · omega
    obtain⟨B,t',h1,h2,h3⟩:=zew how l (i+1) (zbd o (rwB r)) t1 hk1 (by omega) (fun y hy=>hz y (List.mem_cons_of_mem _ hy))
    refine⟨rwB r++B,t',?_,h2,fun n F S td he hn=>?_⟩
    · rw[kw,zop,ho]
      dsimp only
      rw[hr,ht,h1,zg4]
    · have hln:=zgX hrw
      rw[List.length_append]at hn
      obtain⟨n',rfl⟩:∃j,n=j+1:=⟨n-1,by omega⟩
      have hb:=zq0 hrw B
      obtain⟨td1,g1,g2,_⟩:=zg3 (F:=F) (S:=S) he hk hr ht ((rwB r).length:Int)
      obtain⟨td',g3,g4⟩:=h3 n' (snF F ⟨fn,fv,fk⟩) S td1 g2 (by omega)
      refine⟨td',g3,?_⟩
      rw[jv (a:=(rwB r).length) (by rw[List.length_append];omega) (by rw[hb];rfl) (by rw[hb];rfl) (by rw[hb];exact g1),List.drop_left,g4]
      unfold snF
      rw[List.append_assoc];rfl
theorem zg6: ∀(z:List Int) (o:List UInt8) (t:DT),NoK t.xs->(∀y∈z,0<=y/\y<=2147483647) ->
    ∃(B:List UInt8) (t':DT),jh z ⟨o,t⟩=⟨zbd o B,t'⟩/\NoK t'.xs/\t'.xs.length<=t.xs.length/\∀(n:Nat) (C:List UInt8) (S:List Int) (td:DT),TEq t td->(B++C).length<=n->∃td' n',TEq t' td'/\C.length<=n'/\kP n (B++C) ⟨[],S,td⟩=kP n' C ⟨[],S++z,td'⟩
  | [],o,t,hk,_=>⟨[],t,by rw[zg5];rfl,hk,Nat.le_refl _,fun n C S td he hn=>⟨td,n,he,hn,by rw[List.nil_append,List.append_nil]⟩⟩
  | y::z,o,t,hk,hz=>by
    have hz1:=hz _ List.mem_cons_self
    obtain⟨B,t',h1,h2,h4,h3⟩:=zg6 z (zbd o (zev y)) ⟨keptL t.xs y,t.s+1,y⟩ (zg0 hk y) (fun q hq=>hz q (List.mem_cons_of_mem _ hq))
    refine⟨zev y++B,t',?_,h2,Nat.le_trans h4 (yS _ _),fun n C S td he hn=>?_⟩
    · rw[jh,zrY]
      dsimp only
      rw[h1,zg4]
    · have hln:=zfz y
      rw[List.append_assoc,List.length_append]at hn
      obtain⟨n',rfl⟩:∃j,n=j+1:=⟨n-1,by omega⟩
      have hb:=zm7 hz1.1 hz1.2 (B++C)
      have hs:vQ ⟨[],S,td⟩ (rgM (zev y++(B++C)))=(⟨[],snI S y,⟨keptL td.xs y,td.s+1,y⟩⟩,0):=by
        rw[hb];exact j8 rfl (by simp)
      obtain⟨td',n2,g3,g5,g4⟩:=h3 n' C (snI S y) ⟨keptL td.xs y,td.s+1,y⟩ ⟨by dsimp only;rw[he.1],rfl⟩ (by omega)
      refine⟨td',n2,g3,g5,?_⟩
      rw[List.append_assoc,jv (a:=(zev y).length) (by rw[List.length_append];omega) (by rw[hb]) (by rw[hb]) hs,List.drop_left,g4]
      unfold snI
      rw[List.append_assoc];rfl
theorem zg7{z:List Int}{l:List Fl}{how:List Op4}{xs:List Fl}{s:Nat}{m:Int}{o:List UInt8}{xt:List Fl}{st:Nat}{mt:Int}(h:jL z l how ⟨xs,s,m⟩=⟨o,⟨xt,st,mt⟩⟩)(hk:NoK xs)(hx:xs.length<=30000)(hll:l.length<=100)(hz:zaV z=false)(hlb:∀f∈l,f.n.size<=1000/\f.v.size<=1000):
    NoK xt/\∃sd,kP o.length o ⟨xs0,ss0,⟨xs,0,m⟩⟩=(⟨l,z,⟨xt,sd,mt⟩⟩,0):=by
  obtain⟨B1,t1,a1,a2,a5,a3⟩:=zg6 z [] ⟨xs,s,m⟩ hk (zbW hz)
  obtain⟨B2,t2,b1,b2,b3⟩:=zew how l 0 (zbd [] B1) t1 a2 (by dsimp only at a5;omega) hlb
  unfold jL at h
  rw[a1,b1]at h
  obtain⟨rfl,rfl⟩:zbd (zbd [] B1) B2=o/\t2=⟨xt,st,mt⟩:=by simpa only[EQ.mk.injEq]using h
  refine⟨b2,?_⟩
  have e:zbd (zbd [] B1) B2=B1++B2:=rfl
  rw[e]
  obtain⟨td1,n1,c1,c2,c3⟩:=a3 (B1++B2).length B2 [] ⟨xs,0,m⟩ ⟨rfl,rfl⟩ (Nat.le_refl _)
  obtain⟨⟨xd,sd,md⟩,d1,d2⟩:=b3 n1 [] ([]++z) td1 c1 c2
  obtain⟨e1,e2⟩:=d1
  dsimp only at e1 e2
  subst e1;subst e2
  refine⟨sd,?_⟩
  show kP (B1++B2).length (B1++B2) ⟨[],[],⟨xs,0,m⟩⟩=_
  rw[c3,d2]
  simp
theorem zyE{R:List Fl}{n v:ByteArray}{k:Bool}{w:Int}{nn sn sv:Bool}(h1:(n.size:Int)<=300)(h2:(v.size:Int)<=300): (rwB (zaK R n v k w nn sn sv)).length<=2418:=by
 have a:=zkp (zaK R n v k w nn sn sv).k (zaK R n v k w nn sn sv).i (ofB (zaK R n v k w nn sn sv).nm) (zaK R n v k w nn sn sv).ns (ofB (zaK R n v k w nn sn sv).vl) (zaK R n v k w nn sn sv).vs 0
 rw[zaL,zaL]at a
 have b:(zaK R n v k w nn sn sv).nm.size<=300/\(zaK R n v k w nn sn sv).vl.size<=300:=by
  have ez:(⟨#[]⟩:ByteArray).size=0:=rfl
  cases hw:whl R n v k w with
  | true=>rw[zgV hw];dsimp only;omega
  | false=>
   rcases zgW (nn:=nn) (sn:=sn) (sv:=sv) hw rfl with⟨_,e⟩|⟨_,_,e⟩|⟨_,_,e⟩
   ·rw[e];dsimp only;omega
   ·rw[e];dsimp only;omega
   ·rw[e];dsimp only;omega
 unfold rwB
 omega
theorem zkt(how:List Op4): ∀(l:List Fl) (i:Nat) (q:EQ),(∀f∈l,(f.n.size:Int)<=300/\(f.v.size:Int)<=300)->(kw how l i q).o.length<=q.o.length+2418*l.length
 | [],i,q,_=>by rw[kw,List.length_nil];omega
 | f::l,i,q,hz=>by
  have hz1:=hz f List.mem_cons_self
  have a:=zkt how l (i+1) (zop q f (j9 how i)) (fun y hy=>hz y (List.mem_cons_of_mem _ hy))
  have b:=zyE (R:=q.t.xs.reverse) (k:=f.k) (w:=(j9 how i).w) (nn:=(j9 how i).nn) (sn:=(j9 how i).sn) (sv:=(j9 how i).sv) hz1.1 hz1.2
  have e1:(zop q f (j9 how i)).o.length=q.o.length+(rwB (zaK q.t.xs.reverse f.n f.v f.k (j9 how i).w (j9 how i).nn (j9 how i).sn (j9 how i).sv)).length:=List.length_append
  rw[kw,List.length_cons]
  omega
theorem zku{z:List Int}{l:List Fl}{how:List Op4}{t:DT}{Q:EQ}(h:jL z l how t=Q)(ht:TOk t)(hx:t.xs.length<=30000)(hz:zaV z=false)(hzl:z.length<=12)(hll:l.length<=12)(hlb:∀f∈l,(f.n.size:Int)<=300/\(f.v.size:Int)<=300): Q.o.length<=40000:=by
 unfold jL at h
 obtain⟨Q1,hQ1⟩:∃Q1,jh z ⟨[],t⟩=Q1:=⟨_,rfl⟩
 rw[hQ1]at h
 obtain⟨a,b,c⟩:=zdG z ⟨[],t⟩ Q1 hQ1 ht (zbW hz)
 rw[show(⟨[],t⟩:EQ).o.length=0 from rfl]at c
 have d:=zkt how l 0 Q1 hlb
 rw[h]at d
 omega
end Go.Proofs.YtdalcgfnlbofdaaGreatDoor
