import Derived.Test.YtdalcgfnlbofdaaGreatDoorZ21
set_option linter.unusedVariables false
set_option linter.unusedSimpArgs false
namespace Go.Proofs.YtdalcgfnlbofdaaGreatDoor
open Go Go.Lf Go.Proofs
attribute [local irreducible] Lf.rg Lf.ro Lf.PWp Lf.SOp Lf.ACall Lf.Scoped Lf.dg Lf.dw
set_option maxRecDepth 20000
set_option maxHeartbeats 4000000
section
def ofB(b:ByteArray): List UInt8:=b.data.toList
theorem zaL(b:ByteArray): (ofB b).length=b.size:=by unfold ofB;rw[Array.length_toList];rfl
theorem zeu(b:ByteArray): (⟨(ofB b).toArray⟩:ByteArray)=b:=by cases b;rfl
def rwB(r:Rw): List UInt8:=rpB r.k r.i (ofB r.nm) r.ns (ofB r.vl) r.vs 0
def zev(z:Int): List UInt8:=rpB 5 0 [] false [] false z
def zwe(r:Rw): Prop:=RP r.k r.i (ofB r.nm) r.ns (ofB r.vl) r.vs 0/\r.nm.size<=1000/\r.vl.size<=1000
theorem zyy{R:List Fl}{n v:ByteArray}(h:plB R n v=true): plI R n v<=61+R.length:=by
 have a:=zu2 R n v
 rw[(zyx h).1]at a
 exact a.2
theorem zoo(k:Bool)(w:Int): kdI k w=2\/kdI k w=3\/kdI k w=4:=by
 unfold kdI;split
 ·omega
 ·split<;>omega
theorem zdF{R:List Fl}{n v:ByteArray}{k:Bool}{w:Int}{nn sn sv:Bool}{r:Rw}(hr:zaK R n v k w nn sn sv=r)(h:R.length<=100000)(h1:n.size<=1000)(h2:v.size<=1000): zwe r:=by
 have hk:=zoo k w
 have hb:=zu1 R n
 have e0:((0:Int)<=0/\(0:Int)<=2147483647):=by decide
 have ez:(⟨#[]⟩:ByteArray).size<=1000:=by decide
 cases hw:whl R n v k w with
 | true=>
  rw[zgV hw]at hr
  subst hr
  have hp:=(zqR hw).1
  have a:=zko hp
  have b:=zyy hp
  exact⟨⟨⟨by dsimp only;omega,by dsimp only;omega⟩,⟨by dsimp only;omega,by dsimp only;omega⟩,e0,.inr (.inl ⟨rfl,rfl,by dsimp only;omega,⟨rfl,rfl⟩,⟨rfl,rfl⟩⟩)⟩,ez,ez⟩
 | false=>
  rcases zgW hw hr with⟨_,rfl⟩|⟨_,hz,rfl⟩|⟨_,hz,rfl⟩
  ·exact⟨⟨⟨by dsimp only;omega,by dsimp only;omega⟩,e0,e0,.inr (.inr ⟨by dsimp only;omega,by dsimp only;omega,rfl,.inl rfl⟩)⟩,h1,h2⟩
  ·exact⟨⟨⟨by dsimp only;omega,by dsimp only;omega⟩,e0,e0,.inr (.inr ⟨by dsimp only;omega,by dsimp only;omega,rfl,.inl rfl⟩)⟩,h1,h2⟩
  ·exact⟨⟨⟨by dsimp only;omega,by dsimp only;omega⟩,⟨by dsimp only;omega,by dsimp only;omega⟩,e0,.inr (.inr ⟨by dsimp only;omega,by dsimp only;omega,rfl,.inr ⟨rfl,rfl⟩⟩)⟩,ez,h2⟩
theorem zkp(k i:Int)(nm:List UInt8)(ns:Bool)(vl:List UInt8)(vs:Bool)(sz:Int): 1<=(rpB k i nm ns vl vs sz).length/\(rpB k i nm ns vl vs sz).length<=4*nm.length+4*vl.length+18:=by
 have a:=yw (frI k) (biI k) (i+sz)
 have b:=zgv ns nm
 have c:=zgv vs vl
 unfold rpB
 rw[List.length_append]
 split
 ·rw[List.length_append]
  split
  ·omega
  ·rw[List.length_nil];omega
 ·rw[List.length_nil];omega
theorem zgX{r:Rw}(h:zwe r): 1<=(rwB r).length/\(rwB r).length<=8018:=by
 have a:=zkp r.k r.i (ofB r.nm) r.ns (ofB r.vl) r.vs 0
 rw[zaL,zaL]at a
 obtain⟨_,h1,h2⟩:=h
 unfold rwB
 omega
theorem zfz(z:Int): 1<=(zev z).length/\(zev z).length<=18:=by
 have a:=zkp 5 0 [] false [] false z
 unfold zev
 simpa using a
structure EQ where
 (o:List UInt8) (t:DT)
def zbd(a b:List UInt8): List UInt8:=a++b
def zrY(q:EQ)(z:Int): EQ:=⟨zbd q.o (zev z),⟨keptL q.t.xs z,q.t.s+1,z⟩⟩
def jh: List Int->EQ->EQ
 | [],q=>q
 | z::l,q=>jh l (zrY q z)
def op0: Op4:=⟨0,false,false,false⟩
def j9(how:List Op4)(i:Nat): Op4:=match how[i % how.length]? with|some o=>o|none=>op0
def zop(q:EQ)(f:Fl)(o:Op4): EQ:=⟨zbd q.o (rwB (zaK q.t.xs.reverse f.n f.v f.k o.w o.nn o.sn o.sv)),zcI q.t f.n f.v f.k o.w⟩
def kw(how:List Op4): List Fl->Nat->EQ->EQ
 | [],_,q=>q
 | f::l,i,q=>kw how l (i+1) (zop q f (j9 how i))
def jL(sizes:List Int)(l:List Fl)(how:List Op4)(t:DT): EQ:=kw how l 0 (jh sizes ⟨[],t⟩)
theorem zu3{i:Nat}: j9 [] i=⟨0,false,false,false⟩:=rfl
theorem zkq{how:List Op4}{i:Nat}{o:Op4}(h:how[i % how.length]?=some o): j9 how i=o:=by unfold j9;rw[h]
theorem zfA{t t':DT}{n v:ByteArray}{k:Bool}{w:Int}(ht:zcI t n v k w=t')(h:TOk t)(h1:n.size<=1000000)(h2:v.size<=1000000): TOk t'/\t'.xs.length<=t.xs.length+1/\t'.m=t.m:=by
 subst ht
 unfold zcI
 split
 ·exact⟨h,by omega,rfl⟩
 ·split
  ·exact zkk (f:=⟨n,v,k⟩) h h1 h2
  ·exact⟨h,by omega,rfl⟩
theorem zoq{t:DT}{z:Int}(h:TOk t)(h1:0<=z)(h2:z<=2147483647): TOk ⟨keptL t.xs z,t.s+1,z⟩/\(keptL t.xs z).length<=t.xs.length:=
 ⟨⟨vO _ h1 _,h1,h2,fun f hf=>h.2.2.2 f (v3 _ _ f hf)⟩,yS _ _⟩
theorem zdG: ∀(l:List Int) (q Q:EQ),jh l q=Q->TOk q.t->(∀z∈l,0<=z/\z<=2147483647)->TOk Q.t/\Q.t.xs.length<=q.t.xs.length/\Q.o.length<=q.o.length+18*l.length
 | [],q,Q,h,ht,hz=>by subst h;exact⟨ht,Nat.le_refl _,by rw[List.length_nil,jh];omega⟩
 | z::l,q,Q,h,ht,hz=>by
  have hz1:=hz z List.mem_cons_self
  obtain⟨a,b⟩:=zoq (z:=z) ht hz1.1 hz1.2
  obtain⟨c,d,e⟩:=zdG l (zrY q z) Q h a (fun y hy=>hz y (List.mem_cons_of_mem _ hy))
  have hl:=zfz z
  have e1:(zrY q z).o.length=q.o.length+(zev z).length:=List.length_append
  have e2:(zrY q z).t.xs.length=(keptL q.t.xs z).length:=rfl
  rw[List.length_cons]
  exact⟨c,by omega,by omega⟩
theorem zgY(how:List Op4): ∀(l:List Fl) (i:Nat) (q Q:EQ),kw how l i q=Q->TOk q.t->q.t.xs.length+l.length<=100000->(∀f∈l,f.n.size<=1000/\f.v.size<=1000)->TOk Q.t/\Q.t.xs.length<=q.t.xs.length+l.length/\Q.o.length<=q.o.length+8018*l.length/\Q.t.m=q.t.m
 | [],i,q,Q,h,ht,hx,hz=>by subst h;exact⟨ht,by rw[List.length_nil,kw];omega,by rw[List.length_nil,kw];omega,rfl⟩
 | f::l,i,q,Q,h,ht,hx,hz=>by
  have hz1:=hz f List.mem_cons_self
  rw[List.length_cons]at hx
  obtain⟨a,b,c⟩:=zfA (t:=q.t) (n:=f.n) (v:=f.v) (k:=f.k) (w:=(j9 how i).w) rfl ht (by omega) (by omega)
  have hr:=zdF (R:=q.t.xs.reverse) (n:=f.n) (v:=f.v) (k:=f.k) (w:=(j9 how i).w) (nn:=(j9 how i).nn) (sn:=(j9 how i).sn) (sv:=(j9 how i).sv) rfl (by rw[List.length_reverse];omega) hz1.1 hz1.2
  have hl:=zgX hr
  have e1:(zop q f (j9 how i)).o.length=q.o.length+(rwB (zaK q.t.xs.reverse f.n f.v f.k (j9 how i).w (j9 how i).nn (j9 how i).sn (j9 how i).sv)).length:=List.length_append
  have e2:(zop q f (j9 how i)).t=zcI q.t f.n f.v f.k (j9 how i).w:=rfl
  obtain⟨d,e,g,m⟩:=zgY how l (i+1) (zop q f (j9 how i)) Q h (by rw[e2];exact a) (by rw[e2];omega) (fun y hy=>hz y (List.mem_cons_of_mem _ hy))
  rw[e2]at e m
  rw[List.length_cons]
  exact⟨d,by omega,by omega,by omega⟩
attribute [local irreducible] rpB
theorem zor(k i:Int)(nm:ByteArray)(ns:Bool)(vl:ByteArray)(vs:Bool)(h:zwe ⟨k,i,nm,ns,vl,vs⟩): AEq Tryz.prog 174 [.ag [i64 k,i64 i,.lit (.string nm),bl ns,.lit (.string vl),bl vs,i64 0]] [] (.tu [.sl false false ((rwB ⟨k,i,nm,ns,vl,vs⟩).map zk),i64 0]) []:=by
 have h2:=zjH k i (ofB nm) ns (ofB vl) vs 0 (by rw[zaL];have:=h.2.1;dsimp only at this;omega) (by rw[zaL];have:=h.2.2;dsimp only at this;omega) h.1
 rw[zeu,zeu]at h2
 exact h2
theorem zu4(z:Int)(h1:0<=z)(h2:z<=2147483647): AEq Tryz.prog 174 [.ag [i64 5,i64 0,.lit (.string ⟨#[]⟩),bl false,.lit (.string ⟨#[]⟩),bl false,i64 z]] [] (.tu [.sl false false ((zev z).map zk),i64 0]) []:=
 zjH 5 0 [] false [] false z (by decide) (by decide) ⟨by decide,by decide,⟨h1,h2⟩,.inl ⟨rfl,rfl,⟨rfl,rfl⟩,⟨rfl,rfl⟩⟩⟩
end
section
structure ES where
 (i a:Nat) (q:EQ)
def zEE(l:List Int)(t0:DT)(Q:EQ)(w:ES): Prop:=w.i<=l.length/\jh (l.drop w.i) w.q=Q/\TOk w.q.t/\w.q.t.xs.length<=30000/\w.q.o.length<=18*w.i
def zEF(how:List Op4)(l:List Fl)(Q:EQ)(w:ES): Prop:=w.i<=l.length/\kw how (l.drop w.i) w.i w.q=Q/\TOk w.q.t/\w.q.t.xs.length<=30000+w.i/\w.q.o.length<=2000+8018*w.i
theorem zqU{l:List Int}{i:Nat}{z:Int}{q Q:EQ}(hz:l[i]?=some z)(h:jh (l.drop i) q=Q): jh (l.drop (i+1)) (zrY q z)=Q:=by
 rw[vU hz,jh]at h;exact h
theorem zu5{l:List Int}{i:Nat}{q Q:EQ}(hi:¬i<l.length)(h:jh (l.drop i) q=Q): q=Q:=by
 rw[List.drop_eq_nil_of_le (by omega)]at h;exact h
theorem zkr{how:List Op4}{l:List Fl}{i:Nat}{f:Fl}{o:Op4}{q Q:EQ}{r:Rw}{t:DT}(hf:l[i]?=some f)(ho:j9 how i=o)(hr:zaK q.t.xs.reverse f.n f.v f.k o.w o.nn o.sn o.sv=r)(ht:zcI q.t f.n f.v f.k o.w=t)(h:kw how (l.drop i) i q=Q): kw how (l.drop (i+1)) (i+1) ⟨zbd q.o (rwB r),t⟩=Q:=by
 rw[vU hf,kw,zop,ho,hr,ht]at h;exact h
theorem zu6{how:List Op4}{l:List Fl}{i:Nat}{q Q:EQ}(hi:¬i<l.length)(h:kw how (l.drop i) i q=Q): q=Q:=by
 rw[List.drop_eq_nil_of_le (by omega)]at h;exact h
theorem zqV{α:Type}{l:List α}(h:l.length=0): l=[]:=List.length_eq_zero_iff.1 h
theorem zdH(a b:List UInt8): (zbd a b).length=a.length+b.length:=List.length_append
theorem zdI(a b:List UInt8): a.map zk++b.map zk=(zbd a b).map zk:=by unfold zbd;rw[List.map_append]
theorem zdJ(i n:Nat): Int.tmod (i:Int) (n:Int)=((i % n:Nat):Int):=by rw[Int.ofNat_tmod]
attribute [local irreducible] wt zC keptL flN addX v6 xsE zbU plB plI nmI zaK zcI zv1 zub rpB rwB zev zbd jh kw op0
theorem zos(f1 q1 f2 q2 f3 q3:Bool)(sizes:List Int)(l:List Fl)(wy:List Op4)(hsl:sizes.length<=9223372036854775807)(xs:List Fl)(s:Nat)(m:Int)(hz:zaV sizes=true): AEq Tryz.prog 131 [.ptr 0 0,.sl f1 q1 (sizes.map yz),.sl f2 q2 (l.map flA),.sl f3 q3 (wy.map opA)] [.box [.ptr 1 0],.box [.row 2 s,i64 (zC xs),i64 m],.row s 103 3 (xs.map flA)] (.tu [.sl true false [],i64 1]) [.box [.ptr 1 0],.box [.row 2 s,i64 (zC xs),i64 m],.row s 103 3 (xs.map flA)]:=by
 refine enT Tryz.func131 Tryz.ntmps131 ?_
 have hU:=@hz
 repeat'(first|refine goR ?_|refine zd fun K hK=>?_|refine zc ?_ ?_<;>intro hcd<;>(try simp only[hcP]at hcd)<;>try exact cdT|(refine zj (f:=172) rfl Tryz.call172 (h:=AEq.pure' agT (zuV _ _ _ (by assumption)) (hq:=?_)))|((refine zo [0,1,2] (by rw[Tryz.results131,Lf.ym]) (zF ?_ ?_) ?_)<;>(try exact uT))|refine hK _ _ ?_;clear hK K)
set_option maxRecDepth 20000 in
theorem zm3(f1 q1 f2 q2 f3 q3:Bool)(sizes:List Int)(l:List Fl)(wy:List Op4)(hsl:sizes.length<=100)(hll:l.length<=100)(hol:wy.length<=100000)(hlb:∀f∈l,f.n.size<=1000/\f.v.size<=1000)(xs:List Fl)(s:Nat)(m:Int)(hx:xs.length<=30000)(hS:zC xs<=m)(hm0:0<=m)(hm1:m<=2147483647)(hbb:∀f∈xs,f.n.size<=1000000/\f.v.size<=1000000)(hz:zaV sizes=false)(Q:EQ)(hQ:jL sizes l wy ⟨xs,s,m⟩=Q): AEq Tryz.prog 131 [.ptr 0 0,.sl f1 q1 (sizes.map yz),.sl f2 q2 (l.map flA),.sl f3 q3 (wy.map opA)] [.box [.ptr 1 0],.box [.row 2 s,i64 (zC xs),i64 m],.row s 103 3 (xs.map flA)] (.tu [.sl false false (Q.o.map zk),i64 0]) [.box [.ptr 1 0],.box [.row 2 Q.t.s,i64 (zC Q.t.xs),i64 Q.t.m],.row Q.t.s 103 3 (Q.t.xs.map flA)]:=by
 have hzz:=zbW hz
 obtain⟨Q1,hQ1⟩:∃Q1,jh sizes ⟨[],⟨xs,s,m⟩⟩=Q1:=⟨_,rfl⟩
 have hQ2:kw wy l 0 Q1=Q:=by rw[<-hQ1];exact hQ
 refine enT Tryz.func131 Tryz.ntmps131 ?_
 have hU:=@hz
 repeat'(first|refine goR ?_|refine zd fun K hK=>?_|refine zc ?_ ?_<;>intro hcd<;>(try simp only[hcP]at hcd)<;>try exact cdT|(refine zj (f:=172) rfl Tryz.call172 (h:=AEq.pure' agT (zuV _ _ _ (by omega)) (hq:=?_)))|refine hK _ _ ?_;clear hK K)
 refine kD 10 5 1 (by decide) (by rfl) rfl rfl ?_
 refine zN [10,12,13,14,38,39,40,41,42,43,44,45,46,47,48,49,50,51,52,53,54,55,56,57] (fun w:ES=>[(38,i64 w.i),(10,.row 3 w.a)]) (fun w=>[.box [.ptr 1 0],.box [.row 2 w.q.t.s,i64 (zC w.q.t.xs),i64 w.q.t.m],.row w.q.t.s 103 3 (w.q.t.xs.map flA),.row w.a 5 1 (w.q.o.map zk)]) (zEE sizes ⟨xs,s,m⟩ Q1) (fun w=>sizes.length-w.i) ⟨0,0,⟨[],⟨xs,s,m⟩⟩⟩ ⟨Nat.zero_le _,hQ1,⟨hS,hm0,hm1,hbb⟩,hx,Nat.zero_le _⟩ ?_ (by first|rfl|(dsimp only;done)|(dsimp only;rfl)) ?_
 ·dsimp only
  have hU:=True.intro
  (refine⟨⟨_,sT,?_⟩,⟨_,sT,?_⟩,trivial⟩<;>(try exact zu))
 ·rintro⟨i,a,⟨o,⟨xt,st,mt⟩⟩⟩ ⟨hi,hk,hok,hxn,hon⟩
  dsimp only at hi hk hxn hon ⊢
  have hok2:=hok
  obtain⟨hSt,hmt0,hmt1,hbt⟩:=hok2
  dsimp only at hSt hmt0 hmt1 hbt
  simp only[yN,List.map_cons,List.map_nil,List.cons_append,List.nil_append]
  by_cases hlt:i<sizes.length
  ·obtain⟨z,hzi⟩:=yv hlt
   have hzb:=hzz z (List.mem_of_getElem? hzi)
   obtain⟨hz0,hz1⟩:=hzb
   obtain⟨hk1,hk2⟩:=zoq (z:=z) hok hz0 hz1
   dsimp only at hk2
   have hln:=zfz z
   have hcl:=zdH o (zev z)
   have hap:=zdI o (zev z)
   have hSt2:zC xt<=2147483647:=by omega
   have hbg:∀f∈xt,f.n.size<=1000000000/\f.v.size<=1000000000:=fun f hf=>by have:=hbt f hf;omega
   have hU:=@hap
   repeat'(first|refine goS ?_|refine zd fun K hK=>?_|refine zc ?_ ?_<;>intro hcd<;>(try simp only[hcP]at hcd)<;>try exact cdT|(refine zj (f:=174) rfl Tryz.call174 (h:=AEq.pure' agT (zu4 _ aoT aoT) (hq:=?_)))|(refine zj (f:=175) rfl Tryz.call175 (h:=AEq.sub' [_,_] (hc:=zuw _ _ _ _ aoT aoT aoT aoT aoT) (hq:=?_)))|refine hK _ _ ?_;clear hK K)
   refine⟨⟨i+1,a+1,⟨zbd o (zev z),⟨keptL xt z,st+1,z⟩⟩⟩,[0,1,2,3],⟨by dsimp only;omega,zqU hzi hk,hk1,by dsimp only;omega,by dsimp only;omega⟩,by dsimp only;omega,rfl,?_,arT,?_⟩
   ·dsimp only
    have hU:=True.intro
    (refine⟨⟨_,sT,?_⟩,⟨_,sT,?_⟩,trivial⟩<;>(try exact zu))
   ·dsimp only
    first|rfl|(simp(disch:=omega)only[go_sem,seval,↓reduceIte];done)|(simp(disch:=omega)only[go_sem,seval,↓reduceIte];rfl)|trace_state
  obtain rfl:=zu5 hlt hk
  have hU:=True.intro
  repeat'(first|refine goR ?_|refine zd fun K hK=>?_|refine zc ?_ ?_<;>intro hcd<;>(try simp only[hcP]at hcd)<;>try exact cdT|refine hK _ _ ?_;clear hK K|(apply_assumption (exfalso:=false) (symm:=false)))
  refine zN [10,15,16,17,18,19,60,61,62,63,64,65,66,67,68,69,70,71,72,73,74,75,76,77,78,79,80,81,82,83,84,85,86,87,88,89] (fun w:ES=>[(60,i64 w.i),(10,.row 3 w.a)]) (fun w=>[.box [.ptr 1 0],.box [.row 2 w.q.t.s,i64 (zC w.q.t.xs),i64 w.q.t.m],.row w.q.t.s 103 3 (w.q.t.xs.map flA),.row w.a 5 1 (w.q.o.map zk)]) (zEF wy l Q) (fun w=>l.length-w.i) ⟨0,a,⟨o,⟨xt,st,mt⟩⟩⟩ ⟨Nat.zero_le _,hQ2,hok,by dsimp only;omega,by dsimp only;omega⟩ ?_ (by first|rfl|(dsimp only;done)|(dsimp only;rfl)) ?_
  ·dsimp only
   (refine⟨⟨_,sT,?_⟩,⟨_,sT,?_⟩,trivial⟩<;>(try exact zu))
  ·clear hi hk hxn hon hok hSt hmt0 hmt1 hbt hlt hQ1 hQ2
   rintro⟨i,a,⟨o,⟨xt,st,mt⟩⟩⟩ ⟨hi,hk,hok,hxn,hon⟩
   dsimp only at hi hk hxn hon ⊢
   have hok2:=hok
   obtain⟨hSt,hmt0,hmt1,hbt⟩:=hok2
   dsimp only at hSt hmt0 hmt1 hbt
   simp only[yN,List.map_cons,List.map_nil,List.cons_append,List.nil_append]
   by_cases hlt:i<l.length
   ·obtain⟨⟨fn,fv,fk⟩,hfi⟩:=yv hlt
    have hfb:=hlb _ (List.mem_of_getElem? hfi)
    dsimp only at hfb
    obtain⟨hfb1,hfb2⟩:=hfb
    have hfc1:fn.size<=1000000:=by omega
    have hfc2:fv.size<=1000000:=by omega
    have hSt2:zC xt<=2147483647:=by omega
    have hxt9:xt.length<=90000:=by omega
    have hrl:xt.reverse.length=xt.length:=List.length_reverse
    by_cases hh:wy.length=0
    ·obtain rfl:=zqV hh
     obtain⟨⟨rk,ri,rn,rns,rv,rvs⟩,hr⟩:∃r,zaK xt.reverse fn fv fk 0 false false false=r:=⟨_,rfl⟩
     obtain⟨⟨xt',st',mt'⟩,ht⟩:∃t,zcI ⟨xt,st,mt⟩ fn fv fk 0=t:=⟨_,rfl⟩
     have hrw:=zdF hr (by omega) hfb1 hfb2
     obtain⟨ht1,ht2,ht3⟩:=zfA ht hok hfc1 hfc2
     dsimp only at ht2 ht3
     have hln:=zgX hrw
     have hcl:=zdH o (rwB ⟨rk,ri,rn,rns,rv,rvs⟩)
     have hap:=zdI o (rwB ⟨rk,ri,rn,rns,rv,rvs⟩)
     have hU:=@hap
     repeat'(first|refine goS ?_|refine y1X ?_|refine zd fun K hK=>?_|refine zc ?_ ?_<;>intro hcd<;>(try simp only[hcP]at hcd)<;>try exact cdT|refine y1Y ?_|refine hK _ _ ?_;clear hK K)
     refine⟨⟨i+1,a+1,⟨zbd o (rwB ⟨rk,ri,rn,rns,rv,rvs⟩),⟨xt',st',mt'⟩⟩⟩,[0,1,2,3],⟨by dsimp only;omega,zkr (how:=[]) (o:=⟨0,false,false,false⟩) hfi zu3 hr ht hk,ht1,by dsimp only;omega,by dsimp only;omega⟩,by dsimp only;omega,rfl,?_,arT,?_⟩
     ·dsimp only
      have hU:=True.intro
      (refine⟨⟨_,sT,?_⟩,⟨_,sT,?_⟩,trivial⟩<;>(try exact zu))
     ·dsimp only
      first|rfl|(simp(disch:=omega)only[go_sem,seval,↓reduceIte];done)|(simp(disch:=omega)only[go_sem,seval,↓reduceIte];rfl)|trace_state
    ·have hlm : i % wy.length < wy.length := Nat.mod_lt _ (by omega)
     obtain⟨⟨ow,o1,o2,o3⟩,ho⟩:=yv hlm
     have hom:=zdJ i wy.length
     obtain⟨⟨rk,ri,rn,rns,rv,rvs⟩,hr⟩:∃r,zaK xt.reverse fn fv fk ow o1 o2 o3=r:=⟨_,rfl⟩
     obtain⟨⟨xt',st',mt'⟩,ht⟩:∃t,zcI ⟨xt,st,mt⟩ fn fv fk ow=t:=⟨_,rfl⟩
     have hrw:=zdF hr (by omega) hfb1 hfb2
     obtain⟨ht1,ht2,ht3⟩:=zfA ht hok hfc1 hfc2
     dsimp only at ht2 ht3
     have hln:=zgX hrw
     have hcl:=zdH o (rwB ⟨rk,ri,rn,rns,rv,rvs⟩)
     have hap:=zdI o (rwB ⟨rk,ri,rn,rns,rv,rvs⟩)
     have hU:=And.intro @hap (@hom)
     repeat'(first|refine goS ?_|refine y1X ?_|refine zd fun K hK=>?_|refine zc ?_ ?_<;>intro hcd<;>(try simp only[hcP]at hcd)<;>try exact cdT|refine y1Y ?_|refine hK _ _ ?_;clear hK K)
     refine⟨⟨i+1,a+1,⟨zbd o (rwB ⟨rk,ri,rn,rns,rv,rvs⟩),⟨xt',st',mt'⟩⟩⟩,[0,1,2,3],⟨by dsimp only;omega,zkr (o:=⟨ow,o1,o2,o3⟩) hfi (zkq ho) hr ht hk,ht1,by dsimp only;omega,by dsimp only;omega⟩,by dsimp only;omega,rfl,?_,arT,?_⟩
     ·dsimp only
      have hU:=True.intro
      (refine⟨⟨_,sT,?_⟩,⟨_,sT,?_⟩,trivial⟩<;>(try exact zu))
     ·dsimp only
      first|rfl|(simp(disch:=omega)only[go_sem,seval,↓reduceIte];done)|(simp(disch:=omega)only[go_sem,seval,↓reduceIte];rfl)|trace_state
   obtain rfl:=zu6 hlt hk
   try dsimp only
   repeat'(first|refine goR ?_|refine zd fun K hK=>?_|refine zc ?_ ?_<;>intro hcd<;>(try simp only[hcP]at hcd)<;>try exact cdT|((refine zo [0,1,2] (by rw[Tryz.results131,Lf.ym]) (zF ?_ ?_) ?_)<;>(try exact uT))|refine hK _ _ ?_;clear hK K|(apply_assumption (exfalso:=false) (symm:=false)))
end
section
attribute [local irreducible] wt zC keptL flN addX v6 xsE zbU plB plI nmI zaK zcI zv1 zub rpB rwB zev zbd jh kw op0
end
structure WBk where
 (z:List Int) (l:List Fl) (h:List Op4)
@[go_sem] def ekA(b:WBk): List AV:=[.sl false false (b.z.map yz),.sl false false (b.l.map flA),.sl false false (b.h.map opA)]
@[go_sem] theorem zyz(l:List WBk): y9 (l.map ekA).flatten=true:=ze (fun a=>by simp[ekA,y9,pur]) l
@[go_sem] theorem zwf{κ:List Nat}{σ:Sto}(l:List WBk): List.map (fzl κ σ) (l.map ekA)=l.map ekA:=vc (fun _=>rfl) l
@[go_sem] theorem zyA(l:List Op4): y9 (l.map opA).flatten=true:=ze (fun _=>rfl) l
@[go_sem] theorem zwg{κ:List Nat}{σ:Sto}(l:List Op4): List.map (fzl κ σ) (l.map opA)=l.map opA:=vc (fun _=>rfl) l
def zwh(f:Fl)(g:Int): Bool:=decide (g<f.n.size\/g<f.v.size)
def zm4(g:Int): List Fl->Bool
 | []=>false
 | f::l=>if zwh f g=true then true else zm4 g l
def zqW(l:List Fl)(m g:Int): Bool:=if m<l.length then true else zm4 g l
theorem zks{g:Int}: ∀{l:List Fl},zm4 g l=false->∀f∈l,(f.n.size:Int)<=g/\(f.v.size:Int)<=g
 | [],_,f,hf=>by simp at hf
 | x::l,h,f,hf=>by
  unfold zm4 at h
  split at h
  ·cases h
  ·rename_i hx
   rcases List.mem_cons.1 hf with rfl|hf
   ·simp[zwh]at hx;omega
   ·exact zks h f hf
theorem zgZ(f q:Bool)(l:List Fl)(m g:Int)(h:l.length<=9223372036854775807): AEq Tryz.prog 30 [.sl f q (l.map flA),i64 m,i64 g] [] (bl (zqW l m g)) []:=by
 by_cases h30:m<l.length
 ·have e:zqW l m g=true:=if_pos h30
  rw[e]
  refine enT Tryz.func30 Tryz.ntmps30 ?_
  have hU:=True.intro
  repeat'(first|refine goR ?_|refine zd fun K hK=>?_|refine zc ?_ ?_<;>intro hcd<;>(try simp only[hcP]at hcd)<;>try exact cdT|((refine zo [] (by rw[Tryz.results30,Lf.zI]) (zw ?_) ?_)<;>(try exact uT))|refine hK _ _ ?_;clear hK K)
 have e:zqW l m g=zm4 g l:=if_neg h30
 rw[e]
 refine enT Tryz.func30 Tryz.ntmps30 ?_
 have hU:=True.intro
 repeat'(first|refine goR ?_|refine zd fun K hK=>?_|refine zc ?_ ?_<;>intro hcd<;>(try simp only[hcP]at hcd)<;>try exact cdT|refine hK _ _ ?_;clear hK K)
 refine zO [6,7,12,13,14,15,16,17,18,19,20,21,22,23,24,25,26,27,28,29,30,31,32,33,34,35] (fun i:Nat=>[(7,i64 i)]) (fun _=>[]) (fun i=>i<=l.length/\zm4 g l=zm4 g (l.drop i)) (fun i=>l.length-i) 0 ⟨Nat.zero_le _,rfl⟩ ?_ rfl ?_
 ·(refine⟨⟨_,sT,?_⟩,trivial⟩<;>(try exact zu))
 ·rintro i ⟨hi,hk⟩
  simp only[yN,List.map_cons,List.map_nil,List.cons_append,List.nil_append]
  by_cases hlt:i<l.length
  ·obtain⟨d,hd⟩:=yv hlt
   rw[vU hd,zm4]at hk
   by_cases h1:g<d.n.size\/g<d.v.size
   ·rw [if_pos (by unfold zwh; simp [h1])] at hk
    by_cases h2:g<d.n.size
    ·repeat' (first | (refine goR ?_) | (refine zd (fun K hK => ?_)) | ((refine zc (fun hcd => ?_) (fun hcd => ?_)) <;> (try simp only [hcP] at hcd) <;> (try exact cdT)) | (guard_target =~ rg _ _ _ (⟨_, _, _, _, _, some _⟩ :: _) _ _ _; (first | refine zP gT (fun hcd => ?_) (fun hcd => ?_) | refine zK gT (fun hcd => ?_) (fun hcd => ?_)) <;> (try simp only [hcd]) <;> (try (simp only [Bool.not_eq_true', Bool.not_eq_false'] at hcd; try simp only [hcd])) <;> (refine kC (Γ2 := _) ewT ?_) <;> (try simp only [hcP] at hcd) <;> (try exact cdT)) | ((refine zo [] (by rw [Tryz.results30, Lf.zI]) (zw ?_) ?_) <;> (try (first | exact zu | exact stT))) | (refine hK _ _ ?_; clear hK K))
     all_goals exact zJ (by rw[hk])
    ·repeat' (first | (refine goR ?_) | (refine zd (fun K hK => ?_)) | ((refine zc (fun hcd => ?_) (fun hcd => ?_)) <;> (try simp only [hcP] at hcd) <;> (try exact cdT)) | (guard_target =~ rg _ _ _ (⟨_, _, _, _, _, some _⟩ :: _) _ _ _; (first | refine zP gT (fun hcd => ?_) (fun hcd => ?_) | refine zK gT (fun hcd => ?_) (fun hcd => ?_)) <;> (try simp only [hcd]) <;> (try (simp only [Bool.not_eq_true', Bool.not_eq_false'] at hcd; try simp only [hcd])) <;> (refine kC (Γ2 := _) ewT ?_) <;> (try simp only [hcP] at hcd) <;> (try exact cdT)) | ((refine zo [] (by rw [Tryz.results30, Lf.zI]) (zw ?_) ?_) <;> (try (first | exact zu | exact stT))) | (refine hK _ _ ?_; clear hK K))
     all_goals exact zJ (by rw[hk])
   ·rw [if_neg (by unfold zwh; simp [h1])] at hk
    have h2:¬g<d.n.size:=fun e=>h1 (.inl e)
    have h3:¬g<d.v.size:=fun e=>h1 (.inr e)
    repeat'(first|refine goR ?_|refine zd fun K hK=>?_|refine zc ?_ ?_<;>intro hcd<;>(try simp only[hcP]at hcd)<;>try exact cdT|(guard_target =~ rg _ _ _ (⟨_,_,_,_,_,some _⟩::_) _ _ _;(first|refine zP gT (fun hcd=>?_) (fun hcd=>?_)|refine zK gT (fun hcd=>?_) (fun hcd=>?_))<;>(try simp only[hcd])<;>(try(simp only[Bool.not_eq_true',Bool.not_eq_false']at hcd;try simp only[hcd]))<;>(refine kC (Γ2:=_) ewT ?_)<;>(try simp only[hcP]at hcd)<;>(try exact cdT))|refine hK _ _ ?_;clear hK K)
    refine⟨i+1,⟨by omega,hk⟩,by omega,?_,arT,srT⟩
    (refine⟨⟨_,sT,?_⟩,trivial⟩<;>(try exact zu))
  ·have he : zm4 g l = false := by rw [hk, List.drop_eq_nil_of_le (by omega)]; rfl
   repeat'(first|refine goR ?_|refine zd fun K hK=>?_|refine zc ?_ ?_<;>intro hcd<;>(try simp only[hcP]at hcd)<;>try exact cdT|((refine zo [] (by rw[Tryz.results30,Lf.zI]) (zw ?_) ?_)<;>(try exact uT))|refine hK _ _ ?_;clear hK K|(apply_assumption (exfalso:=false) (symm:=false)))
   exact zJ (by rw[he])
theorem zqX{l:List Op4}{i:Nat}{x:Op4}(h:l[i]?=some x): List.map opA (l.take i)++[[i64 x.w,bl x.nn,bl x.sn,bl x.sv]]=List.map opA (l.take (i+1)):=by
 rw[zar h,List.map_append];rfl
theorem zdK(m:Int)(h:0<=m)(h2:m<=2147483647): AEq Tryz.prog 68 [i64 m] [] (.tu [.ptr 2 0,i64 0]) [.box [.row 1 0,i64 (zC xsE),i64 m],.row 0 103 3 (xsE.map flA),.box [.ptr 0 0]]:=by
 refine enT Tryz.func68 Tryz.ntmps68 ?_
 have hU:=True.intro
 repeat'(first|refine goR ?_|refine zd fun K hK=>?_|refine zc ?_ ?_<;>intro hcd<;>(try simp only[hcP]at hcd)<;>try exact cdT|(refine zj (f:=101) rfl Tryz.call101 (h:=AEq.sub' [] (hc:=zjL _ (by assumption) (by assumption)) (hq:=?_)))|((refine zo [0,1,2] (by rw[Tryz.results68,Lf.ym]) (zF ?_ ?_) ?_)<;>(try exact uT))|refine hK _ _ ?_;clear hK K)
theorem zqY{m:Int}(h:0<=m)(h2:m<=2147483647): TOk ⟨xsE,0,m⟩:=⟨h,h,h2,zdC⟩
theorem zdL{z:List Int}{l:List Fl}{how:List Op4}{t:DT}{Q:EQ}(h:jL z l how t=Q)(ht:TOk t)(hx:t.xs.length<=30000)(hz:zaV z=false)(hzl:z.length<=100)(hll:l.length<=100)(hlb:∀f∈l,f.n.size<=1000/\f.v.size<=1000): TOk Q.t/\Q.t.xs.length<=t.xs.length+l.length/\Q.o.length<=1800+8018*l.length:=by
 unfold jL at h
 obtain⟨Q1,hQ1⟩:∃Q1,jh z ⟨[],t⟩=Q1:=⟨_,rfl⟩
 rw[hQ1]at h
 obtain⟨a,b,c⟩:=zdG z ⟨[],t⟩ Q1 hQ1 ht (zbW hz)
 dsimp only at b c
 rw[List.length_nil]at c
 obtain⟨d,e,f,_⟩:=zgY how l 0 Q1 Q h a (by omega) hlb
 exact⟨d,by omega,by omega⟩
theorem zot(f1 q1 f2 q2 f3 q3:Bool)(sizes:List Int)(l:List Fl)(wy:List Op4)(hsl:sizes.length<=100)(hll:l.length<=100)(hol:wy.length<=100000)(hlb:∀f∈l,f.n.size<=1000/\f.v.size<=1000)(xs:List Fl)(s:Nat)(m:Int)(hx:xs.length<=30000)(hok:TOk ⟨xs,s,m⟩)(hz:zaV sizes=false)(o:List UInt8)(xt:List Fl)(st:Nat)(mt:Int)(hQ:jL sizes l wy ⟨xs,s,m⟩=⟨o,⟨xt,st,mt⟩⟩): AEq Tryz.prog 131 [.ptr 0 0,.sl f1 q1 (sizes.map yz),.sl f2 q2 (l.map flA),.sl f3 q3 (wy.map opA)] [.box [.ptr 1 0],.box [.row 2 s,i64 (zC xs),i64 m],.row s 103 3 (xs.map flA)] (.tu [.sl false false (o.map zk),i64 0]) [.box [.ptr 1 0],.box [.row 2 st,i64 (zC xt),i64 mt],.row st 103 3 (xt.map flA)]:=
 zm3 f1 q1 f2 q2 f3 q3 sizes l wy hsl hll hol hlb xs s m hx hok.1 hok.2.1 hok.2.2.1 hok.2.2.2 hz _ hQ
end Go.Proofs.YtdalcgfnlbofdaaGreatDoor
