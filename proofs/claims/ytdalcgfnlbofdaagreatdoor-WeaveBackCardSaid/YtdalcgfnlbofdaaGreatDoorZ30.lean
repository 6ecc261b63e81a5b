import Derived.Test.YtdalcgfnlbofdaaGreatDoorZ12
set_option linter.unusedVariables false
set_option linter.unusedSimpArgs false
namespace Go.Lf
open Go
/-! what is not lent does not look at blocks that are somebody's -/
structure FgH(σ:Sto)(ρ:Rz)(w w2:World): Prop where
 hz:w.heap.size<=w2.heap.size
 hk:∀b,b<w.heap.size->¬jN σ ρ b->w2.heap[b]?=w.heap[b]?
section fgn
variable {σ : Sto} {ρ : Rz} {w w2 : World}
mutual
theorem VR.fgn(H:FgH σ ρ w w2): ∀(x:AV) (v:Value),nol x=true->VR σ ρ w x v->VR σ ρ w2 x v
 | .junk,_,_,_=>by simp[VR]
 | .lit _,_,_,h=>by simpa[VR]using h
 | .sl full q xs,v,hc,h=>by
  simp only[nol,Bool.not_eq_true']at hc
  subst hc
  simp only[VR]at h ⊢
  obtain⟨a,cap,sz,h1,h2,h3,h4,h5,h6,h7⟩:=h
  refine⟨a,cap,sz,h1,h2,h3,h4,h5,h6,fun hx=>?_⟩
  obtain⟨b,o,ha,hbs,hb,hp⟩:=h7 hx
  have hb':¬jN σ ρ b:=hb
  have:=H.hz
  exact⟨b,o,ha,by omega,hb,PVss.carry H.hz H.hk (fun b h=>.inl h) xs b o (H.hk b hbs hb') hp⟩
 | .ip q xs,v,hc,h=>by
  simp only[nol,Bool.not_eq_true']at hc
  subst hc
  simp only[VR]at h ⊢
  obtain⟨b,o,ha,hbs,hb,hp⟩:=h
  have hb':¬jN σ ρ b:=hb
  have:=H.hz
  exact⟨b,o,ha,by omega,hb,PVs.carry H.hz H.hk (fun b h=>.inl h) xs b o (H.hk b hbs hb') hp⟩
 | .row _ _,_,_,h=>by simpa only[VR]using h
 | .vw _ _ _ _,_,_,h=>by simpa only[VR]using h
 | .ptr _ _,_,_,h=>by simpa only[VR]using h
 | .ep _ _ _ _,_,_,h=>by simpa only[VR]using h
 | .mref _,_,_,h=>by simpa only[VR]using h
 | .ag xs,v,hc,h=>by
  simp only[VR]at h ⊢
  obtain⟨vs,h1,h2⟩:=h
  exact⟨vs,h1,VRl.fgn H xs vs (by simpa[nol]using hc) h2⟩
 | .tu xs,v,hc,h=>by
  simp only[VR]at h ⊢
  obtain⟨vs,h1,h2⟩:=h
  exact⟨vs,h1,VRl.fgn H xs vs (by simpa[nol]using hc) h2⟩
 | .fn _ xs,v,hc,h=>by
  simp only[VR]at h ⊢
  obtain⟨vs,h1,h2⟩:=h
  exact⟨vs,h1,VRl.fgn H xs vs (by simpa[nol]using hc) h2⟩
 | .gd g x,v,hc,h=>by
  simp only[VR]at h ⊢
  exact⟨h.1,fun e=>VR.fgn H x v (by simpa[nol]using hc) (h.2.1 e),h.2.2⟩
theorem VRl.fgn(H:FgH σ ρ w w2): ∀(xs:List AV) (vs:List Value),yA xs=true->VRl σ ρ w xs vs->VRl σ ρ w2 xs vs
 | [],[],_,_=>by simp[VRl]
 | [],_::_,_,h=>by simp[VRl]at h
 | _::_,[],_,h=>by simp[VRl]at h
 | x::xs,v::vs,hc,h=>by
  simp only[VRl]at h ⊢
  simp only[yA,Bool.and_eq_true]at hc
  exact⟨VR.fgn H x v hc.1 h.1,VRl.fgn H xs vs hc.2 h.2⟩
end
theorem Rel.fgn(hr:Rel σ ρ w)(hnS:zmN σ=true)(H:FgH σ ρ w w2)(hown:∀b,Own σ ρ b->w2.heap[b]?=w.heap[b]?): Rel σ ρ w2:=by
 refine⟨fun o ob h=>?_,hr.inj,fun b hb=>Nat.lt_of_lt_of_le (hr.fol b hb) H.hz,hr.dis⟩
 have hO:=hr.obj _ _ h
 have hN:=zjO hnS h
 have hb:∀b,ob.live=true->blk (ρ o)=some b->w2.heap[b]?=w.heap[b]?:=fun b hl hb=>hown b ⟨o,ob,h,hl,hb⟩
 cases ob with
 | gone=>trivial
 | mp I=>
  obtain⟨b,x,h1,h2,h3⟩:=hO
  exact⟨b,x,h1,by rw[hb b rfl (by rw[h1];rfl)];exact h2,h3⟩
 | box cs=>
  obtain⟨b,ty,vs,h1,h2,h3,h4⟩:=hO
  exact⟨b,ty,vs,h1,by rw[hb b rfl (by rw[h1];rfl)];exact h2,h3,VRl.fgn H _ _ hN h4⟩
 | row s e sz xs=>
  obtain⟨h0,h00,hO⟩:=hO
  refine⟨h0,h00,?_⟩
  rcases hO with hO|⟨b,cap,vs,sp,h1,h2,h3,h4,h5,h6,h7⟩
  ·exact .inl hO
  ·exact .inr ⟨b,cap,vs,sp,h1,by rw[hb b rfl (by rw[h1];simp[blk];omega)];exact h2,h3,h4,h5,h6,VRl.fgn H _ _ hN h7⟩
end fgn
def ad1(ρ:Rz)(F:Nat->Prop)(L bA:Nat): Rz:=⟨fun o=>if o=L then .pointer (some ⟨bA,0,none⟩)else ρ.val o,F⟩
section ad1
variable {σ : Sto} {ρ : Rz} {w : World} {F : Nat -> Prop} {bA : Nat} {X : List AV}
theorem zfF{o:Nat}(h:o<σ.length): (σ++[Ob.box X])[o]?=σ[o]?/\(ad1 ρ F σ.length bA) o=ρ o:=by
 refine⟨by rw[List.getElem?_append_left h],?_⟩
 show(if o=σ.length then _ else ρ.val o)=ρ.val o
 rw[if_neg (by omega)]
theorem zb2: (ad1 ρ F σ.length bA) σ.length=.pointer (some ⟨bA,0,none⟩):=if_pos rfl
theorem zaa{o:Nat}{ob:Ob}(h:(σ++[Ob.box X])[o]?=some ob): (o<σ.length/\σ[o]?=some ob/\(ad1 ρ F σ.length bA) o=ρ o)\/(o=σ.length/\ob=.box X):=by
 have hlt:=(List.getElem?_eq_some_iff.1 h).1
 rw[List.length_append]at hlt
 simp only[List.length_cons,List.length_nil]at hlt
 by_cases ho:o<σ.length
 ·obtain⟨e1,e2⟩:=zfF (σ:=σ) (ρ:=ρ) (F:=F) (bA:=bA) (X:=X) ho
  rw[e1]at h
  exact .inl ⟨ho,h,e2⟩
 ·obtain rfl : o = σ.length := by omega
  rw[List.getElem?_append_right (by omega),Nat.sub_self]at h
  exact .inr ⟨rfl,by simpa using h.symm⟩
theorem zfG{b:Nat}(h:Own (σ++[Ob.box X]) (ad1 ρ F σ.length bA) b): Own σ ρ b\/b=bA:=by
 obtain⟨o,ob,h1,h2,h3⟩:=h
 rcases zaa (ρ:=ρ) (F:=F) (bA:=bA) h1 with⟨_,h1',e⟩|⟨rfl,rfl⟩
 ·rw[e]at h3
  exact .inl ⟨o,ob,h1',h2,h3⟩
 ·rw[zb2]at h3
  simp[blk]at h3
  exact .inr h3.symm
theorem zkP(hFA:ρ.fo bA)(hF:∀b,F b->ρ.fo b): GenH false σ ρ w (σ++[Ob.box X]) (ad1 ρ F σ.length bA) w:=by
 refine⟨Nat.le_refl _,fun _ _ _=>rfl,fun b hb=>?_,(fun e=>absurd e (by decide)),(by rw[List.length_append];omega),fun o ho=>zfF ho⟩
 rcases hb with h|h
 ·rcases zfG h with h | rfl
  ·exact .inl (.inl h)
  ·exact .inl (.inr hFA)
 ·exact .inl (.inr (hF b h))
theorem zrn(hr:Rel σ ρ w)(hFA:ρ.fo bA)(hF:∀b,F b->ρ.fo b)(hnA:¬F bA){tA:Nat}(hnS:zmN σ=true){vs:List Value}(hA:w.heap[bA]?=some (.cells vs.toArray tA (0,0)))(h1:∀v∈vs,v.oneCell'=true)(hX:VRl (σ++[Ob.box X]) (ad1 ρ F σ.length bA) w X vs):
    Rel (σ++[Ob.box X]) (ad1 ρ F σ.length bA) w:=by
  have hown:∀{o:Nat} {ob:Ob} {b:Nat},σ[o]?=some ob->ob.live=true->blk (ρ o)=some b->¬ρ.fo b:=fun h1 h2 h3=>hr.dis _ ⟨_,_,h1,h2,h3⟩
  refine⟨fun o ob h=>?_,fun o o' ob ob' b h h' hl hl' hb hb'=>?_,fun b hb=>hr.fol b (hF b hb),fun b hb hf=>?_⟩
  · rcases zaa (ρ:=ρ) (F:=F) (bA:=bA) h with⟨ho,h,e⟩ | ⟨rfl,rfl⟩
    · rw[e]
      exact RelO.gen (zkP hFA hF) (.inr (zjO hnS h)) (fun _ _=>rfl) (hr.obj _ _ h)
    · rw[zb2]
      exact⟨bA,tA,vs,rfl,hA,h1,hX⟩
  · rcases zaa (ρ:=ρ) (F:=F) (bA:=bA) h with⟨ho,h,e⟩ | ⟨rfl,rfl⟩<;>rcases zaa (ρ:=ρ) (F:=F) (bA:=bA) h' with⟨ho',h',e'⟩ | ⟨rfl,rfl⟩
    · rw[e]at hb;rw[e']at hb'
      exact hr.inj _ _ _ _ _ h h' hl hl' hb hb'
    · rw[e]at hb;rw[zb2]at hb'
      simp[blk]at hb';subst hb'
      exact absurd hFA (hown h hl hb)
    · rw[e']at hb';rw[zb2]at hb
      simp[blk]at hb;subst hb
      exact absurd hFA (hown h' hl' hb')
    · rfl
  · rcases zfG hb with h | rfl
    · exact hr.dis b h (hF b hf)
    · exact hnA hf
end ad1
structure HidI(n:Nat)(σ:Sto)(ρ:Rz)(w:World)(τ:Sto)(lA lS:Bool)(dA tA dy:Nat)(csA:List Value)(ρ':Rz)(w':World)(a':Act): Prop where
 st:Step n σ ρ w τ ⟨ρ'.val,ρ.fo⟩ w'
 fo:∀b,ρ.fo b->ρ'.fo b
 v:lA=true->∃b,a'.tmps.getD dA undef=.pointer (some ⟨b,0,none⟩)/\ρ'.fo b/\w.heap.size<=b/\b<w'.heap.size/\w'.heap[b]?=some (.cells (if lS=true then(a'.tmps.getD dy undef).cells else csA.toArray) tA (0,0))
theorem HidI.step{n:Nat}{σ:Sto}{ρ:Rz}{w:World}{τ τ2:Sto}{lA lS:Bool}{dA tA dy:Nat}{csA:List Value}{ρ1 ρ2:Rz}{w1 w2:World}{a1 a2:Act}(h:HidI n σ ρ w τ lA lS dA tA dy csA ρ1 w1 a1)(hr:Rel τ ρ1 w1)(st:Step τ.length τ ρ1 w1 τ2 ρ2 w2)
    (hA:a2.tmps.getD dA undef=a1.tmps.getD dA undef) (hy:lS=true->a2.tmps.getD dy undef=a1.tmps.getD dy undef):HidI n σ ρ w τ2 lA lS dA tA dy csA ρ2 w2 a2:=by
  have st2:Step n τ ⟨ρ1.val,ρ.fo⟩ w1 τ2 ⟨ρ2.val,ρ.fo⟩ w2:=
    ⟨st.os,st.tape,st.output,st.size,fun b hb ho=>st.kept b hb (fun h=>ho ((jq rfl).2 h)),fun b hb=>(st.own b ((jq rfl).1 hb)).imp (jq rfl).2 id,h.st.len',Nat.le_trans h.st.len' st.len',fun o ho=>st.obj o (Nat.lt_of_lt_of_le ho h.st.len'),rfl⟩
  refine⟨h.st.trans st2,fun b hb=>by rw[st.fo];exact h.fo b hb,fun e=>?_⟩
  obtain⟨b,k1,k2,k3,k4,k5⟩:=h.v e
  refine⟨b,by rw[hA];exact k1,by rw[st.fo];exact k2,k3,Nat.lt_of_lt_of_le k4 st.size,?_⟩
  rw[st.kept b k4 (fun ho=>hr.dis b ho k2),k5]
  cases lS with
  | false=>rfl
  | true=>rw[if_pos rfl,if_pos rfl,hy rfl]
def zkQ(ops:Array Oper)(mA mS:Nat)(ord W:List Nat): Bool:=
  decide ord.Nodup && ord.all (fun i=>decide (i<ops.size) && decide (i≠mA) && decide (i≠mS)) && (List.range ops.size).all (fun i=>decide (i=mA) || decide (i=mS) || ord.contains i) &&
  (List.range ord.length).all fun p => match ord[p]? with
    | none=>true
    | some i => (match ops[i]? with | none => false | some o => o.after.all fun e => !Region.binds .any e || decide (e.on = mA) || decide (e.on = mS) || (ord.take p).contains e.on) &&
        (!W.contains i || (ord.take p).all fun j=>(reachB ops 8 i).contains j)
theorem zkR{ops:Array Oper}{mA mS:Nat}{ord W:List Nat}(h:zkQ ops mA mS ord W=true): ord.Nodup/\(∀i,i∈ord->i<ops.size/\i≠mA/\i≠mS)/\(∀i,i<ops.size->i≠mA->i≠mS->i∈ord) /\
    ∀(p i:Nat) (o:Oper),ord[p]?=some i->ops[i]?=some o->(∀e∈o.after,Region.binds .any e=true->e.on≠mA->e.on≠mS->e.on∈ord.take p)/\(W.contains i=true->∀j∈ord.take p,j∈reachB ops 8 i):=by
  unfold zkQ at h
  simp only[Bool.and_eq_true]at h
  obtain⟨⟨⟨h1,h2⟩,h3⟩,h4⟩:=h
  refine⟨by simpa using h1,fun i hi=>?_,fun i hi hA hS=>?_,fun p i o hp ho=>?_⟩
  · have:=(List.all_eq_true.1 h2) i hi
    simp only[Bool.and_eq_true,decide_eq_true_eq]at this
    exact⟨this.1.1,this.1.2,this.2⟩
  · have := (List.all_eq_true.1 h3) i (by simpa using hi)
    simpa[hA,hS]using this
  have hl:=(List.getElem?_eq_some_iff.1 hp).1
  have:=(List.all_eq_true.1 h4) p (by simpa using hl)
  rw[hp]at this
  simp only[ho,Bool.and_eq_true]at this
  refine⟨fun e he hb hA hS=>?_,fun hw j hj=>?_⟩
  · have h5:=(Array.all_eq_true'.1 this.1) e he
    simpa[hb,hA,hS]using h5
  · have h5:=this.2
    rw[hw]at h5
    simp only[Bool.not_true,Bool.false_or]at h5
    simpa using(List.all_eq_true.1 h5) j hj
def zoE (ops : Array Oper) (mA mS dA dy : Nat) : Bool := (List.range ops.size).all fun i => match ops[i]? with
 | none=>true
 | some o=>(decide (i=mA) || decide (o.dst≠some dA)) && (decide (i=mS) || !(o.looksAt ops).contains dA) && (decide (i<mS) || decide (o.dst≠some dy))
theorem zeC{ops:Array Oper}{mA mS dA dy i:Nat}{o:Oper}(h:zoE ops mA mS dA dy=true)(ho:ops[i]?=some o): (i≠mA->o.dst≠some dA)/\(i≠mS->∀t∈o.looksAt ops,t≠dA)/\(¬i<mS->o.dst≠some dy):=by
 have hi:=(Array.getElem?_eq_some_iff.1 ho).1
 have:=(List.all_eq_true.1 h) i (by simpa using hi)
 rw[ho]at this
 simp only[Bool.and_eq_true,Bool.or_eq_true,decide_eq_true_eq,Bool.not_eq_true']at this
 obtain⟨⟨h1,h2⟩,h3⟩:=this
 refine⟨fun k=>h1.resolve_left k,fun k t ht e=>?_,fun k=>h3.resolve_left k⟩
 subst e
 have h4:=h2.resolve_left k
 have:(o.looksAt ops).contains t=true:=by simpa using ht
 rw[this]at h4;cases h4
theorem z5{σ:Sto}(h:σ.all kz=true): zmN σ=true:=h
theorem zG{xs:List AV}(h:y9 xs=true): yA xs=true:=kj xs h
structure asK(dA dy m:Nat)(K:Env->Sto->Prop)(Γ:Env)(σ:Sto): Prop where
 nS:zmN σ=true
 nE:Γ.all (fun p=>nol p.2)=true
 hc:(acells (get Γ dy)).all (okc σ)=true
 hl:(acells (get Γ dy)).length=m
 hK:K ((dA,.ptr σ.length 0)::Γ) (σ++[.box (acells (get Γ dy))])
theorem zeJ{dA dy m L:Nat}{K:Env->Sto->Prop}{Γ:Env}{σ σ2:Sto}{Y:AV}{cs:List AV}(nS:zmN σ=true)(nE:Γ.all (fun p=>nol p.2)=true)(hY:get Γ dy=Y)(hcs:acells Y=cs)(hc:cs.all (okc σ)=true)(hl:cs.length=m)(hL:σ.length=L)(hσ:σ++[.box cs]=σ2)(hK:K ((dA,.ptr L 0)::Γ) σ2): asK dA dy m K Γ σ:=by
 subst hY hcs hL hσ
 exact⟨nS,nE,hc,hl,hK⟩
theorem zfH{x:AV}(h:nol x=true): yA (acells x)=true:=by
 cases x with
 | ag xs=>simpa[acells,nol]using h
 | _=>simp[acells,yA,h]
theorem zdR: ∀(os:List Oper) (xs:List AV) (Γ:Env) (k:Nat),(∀p∈Γ,p∈textEnv Γ os xs k)/\∀(q:Nat) (o:Oper) (x:AV) (d:Nat),q<k->os[q]?=some o->xs[q]?=some x->o.dst=some d->(d,x)∈textEnv Γ os xs k
 | [],xs,Γ,k=>by
  refine⟨fun p hp=>by cases k<;>simpa[textEnv]using hp,fun q o x d _ ho=>by simp at ho⟩
 | o::os,[],Γ,k=>by
  refine⟨fun p hp=>by cases k<;>simpa[textEnv]using hp,fun q o x d _ _ hx=>by simp at hx⟩
 | o::os,x::xs,Γ,0=>⟨fun p hp=>by simpa[textEnv]using hp,fun q _ _ _ h=>by omega⟩
 | o::os,x::xs,Γ,k+1=>by
  obtain⟨h1,h2⟩:=zdR os xs (put Γ o.dst x) k
  refine⟨fun p hp=>?_,fun q o' x' d hq ho hx hd=>?_⟩
  ·simp only[textEnv]
   refine h1 p ?_
   cases o.dst with
   | none=>exact hp
   | some e=>exact List.mem_cons_of_mem _ hp
  ·simp only[textEnv]
   cases q with
   | zero=>
    simp at ho hx
    subst ho;subst hx
    refine h1 _ ?_
    rw[hd]
    exact List.mem_cons_self
   | succ q=>exact h2 q o' x' d (by omega) (by simpa using ho) (by simpa using hx) hd
theorem zhe{Γ:Env}(h:Γ.all (fun p=>nol p.2)=true): ∀i,nol (get Γ i)=true:=by
 intro i
 induction Γ with
 | nil=>rfl
 | cons p Γ ih=>
  obtain⟨j,x⟩:=p
  simp only[List.all_cons,Bool.and_eq_true]at h
  simp only[get]
  split
  ·exact h.1
  ·exact ih h.2
section drawas
variable {P : Program} {N : Nat}
theorem zro{Γ:Env}{σ:Sto}{ρ:Rz}{w:World}{a:Act}{d e:Nat}{x:AV}(h:FR N (put ((d,.junk)::Γ) (some e) x) σ ρ w a): FR N ((d,.junk)::put Γ (some e) x) σ ρ w a:=by
 refine⟨h.1,h.2.1,fun i=>?_⟩
 have:=h.2.2 i
 simp only[put,get]at this ⊢
 by_cases hd:i=d
 ·rw[if_pos hd];simp[VR]
 ·rw[if_neg hd]at this ⊢;exact this
theorem znm{Γ:Env}{σ:Sto}{ρ:Rz}{w:World}{a:Act}{d:Nat}{e:Option Nat}{x:AV}(h:FR N (put ((d,.junk)::Γ) e x) σ ρ w a): FR N ((d,.junk)::put Γ e x) σ ρ w a:=by
 cases e with
 | none=>exact h
 | some e=>exact zro h
set_option maxRecDepth 20000 in
theorem zT{n id:Nat}{l:List Oper}{Γ:Env}{σ:Sto}{Q:Exit->Env->Sto->Prop}{K:Env->Sto->Prop}{dA tA dy tS:Nat}{csA:List Value}{oS:Oper}(mA mS:Nat)(ord W:List Nat)(hm:P.follows .mixedOrders=true)(hok:jm l.toArray=true)(hor:zkQ l.toArray mA mS ord W=true)(hsl:zoE l.toArray mA mS dA dy=true)
    (hAl:zyi l mA dA tA=true) (hNA:decide (dA<N)=true) (hS1:l[mS]?=some oS) (hS2:oS.op=.store tS (.tmp dA) (.tmp dy)) (hS3:oS.dst=none) (hS4:oS.guard=none) (hSl:(oS.looksAt l.toArray).contains dA=true) (hSy:(oS.looksAt l.toArray).contains dy=true) (hyA:decide (dy≠dA)=true) (hW1:decide ((ord.filter W.contains).length<=1)=true) (hAS:decide (mA<mS)=true) (hWS:((ord.filter W.contains).all fun v=>(reachB l.toArray 8 mS).contains v)=true)
    (hzA:((P.info? tA).bind fun i=>i.zero.map fun z=>z.cells.toList)=some csA) (h1A:csA.all (fun v=>v.oneCell')=true) (hund:(P.underlying tS).isSome=true) (hcell:P.cellsOf tS=csA.length) (hnS:zmN σ=true)
    (h:dw P N l.toArray W [] ord Γ σ [] (asK dA dy csA.length K)) :
    PWp P N n (.region id l.toArray true) Γ σ (yk K Q):=by
  intro ρ w a hn hf hr
  refine wp_region_any hm ?_
  obtain⟨hnd,hsm,hall',hedge⟩:=zkR hor
  obtain⟨oA,hoA,hdA,hopA,hgA⟩:=zqs hAl
  have hNA:dA<N:=of_decide_eq_true hNA
  have hyA:dy≠dA:=of_decide_eq_true hyA
  have hW1:(ord.filter W.contains).length<=1:=of_decide_eq_true hW1
  have hmAS:mA<mS:=of_decide_eq_true hAS
  have hSl:dA∈oS.looksAt l.toArray:=by simpa using hSl
  have hSy:dy∈oS.looksAt l.toArray:=by simpa using hSy
  have hoA':l.toArray[mA]?=some oA:=by simpa using hoA
  have hoS':l.toArray[mS]?=some oS:=by simpa using hS1
  obtain⟨os,xs,T,hol,hlen,hT0,hK,hops⟩:=zc7 ord [] Γ σ [] (fun _=>σ) h rfl rfl
  simp only[List.nil_append]at hK hops
  have hT0':T 0=σ:=hT0 0 (Nat.zero_le _)
  have hnT:∀c,c<=(ord.filter W.contains).length->zmN (T c)=true:=by
    intro c hc
    by_cases h0:c=0
    · rw[h0,hT0'];exact hnS
    · have : c = (ord.filter W.contains).length := by omega
      rw[this];exact hK.nS
  have hmem:∀p∈textEnv Γ os xs ord.length,nol p.2=true:=by
    have:=List.all_eq_true.1 hK.nE
    exact this
  have hxn:∀(q:Nat) (o:Oper) (x:AV) (d:Nat),os[q]?=some o->xs[q]?=some x->o.dst=some d->nol x=true:=by
    intro q o x d ho hx hd
    have hq:=(List.getElem?_eq_some_iff.1 ho).1
    exact hmem _ ((zdR os xs Γ ord.length).2 q o x d (by omega) ho hx hd)
  have hΓn:Γ.all (fun p=>nol p.2)=true:=List.all_eq_true.2 fun p hp=>hmem p ((zdR os xs Γ ord.length).1 p hp)
  generalize hQ:(fun e a' w'=>∃Γ' σ' ρ',yk K Q e Γ' σ'/\FR N Γ' σ' ρ' w' a'/\Rel σ' ρ' w'/\Step n σ ρ w σ' ρ' w')=Q0
  have hdist:∀(i j:Nat) (o p:Oper) (d:Nat),i≠j->l.toArray[i]?=some o->l.toArray[j]?=some p->p.dst=some d->o.dst≠some d:=fun i j o p d hij ho hp hd=>(va hok ho hp (Ne.symm hij) hd).1
  have hlen':(kh ord xs l.toArray.size).length=l.toArray.size:=by simp[kh]
  have htext:=ziP (ops:=l.toArray) hdist Γ hnd hol hlen (fun p i o hi ho=>(hops p i o _ hi ho (List.getElem?_eq_getElem (show p<xs.length by have:=(List.getElem?_eq_some_iff.1 hi).1;omega))).1)
  generalize hxs:kh ord xs l.toArray.size=xb at hlen' htext
  have main : ∀ (fuel : Nat) (listed : Array Bool) (c : Nat) (Γ' : Env) (ρ' : Rz) (a' : Act) (w' : World), c <= (ord.filter W.contains).length -> (∀ (m w : Nat), (ord.filter W.contains)[m]? = some w -> (listed.getD w false = true ↔ m < c)) -> listed.size = l.length -> ((List.range l.length).filter (fun i => !listed.getD i true)).length = fuel ->
      (∀i o,listed.getD i false=true->l.toArray[i]?=some o->∀e∈o.after,Region.binds .any e=true->listed.getD e.on false=true) ->
      Agr l.toArray xb Γ (fun j=>listed.getD j false=true/\j≠mA/\j≠mS) Γ'->Γ'.all (fun p=>nol p.2)=true->FR N ((dA,.junk)::Γ') (T c) ρ' w' a'->Rel (T c) ρ' w'->HidI n σ ρ w (T c) (listed.getD mA false) (listed.getD mS false) dA tA dy csA ρ' w' a'->wpAny P .any l.toArray Q0 fuel listed a' w':=by
    intro fuel
    induction fuel with
    | zero=>
      intro listed c Γ' ρ' a' w' hc hcw hsz hcnt hcl hag hgn hf' hr' st
      have hall:∀i,i<l.length->listed.getD i true=true:=by
        intro i hi
        have:(List.range l.length).filter (fun i=>!listed.getD i true)=[]:=List.eq_nil_of_length_eq_zero hcnt
        rw[List.filter_eq_nil_iff]at this
        simpa using this i (by simpa using hi)
      have hallf:∀i,i<l.length->listed.getD i false=true:=by
        intro i hi
        have:=hall i hi
        simpa[Array.getD,hsz,hi]using this
      refine⟨?_,?_⟩
      · unfold Region.ready
        rw[List.filter_eq_nil_iff]
        intro i hi
        simp[hall i (by simpa using hi)]
      · rw[<-hQ]
        have hT:=htext ord.length (Nat.le_refl _)
        have hag':Agr l.toArray xb Γ (fun j=>j∈ord.take ord.length) Γ':=by
          intro t
          refine⟨fun j o x hj=>(hag t).1 j o x ⟨hallf j (by simpa using(hsm j (by simpa using hj)).1),(hsm j (by simpa using hj)).2⟩,fun hnn=>(hag t).2 (fun j o hj ho=>hnn j o (by have:=(Array.getElem?_eq_some_iff.1 ho).1;simpa using hall' j this hj.2.1 hj.2.2) ho)⟩
        have hsame:=Agr.same hlen' hag' hT
        have hcT:c=(ord.filter W.contains).length:=by
          rcases Nat.lt_or_ge c (ord.filter W.contains).length with hlt|hge
          · obtain⟨w,hw⟩:=yv hlt
            have hwm:w∈ord:=(List.mem_filter.1 (List.mem_of_getElem? hw)).1
            have hwl:w<l.length:=by simpa using(hsm w hwm).1
            have:=(hcw c w hw).1 (hallf w hwl)
            omega
          · omega
        have hlA:mA<l.length:=(List.getElem?_eq_some_iff.1 hoA).1
        have hlS:mS<l.length:=(List.getElem?_eq_some_iff.1 hS1).1
        obtain⟨b,k1,k2,k3,k4,k5⟩:=st.v (hallf mA hlA)
        rw[if_pos (hallf mS hlS)]at k5
        subst hcT
        have hnA:¬ρ.fo b:=fun h=>by have:=hr.fol _ h;omega
        have hVy:VR (T (ord.filter W.contains).length) ρ' w' (get (textEnv Γ os xs ord.length) dy) (a'.tmps.getD dy undef):=by
          have h1:=hf'.2.2 dy
          have e:get ((dA,AV.junk)::Γ') dy=get Γ' dy:=by simp only[get,if_neg hyA]
          rw[e,hsame dy]at h1
          exact h1
        obtain⟨g1,g2⟩:=vX hr' hVy hK.hc
        have hgen:=zkP (σ:=T (ord.filter W.contains).length) (ρ:=ρ') (w:=w') (X:=acells (get (textEnv Γ os xs ord.length) dy)) k2 st.fo
        have hnd2:=zhe hK.nE
        have hX:=VRl.gen hgen _ _ (.inr (zfH (hnd2 dy))) g1
        have hh:w'.heap[b]?=some (.cells (a'.tmps.getD dy undef).cells.toList.toArray tA (0,0)):=by rw[k5]
        refine⟨(dA,AV.ptr (T (ord.filter W.contains).length).length 0)::textEnv Γ os xs ord.length,T (ord.filter W.contains).length++[Ob.box (acells (get (textEnv Γ os xs ord.length) dy))],ad1 ρ' ρ.fo (T (ord.filter W.contains).length).length b,hK.hK,⟨hf'.1,⟨hf'.2.1.1,fun g=>VR.gen hgen _ _ (.inr (zgA g)) (hf'.2.1.2 g)⟩,fun i=>?_⟩,zrn hr' k2 st.fo hnA hK.nS hh g2 hX,?_⟩
        · by_cases hi:i=dA
          · subst hi
            simp only[get,if_true]
            rw[k1]
            simp only[VR]
            exact⟨by rw[List.length_append];simp,fun _ _=>⟨b,zb2,rfl⟩⟩
          · have h1:=hf'.2.2 i
            have e:get ((dA,AV.junk)::Γ') i=get Γ' i:=by simp only[get,if_neg hi]
            have e2:∀y,get ((dA,y)::textEnv Γ os xs ord.length) i=get (textEnv Γ os xs ord.length) i:=by intro y;simp only[get,if_neg hi]
            rw[e,hsame i]at h1
            rw[e2]
            exact VR.gen hgen _ _ (.inr (hnd2 i)) h1
        · refine ⟨st.st.os, st.st.tape, st.st.output, st.st.size, st.st.kept, fun b' hb' => ?_, st.st.len, by have := st.st.len'; rw [List.length_append]; omega, fun o ho => ?_, rfl⟩
          · rcases zfG hb' with h | rfl
            · exact st.st.own b' ((jq rfl).2 h)
            · exact .inr k3
          · have hol:o<(T (ord.filter W.contains).length).length:=Nat.lt_of_lt_of_le ho st.st.len'
            obtain⟨e1,e2⟩:=zfF (σ:=T (ord.filter W.contains).length) (ρ:=ρ') (F:=ρ.fo) (bA:=b) (X:=acells (get (textEnv Γ os xs ord.length) dy)) hol
            rw[e1,e2]
            exact st.st.obj o ho
    | succ fuel ih=>
      intro listed c Γ' ρ' a' w' hc hcw hsz hcnt hcl hag hgn hf' hr' st
      refine⟨fun hnil=>?_,fun i hi=>?_⟩
      · exfalso
        -- the least that is not listed is ready
        have hex:∃i,i<l.length/\listed.getD i true=false:=by
          have hne:(List.range l.length).filter (fun i=>!listed.getD i true)≠[]:=by intro e;rw[e]at hcnt;simp at hcnt
          obtain⟨i,hi⟩:=List.exists_mem_of_ne_nil _ hne
          rw[List.mem_filter]at hi
          exact⟨i,by simpa using hi.1,by simpa using hi.2⟩
        obtain⟨i,⟨hi1,hi2⟩,hmin⟩:=exists_least hex
        obtain⟨o,ho⟩:∃o,l.toArray[i]?=some o:=⟨l[i],by simp[hi1]⟩
        have hmem:i∈Region.ready .any l.toArray listed:=by
          unfold Region.ready
          rw[List.mem_filter]
          refine⟨by simpa using hi1,?_⟩
          rw[ho]
          simp only[Option.map_some,Option.getD_some,Bool.and_eq_true,Bool.not_eq_true',hi2,true_and]
          rw[Array.all_eq_true']
          intro e he
          cases hb:Region.binds .any e with
          | false=>rfl
          | true=>
            have hlt:=zam hok ho e he hb
            have:listed.getD e.on false=true:=by
              cases hge:listed.getD e.on true with
              | true => have hlt' : e.on < listed.size := by omega
                        simpa[Array.getD,hlt']using hge
              | false=>have:=hmin e.on ⟨by omega,hge⟩;omega
            simpa using this
        rw[hnil]at hmem
        simp at hmem
      · unfold Region.ready at hi
        rw[List.mem_filter]at hi
        obtain⟨hi1,hi2⟩:=hi
        have hil:i<l.length:=by simpa using hi1
        obtain⟨o,ho⟩:∃o,l.toArray[i]?=some o:=⟨l[i],by simp[hil]⟩
        rw[ho]at hi2
        simp only[Option.map_some,Option.getD_some,Bool.and_eq_true,Bool.not_eq_true']at hi2
        obtain⟨hi2,hi3⟩:=hi2
        rw[Array.all_eq_true']at hi3
        have hpre:∀e∈o.after,Region.binds .any e=true->listed.getD e.on false=true:=by
          intro e he hb
          have:=hi3 e he
          simpa[hb]using this
        have hi0:i<listed.size:=by omega
        have hli:listed.getD i false=false:=by simpa[Array.getD,hi0]using hi2
        have hcnt':=zmP hil hi2 hcnt
        have hset:∀k,(listed.setIfInBounds i true).getD k false=true↔(k=i\/listed.getD k false=true):=by
          intro j
          by_cases hji:j=i
          · simp[hji,Array.getD_eq_getD_getElem?,hi0]
          · simp[Array.getD_eq_getD_getElem?,Array.getElem?_setIfInBounds_ne (Ne.symm hji),hji]
        have hsetn:∀k,k≠i->(listed.setIfInBounds i true).getD k false=listed.getD k false:=by
          intro j hji
          simp only[Array.getD_eq_getD_getElem?,Array.getElem?_setIfInBounds_ne (Ne.symm hji)]
        have hcl2:∀k q,(listed.setIfInBounds i true).getD k false=true->l.toArray[k]?=some q->∀e∈q.after,Region.binds .any e=true->(listed.setIfInBounds i true).getD e.on false=true:=by
          intro k q hk hq e he hb
          rcases(hset k).1 hk with rfl|hk
          · rw[ho]at hq
            obtain rfl:=Option.some.inj hq
            exact(hset _).2 (.inr (hpre e he hb))
          · exact(hset _).2 (.inr (hcl k q hk hq e he hb))
        obtain⟨hsl1,hsl2,hsl3⟩:=zeC hsl ho
        -- the stored slot's writer has run when the store has
        have hdy:listed.getD mS false=true->i≠mS->o.dst≠some dy:=by
          intro hlS hiS hd
          have hlt:i<mS:=by
            rcases Nat.lt_or_ge i mS with h1|h1
            · exact h1
            · exact absurd hd (hsl3 (by omega))
          obtain⟨e,he,hb,heon⟩:=((va hok hoS' ho hiS hd).2 hSy).1 hlt
          have:=hcl mS oS hlS hoS' e he hb
          rw[heon,hli]at this
          cases this
        by_cases hiA:i=mA
        · -- the variable is made
          subst hiA
          rw[hoA']at ho
          obtain rfl:=Option.some.inj ho
          have hlS:listed.getD mS false=false:=by
            cases hq:listed.getD mS false with
            | false=>rfl
            | true=>
              exfalso
              by_cases hAS:i=mS
              · rw[hAS]at hli;rw[hli]at hq;cases hq
              · rcases Nat.lt_or_ge i mS with h1 | h1
                · obtain⟨e,he,hb,heon⟩:=((va hok hoS' hoA' hAS hdA).2 hSl).1 h1
                  have:=hcl mS oS hq hoS' e he hb
                  rw[heon,hli]at this;cases this
                · obtain ⟨e, he, hb, heon⟩ := ((va hok hoS' hoA' hAS hdA).2 hSl).2 (by omega)
                  exact absurd hmAS (by omega)
          have hAS:i≠mS:=fun e=>by
            subst e
            rw[hoS']at hoA'
            obtain rfl:=Option.some.inj hoA'
            rw[hS3]at hdA;cases hdA
          unfold wpOp
          rw[hoA']
          simp only
          rw[if_pos (by simp[Region.wanted,hgA])]
          refine .inl ?_
          unfold Oper.wp
          rw[zuz hopA hzA,Oper.upon_value]
          have hr2:=zqr (ob:=.cells csA.toArray tA) hr'
          refine ih _ c Γ' (foA ρ' w'.heap.size) _ _ hc ?_ (by simpa using hsz) hcnt' hcl2 ?_ hgn ?_ hr2 ?_
          · intro m v hmv
            have hvi:v≠i:=fun e=>(hsm v (List.mem_filter.1 (List.mem_of_getElem? hmv)).1).2.1 e
            rw[hsetn v hvi]
            exact hcw m v hmv
          · intro t
            refine⟨fun j p y hj=>(hag t).1 j p y ⟨((hset j).1 hj.1).resolve_left hj.2.1,hj.2⟩,fun hnn=>(hag t).2 (fun j p hj=>hnn j p ⟨(hset j).2 (.inr hj.1),hj.2⟩)⟩
          · refine ⟨by simpa [Act.put, hdA] using hf'.1, ⟨by simpa [Act.put, hdA] using hf'.2.1.1, fun g => zn4 _ _ (hf'.2.1.2 g)⟩, fun t => ?_⟩
            by_cases ht:t=dA
            · subst ht
              simp[get,VR]
            · rw [hdA, zbN (by intro e; exact ht (Option.some.inj e).symm)]
              exact zn4 _ _ (hf'.2.2 t)
          · rw[(hset i).2 (.inl rfl),hsetn mS (Ne.symm hAS),hlS]
            have stA:Step n σ ρ w (T c) ⟨ρ'.val,ρ.fo⟩ (w'.alloc (.cells csA.toArray tA)):=by
              refine⟨st.st.os,st.st.tape,st.st.output,by have:=st.st.size;simp;omega,fun b hb ho=>?_,st.st.own,st.st.len,st.st.len',st.st.obj,rfl⟩
              rw[heap_alloc_old w' _ b (Nat.lt_of_lt_of_le hb st.st.size)]
              exact st.st.kept b hb ho
            refine⟨stA,fun b hb=>.inl (st.fo b hb),fun _=>⟨w'.heap.size,?_,.inr rfl,st.st.size,by simp,?_⟩⟩
            · rw[hdA,zmO (by rw[hf'.1];exact hNA)]
            · rw [if_neg (by decide)]
              exact heap_alloc_new w' _
        by_cases hiS:i=mS
        · -- the store
          subst hiS
          rw[hoS']at ho
          obtain rfl:=Option.some.inj ho
          have hlA:listed.getD mA false=true:=by
            rcases Nat.lt_or_ge mA i with h1|h1
            · obtain⟨e,he,hb,heon⟩:=((va hok hoS' hoA' (Ne.symm hiA) hdA).2 hSl).1 h1
              have:=hpre e he hb
              rwa [heon]at this
            · exact absurd hmAS (by omega)
          obtain⟨b,k1,k2,k3,k4,k5⟩:=st.v hlA
          rw[if_neg (by rw[hli];decide)]at k5
          have hVd:VR (T c) ρ' w' (get Γ' dy) (a'.tmps.getD dy undef):=by
            have h1:=hf'.2.2 dy
            have e:get ((dA,AV.junk)::Γ') dy=get Γ' dy:=by simp only[get,if_neg hyA]
            rwa [e]at h1
          -- its value is the one of the end
          have hgd:get Γ' dy=get (textEnv Γ os xs ord.length) dy:=by
            have hT:=htext ord.length (Nat.le_refl _)
            by_cases hex:∃(j:Nat) (q:Oper),l.toArray[j]?=some q/\q.dst=some dy
            · obtain⟨j,q,hq,hqd⟩:=hex
              have hjS:j≠i:=fun e=>by subst e;rw[hoS']at hq;obtain rfl:=Option.some.inj hq;rw[hS3]at hqd;cases hqd
              have hjA:j≠mA:=fun e=>by subst e;rw[hoA']at hq;obtain rfl:=Option.some.inj hq;rw[hdA]at hqd;exact hyA (Option.some.inj hqd).symm
              have hji:j<i:=by
                rcases Nat.lt_or_ge j i with h1|h1
                · exact h1
                · exact absurd hqd ((zeC hsl hq).2.2 (by omega))
              obtain⟨e,he,hb,heon⟩:=((va hok hoS' hq hjS hqd).2 hSy).1 hji
              have hlj:=hpre e he hb
              rw[heon]at hlj
              have hjsz:=(Array.getElem?_eq_some_iff.1 hq).1
              have hxj:xb[j]?=some xb[j]:=List.getElem?_eq_getElem (by omega)
              rw[(hag dy).1 j q _ ⟨hlj,hjA,hjS⟩ hq hqd hxj,(hT dy).1 j q _ (by simpa using hall' j hjsz hjA hjS) hq hqd hxj]
            · rw[(hag dy).2 (fun j (q:Oper) hj hq hqd=>hex ⟨j,q,hq,hqd⟩),(hT dy).2 (fun j (q:Oper) hj hq hqd=>hex ⟨j,q,hq,hqd⟩)]
          have hcf:c=(ord.filter W.contains).length:=by
            rcases Nat.lt_or_ge c (ord.filter W.contains).length with hlt|hge
            · obtain⟨v,hv⟩:=yv hlt
              have h7:=(List.all_eq_true.1 hWS) v (List.mem_of_getElem? hv)
              have h8:=yp hcl 8 i (fun o' ho'=>by rw[hoS']at ho';obtain rfl:=Option.some.inj ho';exact hpre) v (by simpa using h7)
              have:=(hcw c v hv).1 h8
              omega
            · omega
          obtain⟨Y,hY⟩:∃Y,a'.tmps.getD dy undef=Y:=⟨_,rfl⟩
          rw[hY]at hVd
          have hVf:VR (T (ord.filter W.contains).length) ρ' w' (get (textEnv Γ os xs ord.length) dy) Y:=by
            rw[<-hcf,<-hgd];exact hVd
          obtain⟨g1,g2⟩:=vX (by rw[<-hcf];exact hr') hVf hK.hc
          have hsize:Y.cells.size=csA.length:=by
            have h1:=hK.hl
            have h2:=z1 _ _ g1
            have h3:Y.cells.toList.length=Y.cells.size:=Array.length_toList
            omega
          unfold wpOp
          rw[hoS']
          simp only
          rw[if_pos (by simp[Region.wanted,hS4])]
          refine .inl ?_
          obtain⟨d,hd⟩:=z2 hund
          have hone:=g2
          have hst:=run_storeCells_at (P:=P) b 0 tA Y.cells.toList 0 csA.toArray w' k5 (by simp[hsize]) hone
          have hnew:(csA.toArray.toList.take (0+0)++Y.cells.toList++csA.toArray.toList.drop (0+0+Y.cells.toList.length))=Y.cells.toList:=by
            simp[hsize]
          rw[hnew]at hst
          have hrun:(execOp a'.eval oS).run P w'=.ok .skip (w'.setRow b Y.cells.toList.toArray):=by
            have h3:¬Y.cells.size≠P.cellsOf tS:=by rw[hsize,hcell];simp
            have e1:a'.eval (.tmp dA)=.pointer (some ⟨b,0,none⟩):=k1
            have e2:a'.eval (.tmp dy)=Y:=hY
            simp only[execOp,hS2,Instr.storeAt,Instr.sureAddr,e1,e2,storeVar,Sem.run_bind,zE hd,Result.andThen_ok,Sem.run_pure,if_neg h3]
            simp[hst]
          unfold Oper.wp
          rw[hrun,Oper.upon_skip]
          have hFg:FgH (T c) ρ' w' (w'.setRow b Y.cells.toList.toArray):=⟨by simp,fun b' _ hb'=>setRow_other w' b b' _ (fun e=>hb' (by rw[e];exact .inr k2))⟩
          have hr2:=hr'.fgn (hnT c hc) hFg (fun b' hb'=>setRow_other w' b b' _ (fun e=>hr'.dis b' hb' (by rw[e];exact k2)))
          refine ih _ c Γ' ρ' _ _ hc ?_ (by simpa using hsz) hcnt' hcl2 ?_ hgn ?_ hr2 ?_
          · intro m v hmv
            have hvi:v≠i:=fun e=>(hsm v (List.mem_filter.1 (List.mem_of_getElem? hmv)).1).2.2 e
            rw[hsetn v hvi]
            exact hcw m v hmv
          · intro t
            refine⟨fun j p y hj=>(hag t).1 j p y ⟨((hset j).1 hj.1).resolve_left hj.2.2,hj.2⟩,fun hnn=>(hag t).2 (fun j p hj=>hnn j p ⟨(hset j).2 (.inr hj.1),hj.2⟩)⟩
          · rw[hS3]
            refine⟨hf'.1,⟨hf'.2.1.1,fun g=>VR.fgn hFg _ _ (zgA g) (hf'.2.1.2 g)⟩,fun t=>?_⟩
            have hnt:nol (get ((dA,AV.junk)::Γ') t)=true:=by
              simp only[get]
              split
              · rfl
              · exact zhe hgn t
            exact VR.fgn hFg _ _ hnt (hf'.2.2 t)
          · rw[hS3,hsetn mA (Ne.symm hiA),hlA,(hset i).2 (.inl rfl)]
            refine⟨⟨st.st.os,st.st.tape,st.st.output,by have:=st.st.size;simpa using this,fun b' hb' ho=>?_,st.st.own,st.st.len,st.st.len',st.st.obj,rfl⟩,st.fo,fun _=>⟨b,k1,k2,k3,by simpa using k4,?_⟩⟩
            · rw [setRow_other w' b b' _ (by omega)]
              exact st.st.kept b' hb' ho
            · rw[if_pos rfl]
              have:=setRow_heap w' b csA.toArray Y.cells.toList.toArray tA _ k5
              rw[this]
              show some (Obj.cells Y.cells.toList.toArray tA (0,0))=some (Obj.cells (a'.tmps.getD dy undef).cells tA (0,0))
              rw[hY,Array.toArray_toList]
        obtain⟨p,hp⟩:=List.getElem?_of_mem (hall' i (by simpa using hil) hiA hiS)
        have hpl:=(List.getElem?_eq_some_iff.1 hp).1
        obtain⟨o2,ho2⟩:=yv (l:=os) (i:=p) (by omega)
        obtain⟨x,hxp⟩:=yv (l:=xs) (i:=p) (by omega)
        obtain⟨ho3,hwri,hpur⟩:=hops p i o2 x hp ho2 hxp
        obtain rfl:o=o2:=by rw[ho]at ho3;simpa using ho3
        have hx:xb[i]?=some x:=by rw[<-hxs];exact jF hnd (by simpa using hil) hp hxp
        obtain⟨hpe,hpr⟩:=hedge p i o hp ho
        -- what the operation sees is what it sees in the text's order
        have hsee:∀t∈o.looksAt l.toArray,get ((dA,AV.junk)::Γ') t=get (textEnv Γ os xs p) t:=by
          intro t ht
          have htA:t≠dA:=hsl2 hiS t ht
          have e0:get ((dA,AV.junk)::Γ') t=get Γ' t:=by simp only[get,if_neg htA]
          rw[e0]
          have hT:=htext p (by omega)
          by_cases hex:∃j q,j≠i/\l.toArray[j]?=some q/\q.dst=some t
          · obtain⟨j,q,hji,hq,hqd⟩:=hex
            have hjA:j≠mA:=fun e=>by subst e;rw[hoA']at hq;obtain rfl:=Option.some.inj hq;rw[hdA]at hqd;exact htA (Option.some.inj hqd).symm
            have hjS:j≠mS:=fun e=>by subst e;rw[hoS']at hq;obtain rfl:=Option.some.inj hq;rw[hS3]at hqd;cases hqd
            obtain⟨_,hpair⟩:=va hok ho hq hji hqd
            obtain⟨hlt,hge⟩:=hpair ht
            have hj:=(Array.getElem?_eq_some_iff.1 hq).1
            have hxj:xb[j]?=some xb[j]:=List.getElem?_eq_getElem (by omega)
            by_cases hji':j<i
            · obtain⟨e,he,hb,heon⟩:=hlt hji'
              have hlj:=hpre e he hb
              have hjt:=hpe e he hb (by rw[heon];exact hjA) (by rw[heon];exact hjS)
              rw[heon]at hlj hjt
              rw[(hag t).1 j q _ ⟨hlj,hjA,hjS⟩ hq hqd hxj,(hT t).1 j q _ hjt hq hqd hxj]
            · obtain⟨e,he,hb,heon⟩:=hge hji'
              have huniq:∀k r,l.toArray[k]?=some r->r.dst=some t->k=j:=by
                intro k r hr hrd
                by_cases hkj:k=j
                · exact hkj
                · exact absurd hrd (hdist k j r q t hkj hr hq hqd)
              have hnj:¬listed.getD j false=true:=by
                intro hlj
                have:=hcl j q hlj hq e he hb
                rw[heon,hli]at this
                cases this
              have hnt:¬j∈ord.take p:=by
                intro hjt
                obtain⟨p',hp',hjp⟩:=kY hjt
                have hit:=(hedge p' j q hjp hq).1 e he hb (by rw[heon];exact hiA) (by rw[heon];exact hiS)
                rw[heon]at hit
                obtain⟨p2,hp2,hip⟩:=kY hit
                have e1:=vf hnd hip
                have e2:=vf hnd hp
                omega
              rw[(hag t).2 (fun k r hL hr hrd=>hnj (by rw[<-huniq k r hr hrd];exact hL.1)),(hT t).2 (fun k r hk hr hrd=>hnt (by rw[<-huniq k r hr hrd];exact hk))]
          · have hn : ∀ k r, k ≠ i -> l.toArray[k]? = some r -> r.dst ≠ some t := fun k r hk hr hrd => hex ⟨k, r, hk, hr, hrd⟩
            have hit:¬i∈ord.take p:=by
              intro h
              obtain⟨p2,hp2,hip⟩:=kY h
              have e1:=vf hnd hip
              have e2:=vf hnd hp
              omega
            rw[(hag t).2 (fun k r hL hr hrd=>hn k r (by intro e;have hL':listed.getD k false=true:=hL.1;rw[e,hli]at hL';cases hL') hr hrd),(hT t).2 (fun k r hk hr hrd=>hn k r (by intro e;rw[e]at hk;exact hit hk) hr hrd)]
        -- the writers that have run
        have hreach:∀j∈reachB l.toArray 8 i,listed.getD j false=true:=yp hcl 8 i (fun o' ho'=>by rw[ho]at ho';simp at ho';subst ho';exact hpre)
        have hsplit:ord=ord.take p++i::ord.drop (p+1):=by
          obtain⟨hl2,rfl⟩:=List.getElem?_eq_some_iff.1 hp
          simp
        have hckk:c<=((ord.take p).filter W.contains).length:=by
          rcases Nat.lt_or_ge ((ord.take p).filter W.contains).length c with hlt|hge
          · exfalso
            obtain⟨w,hw⟩:=yv (l:=ord.filter W.contains) (i:=((ord.take p).filter W.contains).length) (by omega)
            have hwl:=(hcw _ w hw).2 hlt
            have hws:w∈(i::ord.drop (p+1)).filter W.contains:=by
              rw[hsplit,List.filter_append,List.getElem?_append_right (by simp[<-hsplit])]at hw
              exact List.mem_of_getElem? hw
            obtain⟨hwm,hwW⟩:=List.mem_filter.1 hws
            rw[List.mem_cons]at hwm
            rcases hwm with rfl|hwm
            · rw[hli]at hwl;cases hwl
            · obtain⟨s,hs⟩:=List.getElem?_of_mem hwm
              rw[List.getElem?_drop]at hs
              obtain⟨ow,how⟩:∃ow,l.toArray[w]?=some ow:=⟨l.toArray[w]'(hsm w (List.mem_of_getElem? hs)).1,Array.getElem?_eq_getElem _⟩
              have:=(hedge _ w ow hs how).2 hwW i (zf9 (by omega) hp)
              have h2:=yp hcl 8 w (fun o' ho'=>fun e he hb=>hcl w o' hwl ho' e he hb) i this
              rw[hli]at h2;cases h2
          · exact hge
        have hpref:∀(m w:Nat),((ord.take p).filter W.contains)[m]?=some w->(ord.filter W.contains)[m]?=some w:=by
          intro m w hmw
          rw[hsplit,List.filter_append,List.getElem?_append_left (by have:=(List.getElem?_eq_some_iff.1 hmw).1;simpa[<-hsplit]using this)]
          rw[hsplit]at hmw
          simpa[<-hsplit]using hmw
        have hop:∃c2,c2<=(ord.filter W.contains).length/\(∀(m w:Nat),(ord.filter W.contains)[m]?=some w->((listed.setIfInBounds i true).getD w false=true↔m<c2)) /\
            ro P N l.toArray [o] (rst l.toArray o (textEnv Γ os xs p)) (T c) (fun Γ1 τ=>Γ1=put (rst l.toArray o (textEnv Γ os xs p)) o.dst x/\τ=T c2):=by
          have hi0':i<listed.size:=hi0
          cases hWi:W.contains i with
          | true=>
            have hge:((ord.take p).filter W.contains).length<=c:=by
              rcases Nat.lt_or_ge c ((ord.take p).filter W.contains).length with hlt|hge
              · exfalso
                obtain⟨w,hw⟩:=yv hlt
                have hwm:=(List.mem_filter.1 (List.mem_of_getElem? hw)).1
                have:=(hcw c w (hpref c w hw)).1 (hreach w (hpr hWi w hwm))
                omega
              · exact hge
            have hce:c=((ord.take p).filter W.contains).length:=by omega
            have hci:(ord.filter W.contains)[c]?=some i:=by
              rw[hsplit,List.filter_append,List.filter_cons,if_pos hWi,List.getElem?_append_right (by simp[<-hsplit,hce])]
              simp[<-hsplit,hce]
            have hcl2:=(List.getElem?_eq_some_iff.1 hci).1
            refine⟨c+1,hcl2,fun m w hmw=>?_,by rw[hce];exact hwri hWi⟩
            by_cases hmc:m=c
            · subst hmc
              rw[hci]at hmw
              simp at hmw
              subst hmw
              simp[Array.getD_eq_getD_getElem?,hi0]
            · have hwi:w≠i:=by
                intro e
                subst e
                have hnf:(ord.filter W.contains).Nodup:=List.Pairwise.filter _ hnd
                exact hmc (by rw[<-vf hnf hmw,<-vf hnf hci])
              have:=hcw m w hmw
              simp only[Array.getD_eq_getD_getElem?,Array.getElem?_setIfInBounds_ne (Ne.symm hwi)]at this ⊢
              rw[this];omega
          | false=>
            refine⟨c,hc,fun m w hmw=>?_,hpur hWi c hckk ?_⟩
            · have hwi:w≠i:=by
                intro e
                subst e
                have:=(List.mem_filter.1 (List.mem_of_getElem? hmw)).2
                rw[hWi]at this;cases this
              have:=hcw m w hmw
              simpa only[Array.getD_eq_getD_getElem?,Array.getElem?_setIfInBounds_ne (Ne.symm hwi)]using this
            · rcases Nat.lt_or_ge (c+ze8 l.toArray W (ord.take p) i) ((ord.take p).filter W.contains).length with hlt | hge
              · exfalso
                unfold ze8 at hlt
                generalize hws:(ord.take p).filter W.contains=ws at hlt hpref
                have htw:=List.takeWhile_append_dropWhile (p:=fun w=>!(reachB l.toArray 8 i).contains w) (l:=ws.reverse)
                have hlen2:=congrArg List.length htw
                rw[List.length_append,List.length_reverse]at hlen2
                generalize hb:(ws.reverse.takeWhile fun w=>!(reachB l.toArray 8 i).contains w).length=b at *
                have hdw:(ws.reverse.dropWhile fun w=>!(reachB l.toArray 8 i).contains w)≠[]:=by
                  intro e
                  rw[e]at hlen2
                  simp at hlen2
                  omega
                obtain⟨w,r,hwr⟩:=List.exists_cons_of_ne_nil hdw
                have hwc:(reachB l.toArray 8 i).contains w=true:=by
                  have h5:=List.head_dropWhile_not (fun w=>!(reachB l.toArray 8 i).contains w) hdw
                  simp only[hwr,List.head_cons]at h5
                  simpa using h5
                have hwget:ws.reverse[b]?=some w:=by
                  rw[<-htw,hwr,List.getElem?_append_right (by omega),hb,Nat.sub_self];rfl
                rw[List.getElem?_reverse (by omega)]at hwget
                have h6:=(hcw _ w (hpref _ w hwget)).1 (hreach w (by simpa using hwc))
                omega
              · exact hge
        obtain⟨c2,hc2,hcw2,hop⟩:=hop
        have hgn2:(put Γ' o.dst x).all (fun p=>nol p.2)=true:=by
          cases hd:o.dst with
          | none=>exact hgn
          | some d=>
            show((d,x)::Γ').all _=true
            simp only[List.all_cons,Bool.and_eq_true]
            exact⟨hxn p o x d ho2 hxp hd,hgn⟩
        have hAg2:Agr l.toArray xb Γ (fun j=>(listed.setIfInBounds i true).getD j false=true/\j≠mA/\j≠mS) (put Γ' o.dst x):=by
          have:=hag.put ho hx (fun j p d hji hp hpd=>hdist i j o p d (Ne.symm hji) ho hp hpd)
          intro t
          have hL:∀j,((listed.setIfInBounds i true).getD j false=true/\j≠mA/\j≠mS)↔(j=i\/(listed.getD j false=true/\j≠mA/\j≠mS)):=by
            intro j
            constructor
            · rintro⟨h1,h2⟩
              exact((hset j).1 h1).imp (fun h=>h) fun h=>⟨h,h2⟩
            · rintro(rfl | h)
              · exact⟨(hset _).2 (.inl rfl),hiA,hiS⟩
              · exact⟨(hset _).2 (.inr h.1),h.2⟩
          exact⟨fun j p y hj=>(this t).1 j p y ((hL j).1 hj),fun hnn=>(this t).2 (fun j p hj=>hnn j p ((hL j).2 hj))⟩
        have key:∀(ρ2:Rz) (w2:World) (v:Value),FR N (put ((dA,.junk)::Γ') o.dst x) (T c2) ρ2 w2 (a'.put o.dst v)->Rel (T c2) ρ2 w2->HidI n σ ρ w (T c2) (listed.getD mA false) (listed.getD mS false) dA tA dy csA ρ2 w2 (a'.put o.dst v)->wpAny P .any l.toArray Q0 fuel (listed.setIfInBounds i true) (a'.put o.dst v) w2:=by
          intro ρ2 w2 v hf2 hr2 st2
          refine ih _ c2 (put Γ' o.dst x) ρ2 _ w2 hc2 hcw2 (by simpa using hsz) hcnt' hcl2 hAg2 hgn2 (znm hf2) hr2 ?_
          rw[hsetn mA (Ne.symm hiA),hsetn mS (Ne.symm hiS)]
          exact st2
        have hput:∀v:Value,(a'.put o.dst v).tmps.getD dA undef=a'.tmps.getD dA undef:=fun v=>zbN (hsl1 hiA)
        have hputy:∀v:Value,listed.getD mS false=true->(a'.put o.dst v).tmps.getD dy undef=a'.tmps.getD dy undef:=fun v hl=>zbN (hdy hl hiS)
        have hHid0:∀v,HidI n σ ρ w (T c) (listed.getD mA false) (listed.getD mS false) dA tA dy csA ρ' w' (a'.put o.dst v):=fun v=>st.step hr' (.refl _ _ _ _ (Nat.le_refl _)) (hput v) (hputy v)
        have key2:T c=T c2->∀(v:Value),FR N (put ((dA,.junk)::Γ') o.dst x) (T c) ρ' w' (a'.put o.dst v)->wpAny P .any l.toArray Q0 fuel (listed.setIfInBounds i true) (a'.put o.dst v) w':=by
          intro e v hf2
          have h1:=hHid0 v
          rw[e]at hf2 h1
          exact key _ _ _ hf2 (by rw[<-e];exact hr') h1
        have hfr:=hf'.rst (ops:=l.toArray) (o:=o) hsee
        unfold wpOp
        rw[ho]
        simp only
        generalize hR:rst l.toArray o (textEnv Γ os xs p)=R at hop hfr
        have run:Oper.dstOk N o=true->SOp P N o R (T c) (fun x' σ'=>put R o.dst x'=put R o.dst x/\σ'=T c2)->o.wp P a' w' (wpAny P .any l.toArray Q0 fuel (listed.setIfInBounds i true)) Q0:=by
          intro hd hop
          refine hop ρ' w' a' _ Q0 hfr hr' ?_
          intro x' σ' ρ2 w2 v hK2 hr2 hv st2
          obtain⟨he,hs⟩:=hK2
          subst hs
          exact key ρ2 w2 v (zY (hf'.carry st2) hd he hv) hr2 (st.step hr' st2 (hput v) (hputy v))
        unfold ro rgn at hop
        cases hg:o.guard with
        | none=>
          rw[hg]at hop
          simp only[rgn]at hop
          rw[if_pos (by simp[Region.wanted,hg])]
          exact .inl (run hop.1 hop.2)
        | some jw=>
          obtain⟨j,want⟩:=jw
          rw[hg]at hop
          simp only[rgn]at hop
          cases hgd:gdv l.toArray R j with
          | none=>
            rw[hgd]at hop
            obtain⟨h1,hdo,h⟩:=hop
            have hy:=vI h1 hfr
            rw[if_neg (by simp[Region.wanted,hg,hy])]
            exact key2 h.2 _ (zY hf' hdo h.1 (by simp[VR]))
          | some t=>
            rw[hgd]at hop
            simp only at hop
            obtain⟨hdo,h⟩:=hop
            have hy:=kf hgd hfr
            rcases h with⟨x',hx',h⟩|h
            · obtain⟨hsc,hgv⟩:=kB P N _ _ _ _ _ hx' ρ' w' a' hfr hr'
              by_cases htw:t=want
              · rw [if_pos (by simp [Region.wanted, hg, hy, htw])]
                refine .inl ?_
                obtain⟨v,h1,h2⟩:=hgv (by simp[htw])
                unfold Oper.wp
                rw[h1,Oper.upon_value]
                exact key2 h.2 _ (zY hf' hdo h.1 (by simp only[VR];exact⟨hsc,fun _=>h2,fun e=>by simp[htw]at e⟩))
              · rw [if_neg (by simp [Region.wanted, hg, hy, htw])]
                exact key2 h.2 _ (zY hf' hdo h.1 (by simp only[VR];exact⟨hsc,fun e=>absurd e (by simp[htw]),fun _=>trivial⟩))
            · by_cases htw:t=want
              · rw [if_pos (by simp [Region.wanted, hg, hy, htw])]
                exact .inl (run hdo (h.1 htw))
              · rw [if_neg (by simp [Region.wanted, hg, hy, htw])]
                exact key2 (h.2 htw).2 _ (zY hf' hdo (h.2 htw).1 (by simp[VR]))
  refine main l.length (Array.replicate l.length false) 0 Γ ρ a _ (Nat.zero_le _) (fun m w _=>by simp[Array.getD]) (by simp) ?_ ?_ ?_ hΓn ?_ (by rw[hT0'];exact za2 hr) ?_
  · have:(List.range l.length).filter (fun i=>!(Array.replicate l.length false).getD i true)=List.range l.length:=by
      rw[List.filter_eq_self]
      intro i hi
      have:i<l.length:=by simpa using hi
      simp[Array.getD,this]
    rw[this];simp
  · intro i o hi;simp[Array.getD]at hi
  · intro t;exact⟨fun j o x hj=>by simp[Array.getD]at hj,fun _=>rfl⟩
  · rw[hT0']
    have hf2:=hf.carry (yR (w:=w) (Nat.le_refl _))
    refine⟨hf2.1,hf2.2.1,fun i=>?_⟩
    simp only[get]
    split
    · simp[VR]
    · exact hf2.2.2 i
  · rw[hT0']
    exact⟨yR hn,fun b hb=>hb,fun e=>by simp[Array.getD]at e⟩
end drawas
end Go.Lf
