/- The layer Lf: abstract values,stores and frames over the kit's weakest preconditions;generic in the program. -/
import Derived.Test.YtdalcgfnlbofdaaGreatDoorLb
set_option linter.unusedVariables false
set_option linter.unusedSimpArgs false
namespace Go.Lf
def ze8(ops:Array Oper)(W pre:List Nat)(i:Nat): Nat:=((pre.filter W.contains).reverse.takeWhile fun w=>!(reachB ops 8 i).contains w).length
def zl5(ops:Array Oper)(ord W:List Nat): Bool:=
  decide ord.Nodup && ord.all (fun i=>decide (i<ops.size)) && (List.range ops.size).all (fun i=>ord.contains i) &&
  (List.range ord.length).all fun p => match ord[p]? with
    | none=>true
    | some i => (match ops[i]? with | none => false | some o => o.after.all fun e => !Region.binds .any e || (ord.take p).contains e.on) &&
        (!W.contains i || (ord.take p).all fun j=>(reachB ops 8 i).contains j)
def zlo(p:Sto->Prop): List Sto->Prop
 | []=>True
 | σ::l=>p σ/\zlo p l
theorem zf6{p:Sto->Prop}: ∀{l:List Sto} {m:Nat} {τ:Sto},zlo p l->l[m]?=some τ->p τ
 | [],_,_,_,h=>by simp at h
 | _::_,0,_,h,e=>by simp at e;subst e;exact h.1
 | _::_,m+1,_,h,e=>zf6 h.2 (by simpa using e)
theorem zf7{p:Sto->Prop}{σ:Sto}(h:p σ): zlo p [σ]:=⟨h,trivial⟩
theorem zf8{p:Sto->Prop}(h:∀τ,p τ): ∀l:List Sto,zlo p l
 | []=>trivial
 | _::l=>⟨h _,zf8 h l⟩
def dw(P:Program)(N:Nat)(ops:Array Oper)(W:List Nat): List Nat->List Nat->Env->Sto->List Sto->(Env->Sto->Prop)->Prop
  | _,[],Γ,σ,_,K=>K Γ σ
  | pre, i :: is, Γ, σ, H, K => ∃ o, ops[i]? = some o /\
    ((W.contains i = true /\ ∃ x σ2, ro P N ops [o] (rst ops o Γ) σ (fun Γ1 τ => Γ1 = put (rst ops o Γ) o.dst x /\ τ = σ2) /\ dw P N ops W (pre ++ [i]) is (put Γ o.dst x) σ2 (σ :: H) K) \/
     (W.contains i=false/\∃x,zlo (fun τ=>ro P N ops [o] (rst ops o Γ) τ (fun Γ1 τ'=>Γ1=put (rst ops o Γ) o.dst x/\τ'=τ)) (σ::H.take (ze8 ops W pre i))/\dw P N ops W (pre++[i]) is (put Γ o.dst x) σ H K))
theorem ze9{W pre:List Nat}{i:Nat}(h:W.contains i=true): (pre++[i]).filter W.contains=pre.filter W.contains++[i]:=by
 rw[List.filter_append,List.filter_cons,if_pos h,List.filter_nil]
theorem zfa{W pre:List Nat}{i:Nat}(h:W.contains i=false): (pre++[i]).filter W.contains=pre.filter W.contains:=by
 rw[List.filter_append,List.filter_cons,if_neg (by rw[h];simp),List.filter_nil,List.append_nil]
section draww
variable {P : Program} {N : Nat} {ops : Array Oper} {W : List Nat}
theorem zc7{K:Env->Sto->Prop}: ∀(is pre:List Nat) (Γ:Env) (σ:Sto) (H:List Sto) (T0:Nat->Sto),dw P N ops W pre is Γ σ H K->T0 (pre.filter W.contains).length=σ ->
    H=(List.range (pre.filter W.contains).length).reverse.map T0 ->
    ∃(os:List Oper) (xs:List AV) (T:Nat->Sto),os.length=is.length/\xs.length=is.length/\(∀c,c<=(pre.filter W.contains).length->T c=T0 c) /\
      K (textEnv Γ os xs is.length) (T ((pre++is).filter W.contains).length) /\
      ∀p i o x,is[p]?=some i->os[p]?=some o->xs[p]?=some x->ops[i]?=some o /\
        (W.contains i=true->ro P N ops [o] (rst ops o (textEnv Γ os xs p)) (T ((pre++is.take p).filter W.contains).length) (fun Γ1 τ=>Γ1=put (rst ops o (textEnv Γ os xs p)) o.dst x/\τ=T (((pre++is.take p).filter W.contains).length+1))) /\
        (W.contains i=false->∀c,c<=((pre++is.take p).filter W.contains).length->((pre++is.take p).filter W.contains).length<=c+ze8 ops W (pre++is.take p) i ->
          ro P N ops [o] (rst ops o (textEnv Γ os xs p)) (T c) (fun Γ1 τ=>Γ1=put (rst ops o (textEnv Γ os xs p)) o.dst x/\τ=T c))
  | [],pre,Γ,σ,H,T0,h,hT,hH=>⟨[],[],T0,rfl,rfl,fun _ _=>rfl,by rw[List.append_nil,hT];exact h,by simp⟩
  | i::is,pre,Γ,σ,H,T0,h,hT,hH=>by
    obtain⟨o,ho,h⟩:=h
    have happ:∀q,pre++(i::is).take (q+1)=(pre++[i])++is.take q:=by intro q;simp
    have happ2:pre++(i::is)=(pre++[i])++is:=by simp
    rcases h with⟨hW,x,σ2,h1,h2⟩|⟨hW,x,h1,h2⟩
    · have hf:=ze9 (pre:=pre) hW
      have hfl:((pre++[i]).filter W.contains).length=(pre.filter W.contains).length+1:=by rw[hf];simp
      obtain⟨os,xs,T,k1,k2,k3,k4,k5⟩:=zc7 is (pre++[i]) _ σ2 (σ::H) (fun c=>if c=(pre.filter W.contains).length+1 then σ2 else T0 c) h2 (by rw[hfl];simp) (by
        rw[hfl,List.range_succ,List.reverse_append,List.reverse_singleton,List.singleton_append,List.map_cons]
        rw[if_neg (by omega),hT,hH]
        congr 1
        apply List.map_congr_left
        intro a ha
        rw[List.mem_reverse,List.mem_range]at ha
        rw[if_neg (by omega)])
      have hTk:∀c,c<=(pre.filter W.contains).length->T c=T0 c:=by
        intro c hc
        rw[k3 c (by omega),if_neg (by omega)]
      refine⟨o::os,x::xs,T,by simp[k1],by simp[k2],hTk,?_,?_⟩
      · rw[happ2];simpa[textEnv]using k4
      · intro p j o' x' hi ho' hx
        cases p with
        | zero=>
          simp at hi ho' hx
          subst hi;subst ho';subst hx
          refine⟨ho,fun _=>?_,fun e=>by rw[hW]at e;cases e⟩
          rw[List.take_zero,List.append_nil,hTk _ (Nat.le_refl _),hT,k3 _ (by omega),if_pos rfl]
          exact h1
        | succ q=>
          rw[happ]
          exact k5 q j o' x' (by simpa using hi) (by simpa using ho') (by simpa using hx)
    · have hf:=zfa (pre:=pre) hW
      obtain⟨os,xs,T,k1,k2,k3,k4,k5⟩:=zc7 is (pre++[i]) _ σ H T0 h2 (by rw[hf];exact hT) (by rw[hf];exact hH)
      rw[hf]at k3
      refine⟨o::os,x::xs,T,by simp[k1],by simp[k2],k3,?_,?_⟩
      · rw[happ2];simpa[textEnv]using k4
      · intro p j o' x' hi ho' hx
        cases p with
        | zero=>
          simp at hi ho' hx
          subst hi;subst ho';subst hx
          refine⟨ho,fun e=>(by rw[hW]at e;cases e),fun _ c hc hb=>?_⟩
          rw[List.take_zero,List.append_nil]at hc hb
          rw[k3 c hc]
          refine zf6 (m:=(pre.filter W.contains).length-c) h1 ?_
          by_cases hck:c=(pre.filter W.contains).length
          · rw[hck,Nat.sub_self,hT];rfl
          · obtain ⟨m, hm⟩ : ∃ m, (pre.filter W.contains).length - c = m + 1 := ⟨(pre.filter W.contains).length - c - 1, by omega⟩
            rw[hm,List.getElem?_cons_succ,List.getElem?_take,if_pos (by omega),hH,List.getElem?_map,List.getElem?_reverse (by simp;omega),List.length_range,List.getElem?_range (by omega)]
            simp only[Option.map_some]
            congr 2;omega
        | succ q=>
          rw[happ]
          exact k5 q j o' x' (by simpa using hi) (by simpa using ho') (by simpa using hx)
theorem zeh: ∀(l:List Oper) (ys:List AV) (Γ:Env) (i:Nat),i<l.length->ys.length=l.length->∀o x,l[i]?=some o->ys[i]?=some x->textEnv Γ l ys (i+1)=put (textEnv Γ l ys i) o.dst x:=by
 intro l
 induction l with
 | nil=>intro ys Γ i h;simp at h
 | cons p l ih=>
  intro ys Γ i h hl o x ho hx
  cases ys with
  | nil=>simp at hl
  | cons y ys=>
   cases i with
   | zero=>simp at ho hx;subst ho hx;simp[textEnv]
   | succ i=>
    have:=ih ys (put Γ p.dst y) i (by simpa using h) (by simpa using hl) o x (by simpa using ho) (by simpa using hx)
    simpa[textEnv]using this
theorem vf{ord:List Nat}(hn:ord.Nodup){p i:Nat}(h:ord[p]?=some i): ord.idxOf i=p:=by
 obtain⟨hl,rfl⟩:=List.getElem?_eq_some_iff.1 h
 exact hn.idxOf_getElem _ _
theorem kY{ord:List Nat}{p j:Nat}(h:j∈ord.take p): ∃q,q<p/\ord[q]?=some j:=by
 obtain⟨q,hq⟩:=List.getElem?_of_mem h
 rw[List.getElem?_take]at hq
 split at hq
 ·exact⟨q,by assumption,hq⟩
 ·cases hq
theorem zf9{ord:List Nat}{p q j:Nat}(hq:q<p)(h:ord[q]?=some j): j∈ord.take p:=by
 apply List.mem_of_getElem? (i:=q)
 rw[List.getElem?_take,if_pos hq];exact h
def kh(ord:List Nat)(xs:List AV)(n:Nat): List AV:=(List.range n).map fun j=>xs.getD (ord.idxOf j) .junk
theorem jF{ord:List Nat}(hn:ord.Nodup){xs:List AV}{n p i:Nat}{x:AV}(hi:i<n)(h:ord[p]?=some i)(hx:xs[p]?=some x): (kh ord xs n)[i]?=some x:=by
 unfold kh
 rw[List.getElem?_map,List.getElem?_range hi,Option.map_some,vf hn h,List.getD_eq_getElem?_getD,hx];rfl
theorem ziP(hd:∀(i j:Nat) (o p:Oper) (d:Nat),i≠j->ops[i]?=some o->ops[j]?=some p->p.dst=some d->o.dst≠some d)(Γ0:Env){ord:List Nat}{os:List Oper}{xs:List AV}(hn:ord.Nodup)
    (h1:os.length=ord.length) (h2:xs.length=ord.length) (h3:∀(p i:Nat) (o:Oper),ord[p]?=some i->os[p]?=some o->ops[i]?=some o) :
    ∀p,p<=ord.length->Agr ops (kh ord xs ops.size) Γ0 (fun j=>j∈ord.take p) (textEnv Γ0 os xs p):=by
  intro p
  induction p with
  | zero=>intro _ t;exact⟨fun j o x hj=>absurd hj (by simp),fun _=>by simp[textEnv]⟩
  | succ p ih=>
    intro hp
    have hA:=ih (by omega)
    obtain⟨i,hi⟩:=yv (l:=ord) (i:=p) (by omega)
    obtain⟨o,ho⟩:=yv (l:=os) (i:=p) (by omega)
    obtain⟨x,hx⟩:=yv (l:=xs) (i:=p) (by omega)
    have ho2:=h3 p i o hi ho
    have hsz:=(Array.getElem?_eq_some_iff.1 ho2).1
    rw[zeh os xs Γ0 p (by omega) (by omega) o x ho hx]
    have:=hA.put ho2 (jF hn hsz hi hx) (fun j q d hji hq hqd=>hd i j o q d (Ne.symm hji) ho2 hq hqd)
    have e:ord.take (p+1)=ord.take p++[i]:=by
      obtain⟨hl,rfl⟩:=List.getElem?_eq_some_iff.1 hi
      simp
    intro t
    refine⟨fun j q y (hj:j∈ord.take (p+1))=>(this t).1 j q y ?_,fun hnn=>(this t).2 (fun j q hj=>hnn j q ?_)⟩
    · rw[e,List.mem_append,List.mem_singleton]at hj
      rcases hj with hj|hj
      · exact .inr hj
      · exact .inl hj
    · show j∈ord.take (p+1)
      rw[e,List.mem_append,List.mem_singleton]
      rcases hj with hj|hj
      · exact .inr hj
      · exact .inl hj
theorem zl6{ord:List Nat}(h:zl5 ops ord W=true): ord.Nodup/\(∀i,i∈ord->i<ops.size)/\(∀i,i<ops.size->i∈ord) /\
    ∀(p i:Nat) (o:Oper),ord[p]?=some i->ops[i]?=some o->(∀e∈o.after,Region.binds .any e=true->e.on∈ord.take p)/\(W.contains i=true->∀j∈ord.take p,j∈reachB ops 8 i):=by
  unfold zl5 at h
  simp only[Bool.and_eq_true]at h
  obtain⟨⟨⟨h1,h2⟩,h3⟩,h4⟩:=h
  refine⟨by simpa using h1,fun i hi=>by simpa using(List.all_eq_true.1 h2) i hi,fun i hi=>by simpa using(List.all_eq_true.1 h3) i (by simpa using hi),fun p i o hp ho=>?_⟩
  have hl:=(List.getElem?_eq_some_iff.1 hp).1
  have:=(List.all_eq_true.1 h4) p (by simpa using hl)
  rw[hp]at this
  simp only[ho,Bool.and_eq_true]at this
  refine⟨fun e he hb=>?_,fun hw j hj=>?_⟩
  · have h5:=(Array.all_eq_true'.1 this.1) e he
    simpa[hb]using h5
  · have h5:=this.2
    rw[hw]at h5
    simp only[Bool.not_true,Bool.false_or]at h5
    simpa using(List.all_eq_true.1 h5) j hj
set_option maxRecDepth 20000 in
theorem zv{n id:Nat}{l:List Oper}{Γ:Env}{σ:Sto}{Q:Exit->Env->Sto->Prop}{K:Env->Sto->Prop}(ord W:List Nat)(hm:P.follows .mixedOrders=true)(hok:jm l.toArray=true)(hor:zl5 l.toArray ord W=true)(h:dw P N l.toArray W [] ord Γ σ [] K):
    PWp P N n (.region id l.toArray true) Γ σ (yk K Q):=by
  intro ρ w a hn hf hr
  refine wp_region_any hm ?_
  obtain⟨hnd,hsm,hall',hedge⟩:=zl6 hor
  obtain⟨os,xs,T,hol,hlen,hT0,hK,hops⟩:=zc7 ord [] Γ σ [] (fun _=>σ) h rfl rfl
  simp only[List.nil_append]at hK hops
  have hT0':T 0=σ:=hT0 0 (Nat.zero_le _)
  generalize hQ:(fun e a' w'=>∃Γ' σ' ρ',yk K Q e Γ' σ'/\FR N Γ' σ' ρ' w' a'/\Rel σ' ρ' w'/\Step n σ ρ w σ' ρ' w')=Q0
  have hdist:∀(i j:Nat) (o p:Oper) (d:Nat),i≠j->l.toArray[i]?=some o->l.toArray[j]?=some p->p.dst=some d->o.dst≠some d:=fun i j o p d hij ho hp hd=>(va hok ho hp (Ne.symm hij) hd).1
  have hlen':(kh ord xs l.toArray.size).length=l.toArray.size:=by simp[kh]
  have htext:=ziP (ops:=l.toArray) hdist Γ hnd hol hlen (fun p i o hi ho=>(hops p i o _ hi ho (List.getElem?_eq_getElem (show p<xs.length by have:=(List.getElem?_eq_some_iff.1 hi).1;omega))).1)
  generalize hxs:kh ord xs l.toArray.size=xb at hlen' htext
  have main : ∀ (fuel : Nat) (listed : Array Bool) (c : Nat) (Γ' : Env) (ρ' : Rz) (a' : Act) (w' : World), c <= (ord.filter W.contains).length -> (∀ (m w : Nat), (ord.filter W.contains)[m]? = some w -> (listed.getD w false = true ↔ m < c)) -> listed.size = l.length -> ((List.range l.length).filter (fun i => !listed.getD i true)).length = fuel ->
      (∀i o,listed.getD i false=true->l.toArray[i]?=some o->∀e∈o.after,Region.binds .any e=true->listed.getD e.on false=true) ->
      Agr l.toArray xb Γ (fun j=>listed.getD j false=true) Γ'->FR N Γ' (T c) ρ' w' a'->Rel (T c) ρ' w'->Step n σ ρ w (T c) ρ' w'->wpAny P .any l.toArray Q0 fuel listed a' w':=by
    intro fuel
    induction fuel with
    | zero=>
      intro listed c Γ' ρ' a' w' hc hcw hsz hcnt hcl hag hf' hr' st
      have hall:∀i,i<l.length->listed.getD i true=true:=by
        intro i hi
        have:(List.range l.length).filter (fun i=>!listed.getD i true)=[]:=List.eq_nil_of_length_eq_zero hcnt
        rw[List.filter_eq_nil_iff]at this
        simpa using this i (by simpa using hi)
      refine⟨?_,?_⟩
      · unfold Region.ready
        rw[List.filter_eq_nil_iff]
        intro i hi
        simp[hall i (by simpa using hi)]
      · rw[<-hQ]
        have hT:=htext ord.length (Nat.le_refl _)
        have hag':Agr l.toArray xb Γ (fun j=>j∈ord.take ord.length) Γ':=by
          intro t
          refine ⟨fun j o x hj => (hag t).1 j o x (by have hjl : j < l.length := by simpa using hsm j (by simpa using hj)
                                                      have:=hall j hjl;simpa[Array.getD,hsz,hjl]using this),fun hn=>(hag t).2 (fun j o hj ho=>hn j o (by have:=(Array.getElem?_eq_some_iff.1 ho).1;simpa using hall' j this) ho)⟩
        have hsame:=Agr.same hlen' hag' hT
        have hcT:c=(ord.filter W.contains).length:=by
          rcases Nat.lt_or_ge c (ord.filter W.contains).length with hlt|hge
          · obtain⟨w,hw⟩:=yv hlt
            have hwm:w∈ord:=(List.mem_filter.1 (List.mem_of_getElem? hw)).1
            have hwl:w<l.length:=by simpa using hsm w hwm
            have:=(hcw c w hw).1 (by have:=hall w hwl;simpa[Array.getD,hsz,hwl]using this)
            omega
          · omega
        refine⟨textEnv Γ os xs ord.length,T c,ρ',by rw[hcT];exact hK,⟨hf'.1,hf'.2.1,fun i=>?_⟩,hr',st⟩
        have:=hsame i
        rw[<-this];exact hf'.2.2 i
    | succ fuel ih=>
      intro listed c Γ' ρ' a' w' hc hcw hsz hcnt hcl hag hf' hr' st
      refine⟨fun hnil=>?_,fun i hi=>?_⟩
      · exfalso
        -- the least that is not listed is ready
        have hex:∃i,i<l.length/\listed.getD i true=false:=by
          have hne:(List.range l.length).filter (fun i=>!listed.getD i true)≠[]:=by intro e;rw[e]at hcnt;simp at hcnt
          obtain⟨i,hi⟩:=List.exists_mem_of_ne_nil _ hne
          rw[List.mem_filter]at hi
          exact⟨i,by simpa using hi.1,by simpa using hi.2⟩
        obtain⟨i,⟨hi1,hi2⟩,hmin⟩:=exists_least hex
        obtain⟨o,ho⟩:∃o,l.toArray[i]?=some o:=⟨l[i],by simp[hi1]⟩
        have hmem:i∈Region.ready .any l.toArray listed:=by
          unfold Region.ready
          rw[List.mem_filter]
          refine⟨by simpa using hi1,?_⟩
          rw[ho]
          simp only[Option.map_some,Option.getD_some,Bool.and_eq_true,Bool.not_eq_true',hi2,true_and]
          rw[Array.all_eq_true']
          intro e he
          cases hb:Region.binds .any e with
          | false=>rfl
          | true=>
            have hlt:=zam hok ho e he hb
            have:listed.getD e.on false=true:=by
              cases hge:listed.getD e.on true with
              | true => have hlt' : e.on < listed.size := by omega
                        simpa[Array.getD,hlt']using hge
              | false=>have:=hmin e.on ⟨by omega,hge⟩;omega
            simpa using this
        rw[hnil]at hmem
        simp at hmem
      · unfold Region.ready at hi
        rw[List.mem_filter]at hi
        obtain⟨hi1,hi2⟩:=hi
        have hil:i<l.length:=by simpa using hi1
        obtain⟨o,ho⟩:∃o,l.toArray[i]?=some o:=⟨l[i],by simp[hil]⟩
        obtain⟨p,hp⟩:=List.getElem?_of_mem (hall' i (by simpa using hil))
        have hpl:=(List.getElem?_eq_some_iff.1 hp).1
        obtain⟨o2,ho2⟩:=yv (l:=os) (i:=p) (by omega)
        obtain⟨x,hxp⟩:=yv (l:=xs) (i:=p) (by omega)
        obtain⟨ho3,hwri,hpur⟩:=hops p i o2 x hp ho2 hxp
        obtain rfl:o=o2:=by rw[ho]at ho3;simpa using ho3
        have hx:xb[i]?=some x:=by rw[<-hxs];exact jF hnd (by simpa using hil) hp hxp
        obtain⟨hpe,hpr⟩:=hedge p i o hp ho
        rw[ho]at hi2
        simp only[Option.map_some,Option.getD_some,Bool.and_eq_true,Bool.not_eq_true']at hi2
        obtain⟨hi2,hi3⟩:=hi2
        rw[Array.all_eq_true']at hi3
        have hpre:∀e∈o.after,Region.binds .any e=true->listed.getD e.on false=true:=by
          intro e he hb
          have:=hi3 e he
          simpa[hb]using this
        have hli:listed.getD i false=false:=by
          have hlt':i<listed.size:=by omega
          simpa[Array.getD,hlt']using hi2
        -- what the operation sees is what it sees in the text's order
        have hsee:∀t∈o.looksAt l.toArray,get Γ' t=get (textEnv Γ os xs p) t:=by
          intro t ht
          have hT:=htext p (by omega)
          by_cases hex:∃j q,j≠i/\l.toArray[j]?=some q/\q.dst=some t
          · obtain⟨j,q,hji,hq,hqd⟩:=hex
            obtain⟨_,hpair⟩:=va hok ho hq hji hqd
            obtain⟨hlt,hge⟩:=hpair ht
            have hj:=(Array.getElem?_eq_some_iff.1 hq).1
            have hxj:xb[j]?=some xb[j]:=List.getElem?_eq_getElem (by omega)
            by_cases hji':j<i
            · obtain⟨e,he,hb,heon⟩:=hlt hji'
              have hlj:=hpre e he hb
              have hjt:=hpe e he hb
              rw[heon]at hlj hjt
              rw[(hag t).1 j q _ hlj hq hqd hxj,(hT t).1 j q _ hjt hq hqd hxj]
            · obtain⟨e,he,hb,heon⟩:=hge hji'
              have huniq:∀k r,l.toArray[k]?=some r->r.dst=some t->k=j:=by
                intro k r hr hrd
                by_cases hkj:k=j
                · exact hkj
                · exact absurd hrd (hdist k j r q t hkj hr hq hqd)
              have hnj:¬listed.getD j false=true:=by
                intro hlj
                have:=hcl j q hlj hq e he hb
                rw[heon,hli]at this
                cases this
              have hnt:¬j∈ord.take p:=by
                intro hjt
                obtain⟨p',hp',hjp⟩:=kY hjt
                have hit:=(hedge p' j q hjp hq).1 e he hb
                rw[heon]at hit
                obtain⟨p2,hp2,hip⟩:=kY hit
                have e1:=vf hnd hip
                have e2:=vf hnd hp
                omega
              rw[(hag t).2 (fun k r hL hr hrd=>hnj (by rw[<-huniq k r hr hrd];exact hL)),(hT t).2 (fun k r hk hr hrd=>hnt (by rw[<-huniq k r hr hrd];exact hk))]
          · have hn : ∀ k r, k ≠ i -> l.toArray[k]? = some r -> r.dst ≠ some t := fun k r hk hr hrd => hex ⟨k, r, hk, hr, hrd⟩
            have hit:¬i∈ord.take p:=by
              intro h
              obtain⟨p2,hp2,hip⟩:=kY h
              have e1:=vf hnd hip
              have e2:=vf hnd hp
              omega
            rw[(hag t).2 (fun k r hL hr hrd=>hn k r (by intro e;have hL':listed.getD k false=true:=hL;rw[e,hli]at hL';cases hL') hr hrd),(hT t).2 (fun k r hk hr hrd=>hn k r (by intro e;rw[e]at hk;exact hit hk) hr hrd)]
        -- the writers that have run
        have hreach:∀j∈reachB l.toArray 8 i,listed.getD j false=true:=yp hcl 8 i (fun o' ho'=>by rw[ho]at ho';simp at ho';subst ho';exact hpre)
        have hsplit:ord=ord.take p++i::ord.drop (p+1):=by
          obtain⟨hl2,rfl⟩:=List.getElem?_eq_some_iff.1 hp
          simp
        have hckk:c<=((ord.take p).filter W.contains).length:=by
          rcases Nat.lt_or_ge ((ord.take p).filter W.contains).length c with hlt|hge
          · exfalso
            obtain⟨w,hw⟩:=yv (l:=ord.filter W.contains) (i:=((ord.take p).filter W.contains).length) (by omega)
            have hwl:=(hcw _ w hw).2 hlt
            have hws:w∈(i::ord.drop (p+1)).filter W.contains:=by
              rw[hsplit,List.filter_append,List.getElem?_append_right (by simp[<-hsplit])]at hw
              exact List.mem_of_getElem? hw
            obtain⟨hwm,hwW⟩:=List.mem_filter.1 hws
            rw[List.mem_cons]at hwm
            rcases hwm with rfl|hwm
            · rw[hli]at hwl;cases hwl
            · obtain⟨s,hs⟩:=List.getElem?_of_mem hwm
              rw[List.getElem?_drop]at hs
              obtain⟨ow,how⟩:∃ow,l.toArray[w]?=some ow:=⟨l.toArray[w]'(hsm w (List.mem_of_getElem? hs)),Array.getElem?_eq_getElem _⟩
              have:=(hedge _ w ow hs how).2 hwW i (zf9 (by omega) hp)
              have h2:=yp hcl 8 w (fun o' ho'=>fun e he hb=>hcl w o' hwl ho' e he hb) i this
              rw[hli]at h2;cases h2
          · exact hge
        have hpref:∀(m w:Nat),((ord.take p).filter W.contains)[m]?=some w->(ord.filter W.contains)[m]?=some w:=by
          intro m w hmw
          rw[hsplit,List.filter_append,List.getElem?_append_left (by have:=(List.getElem?_eq_some_iff.1 hmw).1;simpa[<-hsplit]using this)]
          rw[hsplit]at hmw
          simpa[<-hsplit]using hmw
        have hop:∃c2,c2<=(ord.filter W.contains).length/\(∀(m w:Nat),(ord.filter W.contains)[m]?=some w->((listed.setIfInBounds i true).getD w false=true↔m<c2)) /\
            ro P N l.toArray [o] (rst l.toArray o (textEnv Γ os xs p)) (T c) (fun Γ1 τ=>Γ1=put (rst l.toArray o (textEnv Γ os xs p)) o.dst x/\τ=T c2):=by
          have hi0:i<listed.size:=by omega
          cases hWi:W.contains i with
          | true=>
            have hge:((ord.take p).filter W.contains).length<=c:=by
              rcases Nat.lt_or_ge c ((ord.take p).filter W.contains).length with hlt|hge
              · exfalso
                obtain⟨w,hw⟩:=yv hlt
                have hwm:=(List.mem_filter.1 (List.mem_of_getElem? hw)).1
                have:=(hcw c w (hpref c w hw)).1 (hreach w (hpr hWi w hwm))
                omega
              · exact hge
            have hce:c=((ord.take p).filter W.contains).length:=by omega
            have hci:(ord.filter W.contains)[c]?=some i:=by
              rw[hsplit,List.filter_append,List.filter_cons,if_pos hWi,List.getElem?_append_right (by simp[<-hsplit,hce])]
              simp[<-hsplit,hce]
            have hcl2:=(List.getElem?_eq_some_iff.1 hci).1
            refine⟨c+1,hcl2,fun m w hmw=>?_,by rw[hce];exact hwri hWi⟩
            by_cases hmc:m=c
            · subst hmc
              rw[hci]at hmw
              simp at hmw
              subst hmw
              simp[Array.getD_eq_getD_getElem?,hi0]
            · have hwi:w≠i:=by
                intro e
                subst e
                have hnf:(ord.filter W.contains).Nodup:=List.Pairwise.filter _ hnd
                exact hmc (by rw[<-vf hnf hmw,<-vf hnf hci])
              have:=hcw m w hmw
              simp only[Array.getD_eq_getD_getElem?,Array.getElem?_setIfInBounds_ne (Ne.symm hwi)]at this ⊢
              rw[this];omega
          | false=>
            refine⟨c,hc,fun m w hmw=>?_,hpur hWi c hckk ?_⟩
            · have hwi:w≠i:=by
                intro e
                subst e
                have:=(List.mem_filter.1 (List.mem_of_getElem? hmw)).2
                rw[hWi]at this;cases this
              have:=hcw m w hmw
              simpa only[Array.getD_eq_getD_getElem?,Array.getElem?_setIfInBounds_ne (Ne.symm hwi)]using this
            · rcases Nat.lt_or_ge (c+ze8 l.toArray W (ord.take p) i) ((ord.take p).filter W.contains).length with hlt | hge
              · exfalso
                unfold ze8 at hlt
                generalize hws:(ord.take p).filter W.contains=ws at hlt hpref
                have htw:=List.takeWhile_append_dropWhile (p:=fun w=>!(reachB l.toArray 8 i).contains w) (l:=ws.reverse)
                have hlen2:=congrArg List.length htw
                rw[List.length_append,List.length_reverse]at hlen2
                generalize hb:(ws.reverse.takeWhile fun w=>!(reachB l.toArray 8 i).contains w).length=b at *
                have hdw:(ws.reverse.dropWhile fun w=>!(reachB l.toArray 8 i).contains w)≠[]:=by
                  intro e
                  rw[e]at hlen2
                  simp at hlen2
                  omega
                obtain⟨w,r,hwr⟩:=List.exists_cons_of_ne_nil hdw
                have hwc:(reachB l.toArray 8 i).contains w=true:=by
                  have h5:=List.head_dropWhile_not (fun w=>!(reachB l.toArray 8 i).contains w) hdw
                  simp only[hwr,List.head_cons]at h5
                  simpa using h5
                have hwget:ws.reverse[b]?=some w:=by
                  rw[<-htw,hwr,List.getElem?_append_right (by omega),hb,Nat.sub_self];rfl
                rw[List.getElem?_reverse (by omega)]at hwget
                have h6:=(hcw _ w (hpref _ w hwget)).1 (hreach w (by simpa using hwc))
                omega
              · exact hge
        obtain⟨c2,hc2,hcw2,hop⟩:=hop
        have hcnt':((List.range l.length).filter (fun k=>!(listed.setIfInBounds i true).getD k true)).length=fuel:=by
          clear hsplit hpref hop hcw2
          have hperm:((List.range l.length).filter (fun k=>!listed.getD k true)).length=((List.range l.length).filter (fun k=>!(listed.setIfInBounds i true).getD k true)).length+1:=by
            have hsplit:∀(r:List Nat),r.Nodup->i∈r->(r.filter (fun k=>!listed.getD k true)).length=(r.filter (fun k=>!(listed.setIfInBounds i true).getD k true)).length+1:=by
              intro r
              induction r with
              | nil=>intro _ h;simp at h
              | cons k r ihr=>
                intro hnd hmem
                rw[List.nodup_cons]at hnd
                by_cases hki:k=i
                · subst hki
                  have hsame:r.filter (fun q=>!(listed.setIfInBounds k true).getD q true)=r.filter (fun q=>!listed.getD q true):=by
                    apply List.filter_congr
                    intro q hq
                    have hqk:q≠k:=fun e=>hnd.1 (e ▸ hq)
                    simp only[Array.getD_eq_getD_getElem?,Array.getElem?_setIfInBounds_ne (Ne.symm hqk)]
                  have h1:(listed.setIfInBounds k true).getD k true=true:=by simp[Array.getD_eq_getD_getElem?,Array.getElem?_setIfInBounds];split<;>simp_all
                  simp only[List.filter_cons,hi2,h1,Bool.not_false,if_true,Bool.not_true,List.length_cons,hsame]
                  simp
                · have hmem' : i ∈ r := by simpa [Ne.symm hki] using hmem
                  have hk:(listed.setIfInBounds i true).getD k true=listed.getD k true:=by
                    simp only[Array.getD_eq_getD_getElem?,Array.getElem?_setIfInBounds_ne (Ne.symm hki)]
                  have:=ihr hnd.2 hmem'
                  simp only[List.filter_cons,hk]
                  split<;>simp_all
            exact hsplit _ List.nodup_range (by simpa using hil)
          omega
        have key:∀(ρ2:Rz) (w2:World) (v:Value),FR N (put Γ' o.dst x) (T c2) ρ2 w2 (a'.put o.dst v)->Rel (T c2) ρ2 w2->Step n σ ρ w (T c2) ρ2 w2->wpAny P .any l.toArray Q0 fuel (listed.setIfInBounds i true) (a'.put o.dst v) w2:=by
          intro ρ2 w2 v hf2 hr2 st2
          refine ih _ c2 (put Γ' o.dst x) ρ2 _ w2 hc2 hcw2 (by simpa using hsz) hcnt' ?_ ?_ hf2 hr2 st2
          · intro k q hk hq e he hb
            have hmono:∀m,listed.getD m false=true->(listed.setIfInBounds i true).getD m false=true:=by
              intro m hm
              by_cases hmi:m=i
              · have hi0 : i < listed.size := by omega
                simp[hmi,Array.getD_eq_getD_getElem?,hi0]
              · simpa[Array.getD_eq_getD_getElem?,Array.getElem?_setIfInBounds_ne (Ne.symm hmi)]using hm
            by_cases hki:k=i
            · subst hki
              rw[ho]at hq
              simp at hq
              subst hq
              exact hmono _ (hpre e he hb)
            · refine hmono _ (hcl k q ?_ hq e he hb)
              simpa[Array.getD_eq_getD_getElem?,Array.getElem?_setIfInBounds_ne (Ne.symm hki)]using hk
          · have := hag.put ho hx (fun j p d hji hp hpd => hdist i j o p d (Ne.symm hji) ho hp hpd)
            intro t
            have hL:∀j,(listed.setIfInBounds i true).getD j false=true↔(j=i\/listed.getD j false=true):=by
              intro j
              by_cases hji:j=i
              · have hi0 : i < listed.size := by omega
                simp[hji,Array.getD_eq_getD_getElem?,hi0]
              · simp[Array.getD_eq_getD_getElem?,Array.getElem?_setIfInBounds_ne (Ne.symm hji),hji]
            exact⟨fun j p y hj=>(this t).1 j p y ((hL j).1 hj),fun hn=>(this t).2 (fun j p hj=>hn j p ((hL j).2 hj))⟩
        have key2:T c=T c2->∀(ρ2:Rz) (w2:World) (v:Value),FR N (put Γ' o.dst x) (T c) ρ2 w2 (a'.put o.dst v)->Rel (T c) ρ2 w2->Step n σ ρ w (T c) ρ2 w2->wpAny P .any l.toArray Q0 fuel (listed.setIfInBounds i true) (a'.put o.dst v) w2:=by
          intro e;rw[e];exact key
        have hfr:=hf'.rst (ops:=l.toArray) (o:=o) hsee
        unfold wpOp
        rw[ho]
        simp only
        generalize hR:rst l.toArray o (textEnv Γ os xs p)=R at hop hfr
        have run:Oper.dstOk N o=true->SOp P N o R (T c) (fun x' σ'=>put R o.dst x'=put R o.dst x/\σ'=T c2)->o.wp P a' w' (wpAny P .any l.toArray Q0 fuel (listed.setIfInBounds i true)) Q0:=by
          intro hd hop
          refine hop ρ' w' a' _ Q0 hfr hr' ?_
          intro x' σ' ρ2 w2 v hK hr2 hv st2
          obtain⟨he,hs⟩:=hK
          subst hs
          exact key ρ2 w2 v (zY (hf'.carry st2) hd he hv) hr2 (st.trans (st2.mono st.len'))
        unfold ro rgn at hop
        cases hg:o.guard with
        | none=>
          rw[hg]at hop
          simp only[rgn]at hop
          rw[if_pos (by simp[Region.wanted,hg])]
          exact .inl (run hop.1 hop.2)
        | some jw=>
          obtain⟨j,want⟩:=jw
          rw[hg]at hop
          simp only[rgn]at hop
          cases hgd:gdv l.toArray R j with
          | none=>
            rw[hgd]at hop
            obtain⟨h1,hdo,h⟩:=hop
            have hy:=vI h1 hfr
            rw[if_neg (by simp[Region.wanted,hg,hy])]
            exact key2 h.2 _ _ _ (zY hf' hdo h.1 (by simp[VR])) hr' st
          | some t=>
            rw[hgd]at hop
            simp only at hop
            obtain⟨hdo,h⟩:=hop
            have hy:=kf hgd hfr
            rcases h with⟨x',hx',h⟩|h
            · obtain⟨hsc,hgv⟩:=kB P N _ _ _ _ _ hx' ρ' w' a' hfr hr'
              by_cases htw:t=want
              · rw [if_pos (by simp [Region.wanted, hg, hy, htw])]
                refine .inl ?_
                obtain⟨v,h1,h2⟩:=hgv (by simp[htw])
                unfold Oper.wp
                rw[h1,Oper.upon_value]
                exact key2 h.2 _ _ _ (zY hf' hdo h.1 (by simp only[VR];exact⟨hsc,fun _=>h2,fun e=>by simp[htw]at e⟩)) hr' st
              · rw [if_neg (by simp [Region.wanted, hg, hy, htw])]
                exact key2 h.2 _ _ _ (zY hf' hdo h.1 (by simp only[VR];exact⟨hsc,fun e=>absurd e (by simp[htw]),fun _=>trivial⟩)) hr' st
            · by_cases htw:t=want
              · rw [if_pos (by simp [Region.wanted, hg, hy, htw])]
                exact .inl (run hdo (h.1 htw))
              · rw [if_neg (by simp [Region.wanted, hg, hy, htw])]
                exact key2 (h.2 htw).2 _ _ _ (zY hf' hdo (h.2 htw).1 (by simp[VR])) hr' st
  refine main l.length (Array.replicate l.length false) 0 Γ ρ a _ (Nat.zero_le _) (fun m w _=>by simp[Array.getD]) (by simp) ?_ ?_ ?_ ?_ (by rw[hT0'];exact za2 hr) (by rw[hT0'];exact yR hn)
  · have:(List.range l.length).filter (fun i=>!(Array.replicate l.length false).getD i true)=List.range l.length:=by
      rw[List.filter_eq_self]
      intro i hi
      have:i<l.length:=by simpa using hi
      simp[Array.getD,this]
    rw[this];simp
  · intro i o hi;simp[Array.getD]at hi
  · intro t;exact⟨fun j o x hj=>by simp[Array.getD]at hj,fun _=>rfl⟩
  · rw[hT0'];exact hf.carry (yR (Nat.le_refl _))
theorem zV{n id:Nat}{l:List Oper}{Γ:Env}{σ:Sto}{Q:Exit->Env->Sto->Prop}(ord W:List Nat)(hm:P.follows .mixedOrders=true)(hok:jm l.toArray=true)(hor:zl5 l.toArray ord W=true)(h:dw P N l.toArray W [] ord Γ σ [] (Q .normal)):
    PWp P N n (.region id l.toArray true) Γ σ Q:=
  (zv (Q:=Q) ord W hm hok hor h).mono fun e Γ σ q=>by cases e<;>exact q
section rules
variable {K : Env -> Sto -> Prop} {pre is : List Nat} {i d : Nat} {op : Op} {ty : TypeId} {pos : String} {af : Array Edge} {g : Option (Nat × Bool)} {Γ R : Env} {σ σ2 : Sto} {H : List Sto} {x : AV}
theorem zei{p:Sto->Prop}: ∀{l:List Sto} (n:Nat),zlo p l->zlo p (l.take n)
 | [],n,h=>by simp[zlo]
 | _::_,0,h=>by simp[zlo]
 | _::l,n+1,h=>⟨h.1,zei n h.2⟩
theorem znW(h:K Γ σ): dw P N ops W pre [] Γ σ H K:=h
theorem vp (ho : ops[i]? = some ⟨some d, op, ty, pos, af, g⟩) (hW : W.contains i = false) (hR : rst ops ⟨some d, op, ty, pos, af, g⟩ Γ = R := by exact kE (by simp only [go_sem]; rfl) (by simp only [go_sem, seval, ↓reduceIte, hU]; rfl))
    (h:∀τ,ro P N ops [⟨some d,op,ty,pos,af,g⟩] R τ (fun Γ1 τ'=>Γ1=(d,x)::R/\τ'=τ)) (hk:dw P N ops W (pre++[i]) is ((d,x)::Γ) σ H K):dw P N ops W pre (i::is) Γ σ H K:=by
  subst hR
  exact⟨_,ho,.inr ⟨hW,x,⟨h σ,zf8 h _⟩,hk⟩⟩
theorem kZ (ho : ops[i]? = some ⟨some d, op, ty, pos, af, g⟩) (hW : W.contains i = false) (hb : ze8 ops W pre i = 0 := by rfl) (hR : rst ops ⟨some d, op, ty, pos, af, g⟩ Γ = R := by exact kE (by simp only [go_sem]; rfl) (by simp only [go_sem, seval, ↓reduceIte, hU]; rfl))
    (h:ro P N ops [⟨some d,op,ty,pos,af,g⟩] R σ (fun Γ1 τ'=>Γ1=(d,x)::R/\τ'=σ)) (hk:dw P N ops W (pre++[i]) is ((d,x)::Γ) σ H K):dw P N ops W pre (i::is) Γ σ H K:=by
  subst hR
  exact⟨_,ho,.inr ⟨hW,x,⟨h,by rw[hb,List.take_zero];trivial⟩,hk⟩⟩
theorem zzi (ho : ops[i]? = some ⟨some d, op, ty, pos, af, g⟩) (hW : W.contains i = false) (hR : rst ops ⟨some d, op, ty, pos, af, g⟩ Γ = R := by exact kE (by simp only [go_sem]; rfl) (by simp only [go_sem, seval, ↓reduceIte, hU]; rfl))
    (h:ro P N ops [⟨some d,op,ty,pos,af,g⟩] R σ (fun Γ1 τ'=>Γ1=(d,x)::R/\τ'=σ)) (h2:zlo (fun τ=>ro P N ops [⟨some d,op,ty,pos,af,g⟩] R τ (fun Γ1 τ'=>Γ1=(d,x)::R/\τ'=τ)) H)
    (hk:dw P N ops W (pre++[i]) is ((d,x)::Γ) σ H K):dw P N ops W pre (i::is) Γ σ H K:=by
  subst hR
  exact⟨_,ho,.inr ⟨hW,x,⟨h,zei _ h2⟩,hk⟩⟩
theorem yn (ho : ops[i]? = some ⟨some d, op, ty, pos, af, g⟩) (hW : W.contains i = true) (hR : rst ops ⟨some d, op, ty, pos, af, g⟩ Γ = R := by exact kE (by simp only [go_sem]; rfl) (by simp only [go_sem, seval, ↓reduceIte, hU]; rfl))
    (h:ro P N ops [⟨some d,op,ty,pos,af,g⟩] R σ (fun Γ1 τ'=>Γ1=(d,x)::R/\τ'=σ2)) (hk:dw P N ops W (pre++[i]) is ((d,x)::Γ) σ2 (σ::H) K):dw P N ops W pre (i::is) Γ σ H K:=by
  subst hR
  exact⟨_,ho,.inl ⟨hW,x,σ2,h,hk⟩⟩
theorem vg (ho : ops[i]? = some ⟨none, op, ty, pos, af, g⟩) (hW : W.contains i = true) (hR : rst ops ⟨none, op, ty, pos, af, g⟩ Γ = R := by exact kE (by simp only [go_sem]; rfl) (by simp only [go_sem, seval, ↓reduceIte, hU]; rfl))
    (h:ro P N ops [⟨none,op,ty,pos,af,g⟩] R σ (fun Γ1 τ'=>Γ1=R/\τ'=σ2)) (hk:dw P N ops W (pre++[i]) is Γ σ2 (σ::H) K):dw P N ops W pre (i::is) Γ σ H K:=by
  subst hR
  exact⟨_,ho,.inl ⟨hW,.junk,σ2,h,hk⟩⟩
end rules
end draww
theorem zaQ{P:Program}{N:Nat}{o:Oper}{Γ:Env}{σ:Sto}{K:AV->Sto->Prop}{t e sz bt n:Nat}{z:Value}{parts:Array (Nat×Operand)}(ho:o.op=.buildSlice t n parts)(ht:P.underlying t=some (.slice e))(he:EO P e sz bt z)
    (hn0:0<n) (h1:z.cells.toList.all (fun v=>v.oneCell')=true) (hn:n*sz<=16777216) {out:List AV} (hf:ke (fun i=>some (i*sz,sz)) (List.replicate n (z.cells.toList.map alit)).flatten (parts.toList.map fun p=>(p.1,ev Γ p.2))=some out)
    (hk:parts.toList.all (fun p=>(acells (ev Γ p.2)).all (okc σ))=true) (hK:K (.row σ.length 0) (σ++[.row 0 e sz (cutE sz n out)])):SOp P N o Γ σ K:=by
  intro ρ w a next Q hF hr hn'
  obtain⟨i,hi,hz,hi1,hi2⟩:=he.parts
  have hzs:=he.2.1
  have hpos:=he.2.2
  have hforall:∀l:List (Nat×Operand),l.all (fun p=>(acells (ev Γ p.2)).all (okc σ))=true->PVp σ ρ w (l.map fun p=>(p.1,ev Γ p.2)) (l.map fun p=>(p.1,a.eval p.2)):=by
    intro l
    induction l with
    | nil=>intro _;simp[PVp]
    | cons p l ih=>intro h;simp only[List.all_cons,Bool.and_eq_true]at h;simp only[List.map_cons,PVp];exact⟨⟨trivial,hF.ev p.2,h.1⟩,ih h.2⟩
  have hmade:(madeCells z.cells (n*sz)).toList=(List.replicate n z.cells.toList).flatten:=by rw[<-hzs];exact vk _ (by omega) n
  obtain⟨us,k1,k2,k3⟩:=za0 hr _ _ _ (madeCells z.cells (n*sz)) out hf (by rw[hmade];exact zbq _ _) (by
    intro v hv
    rw[hmade]at hv
    simp only[List.mem_flatten,List.mem_replicate]at hv
    obtain⟨q,⟨_,rfl⟩,hv⟩:=hv
    exact(List.all_eq_true.1 h1) v hv) (hforall _ hk)
  have hfl:∀(l:List (Nat×AV)) (cs out:List AV) (pl:Nat->Option (Nat×Nat)),ke pl cs l=some out->out.length=cs.length:=by
    intro l
    induction l with
    | nil=>intro cs out pl h;simp[ke]at h;rw[h]
    | cons p l ih=>
      intro cs out pl h
      simp only[ke]at h
      split at h
      · split at h
        · rename_i hc
          rw[ih _ _ _ h]
          simp[putCells];omega
        · cases h
      · cases h
  have hol:out.length=n*sz:=by
    rw[hfl _ _ _ _ hf]
    have:=vo z.cells.toList n
    have hzl:z.cells.toList.length=sz:=by simpa using hzs
    simp only[List.length_flatten,List.map_replicate,List.length_map,List.sum_replicate_nat,hzl]
  have hpl:(parts.map fun p=>(p.1,a.eval p.2)).toList=parts.toList.map fun p=>(p.1,a.eval p.2):=by simp
  have hrun:(execOp a.eval o).run P w=.ok (.value (.slice (some ⟨w.heap.size,0,none⟩) n n)) (w.alloc (.cells us e)):=by
    have hS:=zE ht w
    have hse:(sizeOf e).run P w=.ok sz w:=by simp[sizeOf,typeInfo,hi,hi1]
    have hno:¬(n*sz>16777216):=by omega
    simp only[execOp,ho,Instr.buildSlice,Sem.run_bind,zn ht,Result.andThen_ok,hse]
    rw[show(2:Nat) ^ 24=16777216 from rfl,if_neg hno]
    by_cases hz0:n*sz=0
    · rw[if_pos hz0]
      have e1:Array.map (fun x=>(#[]:Array Value)[x % (#[]:Array Value).size]!) (Array.range (n*sz))=madeCells z.cells (n*sz):=by simp[madeCells,hz0]
      simp only[Sem.run_bind,Sem.run_pure,Result.andThen_ok,e1,hpl,k1]
      simp[newRow]
    · rw[if_neg hz0]
      have e0:(zeroValue e).run P w=.ok z w:=by simp[zeroValue,typeInfo,hi,hz]
      have e1:Array.map (fun x=>z.cells[x % z.cells.size]!) (Array.range (n*sz))=madeCells z.cells (n*sz):=rfl
      simp only[Sem.run_bind,Sem.run_pure,Result.andThen_ok,e0,e1,hpl,k1]
      simp[newRow]
  have hkk:∀b,b<w.heap.size->(w.alloc (.cells us e)).heap[b]?=w.heap[b]?:=fun b hb=>heap_alloc_old w _ b hb
  have hnn:n<=n*sz:=Nat.le_mul_of_pos_right _ hpos
  obtain ⟨ρ', q1, q2, q3⟩ := zeU (w := w) (w' := w.alloc (.cells us e)) (e := e) (sz := sz) (xs := cutE sz n out) (vs := us.toList) (sp := []) (b := w.heap.size) (cap := n) hr rfl rfl rfl (by simp) hkk (Nat.le_refl _)
    (by rw[List.append_nil,Array.toArray_toList];exact heap_alloc_new w _) (zbs sz n out hol) hpos (by rw[kV];exact Nat.le_refl _) ⟨hn0,by simp only[maxLen];omega⟩
    (by rw[List.append_nil,<-z1 _ _ k2];exact hol) k3 (by rw[zbr sz n out hol];exact k2)
  rw[kV]at q2
  unfold Oper.wp
  rw[hrun,Oper.upon_value]
  exact hn' _ _ _ _ _ hK q1 q2 q3
theorem zc8{P:Program}{N:Nat}{o:Oper}{Γ:Env}{σ σ2:Sto}{K:AV->Sto->Prop}{t e sz bt n L:Nat}{z:Value}{parts:Array (Nat×Operand)}{ps:List (Nat×AV)}{zs out:List AV}{xs:List (List AV)}(ho:o.op=.buildSlice t n parts)(ht:P.underlying t=some (.slice e))(he:EO P e sz bt z)
    (hn0:0<n) (h1:z.cells.toList.all (fun v=>v.oneCell')=true) (hn:n*sz<=16777216) (hz:(List.replicate n (z.cells.toList.map alit)).flatten=zs) (hps:parts.toList.map (fun p=>(p.1,ev Γ p.2))=ps) (hf:ke (fun i=>some (i*sz,sz)) zs ps=some out)
    (hk:ps.all (fun p=>(acells p.2).all (okc σ))=true) (hc:cutE sz n out=xs) (hL:σ.length=L) (hσ:σ++[.row 0 e sz xs]=σ2) (hK:K (.row L 0) σ2):SOp P N o Γ σ K:=by
  subst hz;subst hps;subst hc;subst hL;subst hσ
  exact zaQ ho ht he hn0 h1 hn hf (by simpa[List.all_map]using hk) hK
theorem zN{P:Program}{N n:Nat}{S:Type}{c:Code}{Γ:Env}{σ:Sto}{Q:Exit->Env->Sto->Prop}(mods:List Nat)(E:S->Env)(T:S->Sto)(R:S->Prop)(μ:S->Nat)(s0:S)(hR:R s0)(h0:LeE (E s0) Γ)(hT:σ=T s0)
    (round:∀s,R s->PWp P N n c (E s++(yN mods++Γ)) (T s) (yk (fun Γ' σ'=>∃s' κ,R s'/\μ s'<μ s/\okg n κ=true/\LeE (E s') (Γ'.map fun p=>(p.1,fz κ σ' p.2))/\zpj mods (Γ'.map fun p=>(p.1,fz κ σ' p.2)) Γ/\gcS κ σ'=T s') Q)):PWp P N n (.loop c) Γ σ Q:=by
  refine zal (fun s=>E s++(yN mods++Γ)) T R μ s0 hR (by rw[<-hT];exact zao h0 za5) (fun s hs=>?_)
  refine(round s hs).mono ?_
  intro e Γ' σ' q
  cases e with
  | normal=>
    obtain⟨s',κ,h1,h2,hn,h3,h4,h5⟩:=q
    refine⟨s',h1,h2,?_⟩
    have w1:=zim (N:=N) (Γ:=Γ') (σ:=σ') κ hn
    rw[h5]at w1
    exact w1.trans (zao h3 h4)
  | exit id=>exact q
  | goto l=>exact q
  | ret=>exact q
  | panic ch=>exact q
  | outgrown=>exact q
end Go.Lf
namespace Go.Lf
theorem zu{x y:AV}(h:Ale1 x y:=by first|exact yo (by with_reducible rfl)|exact za1|exact zbt (fun _=>rfl)|exact zbt (by simp)|exact zlU|exact yo rfl): Ale1 x y:=h
theorem cdT{p:Prop}(h:False:=by first|omega|exact absurd hcd (by assumption)|exact absurd (by assumption) hcd): p:=h.elim
theorem sT{α:Type _}{a b:α}(h:a=b:=by(try simp(disch:=omega)only[go_sem,seval,↓reduceIte,hU])<;>rfl): a=b:=h
theorem agT{σ:Sto}{x y:List AV}(h:Argl [] [] σ x y:=by first|((repeat'(first|exact trivial|(first|exact zi|exact zq id id|exact vb|exact zq (by simp) id|exact zq (by simp) (fun _=>rfl)|exact z0 (by rfl) (by rfl) (fun _=>rfl)|exact yu (by rfl) (by rfl) (fun _=>rfl)|exact zD (by rfl) (by rfl)|exact yr|exact zcy (by rfl) (by rfl) (fun _=>rfl))|refine⟨?_,?_⟩));done)|fail): Argl [] [] σ x y:=h
theorem aoT{p:Prop}(h:p:=by first|assumption|omega): p:=h
end Go.Lf
