/- The layer Lf: abstract values,stores and frames over the kit's weakest preconditions;generic in the program. -/
import Derived.Test.YtdalcgfnlbofdaaGreatDoorLf
import GoSem.ClaimChange
import Derived.DataReads
set_option linter.unusedVariables false
set_option linter.unusedSimpArgs false
namespace Go.Lf
/-! what comes in,of any type without pointers: as abstract values -/
def zeg(P:Program): List Field->Nat->Nat->Bool
 | [],o,n=>o == n
 | f::fs,o,n=>(f.offset == o) && zeg P fs (o+P.cellsOf f.type) n
def okT(P:Program): Nat->TypeId->Bool
 | 0,_=>false
 | k + 1, t => match P.underlying t with
  | some .bool=>true
  | some (.int _)=>true
  | some .string=>true
  | some (.slice e)=>okT P k e && decide (0<P.cellsOf e)
  | some (.struct fs)=>zeg P fs.toList 0 (P.cellsOf t) && fs.toList.all (fun f=>okT P k f.type)
  | _=>false
def Sh(P:Program): Nat->TypeId->List AV->Prop
 | 0,_,_=>False
 | k + 1, t, xs => match P.underlying t with
  | some .bool=>∃b,xs=[.lit (.bool b)]
  | some (.int kd)=>∃n,(Lit.int kd n).wf=true/\xs=[.lit (.int kd n)]
  | some .string=>∃s:ByteArray,s.size<=maxLen/\xs=[.lit (.string s)]
  | some (.slice e)=>∃ys:List (List AV),ys.length<=maxLen/\(∀y∈ys,Sh P k e y)/\xs=[.sl false false ys]
  | some (.struct fs)=>xs.length=P.cellsOf t/\∀f∈fs.toList,Sh P k f.type ((xs.drop f.offset).take (P.cellsOf f.type))
  | _=>False
abbrev NoM: Nat->Prop:=fun _=>False
theorem zc5{α β:Type}{f:α->Option β}: ∀(l:List α) (r:List β),l.mapM f=some r->r.length=l.length/\∀(i:Nat) (a:α),l[i]?=some a->∃b,f a=some b
 | [],r,h=>by simp at h;subst h;simp
 | x::l,r,h=>by
  simp only[List.mapM_cons,Option.bind_eq_bind,Option.bind_eq_some_iff,Option.pure_def,Option.some.injEq]at h
  obtain⟨y,hy,ys,hys,rfl⟩:=h
  obtain⟨h1,h2⟩:=zc5 l ys hys
  refine⟨by simp[h1],fun i a hi=>?_⟩
  cases i with
  | zero=>simp at hi;subst hi;exact⟨y,hy⟩
  | succ i=>exact h2 i a (by simpa using hi)
theorem zc6{M:Nat->Prop}{w:World}: ∀(xs:List AV) (vs:List Value),PVl M w xs vs->xs.length=vs.length
 | [],[],_=>rfl
 | [],_::_,h=>by simp[PVl]at h
 | _::_,[],h=>by simp[PVl]at h
 | x::xs,v::vs,h=>by simp only[PVl]at h;simp[zc6 xs vs h.2]
theorem ziM{M:Nat->Prop}{w:World}: ∀(xs ys:List AV) (vs us:List Value),PVl M w xs vs->PVl M w ys us->PVl M w (xs++ys) (vs++us)
 | [],ys,[],us,_,h=>by simpa using h
 | [],_,_::_,_,h,_=>by simp[PVl]at h
 | _::_,_,[],_,h,_=>by simp[PVl]at h
 | x::xs,ys,v::vs,us,h,h'=>by simp only[PVl]at h;simp only[List.cons_append,PVl];exact⟨h.1,ziM xs ys vs us h.2 h'⟩
theorem asm{P:Program}{w:World}{k n:Nat}{cs:List Value}(hn:cs.length=n): ∀(fs:List Field) (o:Nat),zeg P fs o n=true->o<=n ->
    (∀f∈fs,∃x,PVl NoM w x ((cs.drop f.offset).take (P.cellsOf f.type))/\(∀v∈(cs.drop f.offset).take (P.cellsOf f.type),v.oneCell'=true)/\Sh P k f.type x) ->
    ∃X,PVl NoM w X (cs.drop o)/\(∀v∈cs.drop o,v.oneCell'=true)/\∀f∈fs,o<=f.offset/\Sh P k f.type ((X.drop (f.offset-o)).take (P.cellsOf f.type))
  | [],o,ht,ho,_=>by
    simp only[zeg,beq_iff_eq]at ht
    refine⟨[],?_,?_,by simp⟩
    · rw[List.drop_of_length_le (by omega)];simp[PVl]
    · rw[List.drop_of_length_le (by omega)];simp
  | f::fs,o,ht,ho,hf=>by
    simp only[zeg,Bool.and_eq_true,beq_iff_eq]at ht
    obtain⟨rfl,ht⟩:=ht
    have mono:∀(l:List Field) (a:Nat),zeg P l a n=true->a<=n:=by
      intro l
      induction l with
      | nil=>intro a h;simp only[zeg,beq_iff_eq]at h;omega
      | cons g l ih=>intro a h;simp only[zeg,Bool.and_eq_true,beq_iff_eq]at h;have:=ih _ h.2;omega
    have hle:=mono fs _ ht
    obtain⟨x,h1,h2,h3⟩:=hf f (by simp)
    obtain⟨X,k1,k2,k3⟩:=asm hn fs _ ht hle (fun g hg=>hf g (by simp[hg]))
    have hx:x.length=P.cellsOf f.type:=by
      have:=zc6 _ _ h1
      rw[this,List.length_take,List.length_drop];omega
    have hd:cs.drop f.offset=(cs.drop f.offset).take (P.cellsOf f.type)++cs.drop (f.offset+P.cellsOf f.type):=by
      rw[<-List.drop_drop];exact(List.take_append_drop _ _).symm
    refine⟨x++X,by rw[hd];exact ziM _ _ _ _ h1 k1,fun v hv=>?_,fun g hg=>?_⟩
    · rw[hd,List.mem_append]at hv
      exact hv.elim (h2 v) (k2 v)
    · simp only[List.mem_cons]at hg
      rcases hg with rfl|hg
      · refine⟨Nat.le_refl _,?_⟩
        rw[Nat.sub_self,List.drop_zero,List.take_append_of_le_length (by omega),List.take_of_length_le (by omega)]
        exact h3
      · obtain⟨m1,m2⟩:=k3 g hg
        refine⟨by omega,?_⟩
        rw[show g.offset-f.offset=x.length+(g.offset-(f.offset+P.cellsOf f.type))by omega,List.drop_append,List.drop_of_length_le (show x.length<=x.length+(g.offset-(f.offset+P.cellsOf f.type))by omega),List.nil_append,Nat.add_sub_cancel_left]
        exact m2
theorem ziN{w:World}{x:Addr}{v:Value}(h:w.cell? x=some v): ∃b o,x=⟨b,o,none⟩/\b<w.heap.size:=by
 obtain⟨b,o,sp⟩:=x
 simp only[World.cell?]at h
 split at h
 ·rename_i hb
  cases sp with
  | none=>exact⟨b,o,rfl,(Array.getElem?_eq_some_iff.1 hb).1⟩
  | some s=>simp at h
 ·cases h
theorem zwV{P:Program}{w:World}{k e:Nat}{b o sz:Nat}(R:List AV->Prop): ∀n:Nat,(∀i,i<n->∃x,PVs NoM w x b (o+i*sz)/\x.length=sz/\R x) ->
    ∃ys:List (List AV),ys.length=n/\(∀y∈ys,y.length=sz/\R y)/\PVss NoM w ys b o
  | 0,_=>⟨[],rfl,by simp,by simp[PVss]⟩
  | n+1,h=>by
    obtain⟨ys,h1,h2,h3⟩:=zwV (P:=P) (k:=k) (e:=e) R n (fun i hi=>h i (by omega))
    obtain⟨x,k1,k2,k3⟩:=h n (by omega)
    refine⟨ys++[x],by simp[h1],fun y hy=>?_,?_⟩
    · simp only[List.mem_append,List.mem_singleton]at hy
      rcases hy with hy|rfl
      · exact h2 y hy
      · exact⟨k2,k3⟩
    · have app:∀(zs:List (List AV)) (o:Nat),(∀z∈zs,z.length=sz)->PVss NoM w zs b o->PVs NoM w x b (o+zs.length*sz)->PVss NoM w (zs++[x]) b o:=by
        intro zs
        induction zs with
        | nil=>intro o _ _ hx;simp only[List.nil_append,PVss];exact⟨by simpa using hx,trivial⟩
        | cons z zs ih=>
          intro o hz hp hx
          simp only[PVss]at hp
          simp only[List.cons_append,PVss]
          refine⟨hp.1,ih _ (fun y hy=>hz y (by simp[hy])) hp.2 ?_⟩
          rw[hz z (by simp),show o+sz+zs.length*sz=o+(zs.length+1)*sz from by rw[Nat.add_mul];omega]
          exact hx
      exact app ys o (fun y hy=>(h2 y hy).1) h3 (by rw[h1];exact k1)
theorem ze5{H:Type}{enc:TypeId×Value->H}{P:Program}{w:World}{base:Nat}{spare:Nat->Bool}{held:Bool}: ∀(fuel k:Nat) (t:TypeId) (cs:List Value) (r:DataW H×List MemPlace),okT P k t=true->DataW.trod enc P w base spare held fuel t cs=some r ->
    ∃xs,PVl NoM w xs cs/\(∀v∈cs,v.oneCell'=true)/\Sh P k t xs
  | 0,_,_,_,_,_,h=>by simp[DataW.trod]at h
  | _+1,0,_,_,_,h,_=>by simp[okT]at h
  | fuel+1,k+1,t,cs,r,hok,h=>by
    unfold DataW.trod at h
    unfold okT at hok
    unfold Sh
    cases hu:P.underlying t with
    | none=>rw[hu]at hok;cases hok
    | some D=>
      rw[hu]at hok h
      cases D with
      | bool=>
        split at h<;>first|(exfalso;simp_all;done)|skip
        rename_i b _
        exact⟨[.lit (.bool b)],by simp[PVl,PV],by simp[Value.oneCell'],b,rfl⟩
      | int kd=>
        split at h<;>first|(exfalso;simp_all;done)|skip
        rename_i kk kn n he
        simp only[Option.some.injEq,TypeDesc.int.injEq]at he
        subst he
        split at h
        · rename_i hc
          obtain⟨rfl,hwf⟩:=hc
          exact⟨[.lit (.int _ n)],by simp[PVl,PV],by simp[Value.oneCell'],n,hwf,rfl⟩
        · cases h
      | string=>
        split at h<;>first|(exfalso;simp_all;done)|skip
        rename_i s _
        split at h
        · rename_i hc
          exact⟨[.lit (.string s)],by simp[PVl,PV],by simp[Value.oneCell'],s,hc,rfl⟩
        · cases h
      | slice e=>
        simp only[Bool.and_eq_true,decide_eq_true_eq]at hok
        obtain⟨hok,hpos⟩:=hok
        split at h<;>first|(exfalso;simp_all;done)|skip
        · exact⟨[.sl false false []],by
            simp only[PVl,PV,and_true]
            exact⟨none,0,0,rfl,Nat.le_refl _,by simp,by simp,by simp,by simp,fun hne=>absurd rfl hne⟩,by simp[Value.oneCell'],[],by simp,by simp,rfl⟩
        · rename_i e' a len cap he
          simp only[Option.some.injEq,TypeDesc.slice.injEq]at he
          subst he
          split at h
          · rename_i hc
            obtain⟨hc1,hc2,hc3⟩:=hc
            simp only[Option.bind_eq_some_iff]at h
            obtain⟨elems,hel,_⟩:=h
            obtain⟨q1,q2⟩:=zc5 _ _ hel
            have each:∀i,i<len->∃cs' r',w.cells? base (a.add (i*P.cellsOf e)) (P.cellsOf e)=some cs'/\DataW.trod enc P w base spare held fuel e cs'=some r':=by
              intro i hi
              obtain⟨b,hb⟩:=q2 i i (by simp[hi])
              simp only[Option.bind_eq_some_iff]at hb
              obtain⟨cs',h1,h2⟩:=hb
              exact⟨cs',b,h1,h2⟩
            by_cases hl:len=0
            · subst hl
              exact⟨[.sl false false []],by
                simp only[PVl,PV,and_true]
                exact⟨some a,cap,0,rfl,by simp,hc3,by simp,by simp,by simp,fun hne=>absurd rfl hne⟩,by simp[Value.oneCell'],[],by simp,by simp,rfl⟩
            · obtain⟨b,o,ha,hb⟩:∃b o,a=⟨b,o,none⟩/\b<w.heap.size:=by
                obtain⟨cs',r',h1,_⟩:=each 0 (by omega)
                obtain⟨_,m2,m3⟩:=World.cells?_some h1
                have:=m3 0 hpos
                rw[List.getElem?_eq_getElem (by omega)]at this
                have e0:(a.add (0*P.cellsOf e)).add 0=a:=by simp[Addr.add]
                rw[e0]at this
                exact ziN this
              subst ha
              obtain⟨ys,y1,y2,y3⟩:=zwV (P:=P) (k:=k) (e:=e) (w:=w) (b:=b) (o:=o) (sz:=P.cellsOf e) (Sh P k e) len (fun i hi=>by
                obtain⟨cs',r',h1,h2⟩:=each i hi
                obtain⟨xs,k1,k2,k3⟩:=ze5 fuel k e cs' r' hok h2
                obtain⟨_,m2,m3⟩:=World.cells?_some h1
                refine⟨xs,zaD xs cs' _ _ k1 k2 (fun j v hj=>?_),by rw[zc6 _ _ k1];exact m2,k3⟩
                have hjl:=(List.getElem?_eq_some_iff.1 hj).1
                have:=m3 j (by omega)
                rw[zQ,zQ,hj]at this
                exact this)
              refine⟨[.sl false false ys],?_,by simp[Value.oneCell'],ys,by rw[y1];omega,fun y hy=>(y2 y hy).2,rfl⟩
              simp only[PVl,PV,and_true]
              exact⟨some ⟨b,o,none⟩,cap,P.cellsOf e,by rw[y1],by rw[y1];exact hc2,hc3,by simp,by simp,fun y hy=>(y2 y hy).1,fun _=>⟨b,o,rfl,hb,fun h=>h,y3⟩⟩
          · cases h
      | struct fs=>
        simp only[Bool.and_eq_true]at hok
        obtain⟨ht,hall⟩:=hok
        split at h<;>first|(exfalso;simp_all;done)|skip
        rename_i fs' cs' he
        simp only[Option.some.injEq,TypeDesc.struct.injEq]at he
        subst he
        split at h
        · rename_i hlen
          simp only[Option.map_eq_some_iff]at h
          obtain⟨xs,hx,_⟩:=h
          obtain⟨q1,q2⟩:=zc5 _ _ hx
          obtain⟨X,k1,k2,k3⟩:=asm (k:=k) (w:=w) hlen fs.toList 0 ht (Nat.zero_le _) (fun f hf=>by
            obtain⟨i,hi,rfl⟩:=List.getElem_of_mem hf
            obtain⟨b,hb⟩:=q2 i _ (List.getElem?_eq_getElem hi)
            exact ze5 fuel k _ _ b (List.all_eq_true.1 hall _ hf) hb)
          simp only[List.drop_zero]at k1 k2
          exact⟨X,k1,k2,by rw[zc6 _ _ k1];exact hlen,fun f hf=>by simpa using(k3 f hf).2⟩
        · cases h
      | _=>cases hok
theorem zpt{w:World}(xs:List AV)(cs:List Value)(h:PVl NoM w xs cs): VRl [] rz0 w xs cs:=by
 have:PVl (jN [] rz0) w xs cs:=PVl.carry (Nat.le_refl _) (fun _ _ _=>rfl) (fun b hb=>(zsR b false hb).elim) _ _ h
 exact PV_VR.go _ _ this
theorem zf5{H:Type}{enc:TypeId×Value->H}{P:Program}{w:World}{base:Nat}{spare:Nat->Bool}{held:Bool}{t:TypeId}{v:Value}{d:DataW H}{ps:List MemPlace}(k:Nat)(hok:okT P k t=true)(h:DataW.Trod enc P w base spare held t v d ps):
    ∃xs,Sh P k t xs/\((∃x,xs=[x]/\VR [] rz0 w x v)\/VR [] rz0 w (.ag xs) v):=by
  obtain⟨fuel,h⟩:=h
  obtain⟨xs,h1,_,h3⟩:=ze5 fuel k t _ _ hok h
  have h4:=zpt _ _ h1
  refine⟨xs,h3,?_⟩
  by_cases ha:∃cs,v=.agg cs
  · obtain⟨cs,rfl⟩:=ha
    right
    simp only[VR]
    exact⟨cs.toList,by simp,by simpa[Value.cells]using h4⟩
  · left
    have hv:v.cells.toList=[v]:=by
      cases v<;>first|rfl|exact absurd ⟨_,rfl⟩ ha
    rw[hv]at h4
    cases xs with
    | nil=>simp[VRl]at h4
    | cons x xs=>
      cases xs with
      | nil=>simp only[VRl]at h4;exact⟨x,rfl,h4.1⟩
      | cons y ys=>simp[VRl]at h4
theorem zs1{P:Program}{w:World}{t e k:Nat}{a:Option Addr}{l c:Nat}(hu:P.underlying t=some (.slice e))(h:∃xs,Sh P (k+1) t xs/\((∃x,xs=[x]/\VR [] rz0 w x (.slice a l c))\/VR [] rz0 w (.ag xs) (.slice a l c))):
    ∃ys:List (List AV),ys.length<=maxLen/\(∀y∈ys,Sh P k e y)/\VR [] rz0 w (.sl false false ys) (.slice a l c):=by
  obtain⟨xs,h1,h2⟩:=h
  simp only[Sh,hu]at h1
  obtain⟨ys,h3,h4,rfl⟩:=h1
  refine⟨ys,h3,h4,?_⟩
  rcases h2 with⟨x,h2,h5⟩|h2
  · simp at h2;subst h2;exact h5
  · simp[VR]at h2
theorem zpu{P:Program}{t k:Nat}{y:List AV}(hu:P.underlying t=some (.int .u8))(h:Sh P (k+1) t y): ∃b:UInt8,y=zk b:=by
 simp only[Sh,hu]at h
 obtain⟨n,hw,rfl⟩:=h
 have hz':0<=n/\n<256:=by
  simp[Lit.wf,IntKind.min,IntKind.max,IntKind.signed,IntKind.bits]at hw
  omega
 refine⟨UInt8.ofNat n.toNat,?_⟩
 simp only[zk,UInt8.toNat_ofNat']
 congr 3
 omega
end Go.Lf
namespace Go.Lf
theorem znT{σ:Sto}{ρ:Rz}{w:World}: ∀(cs:List AV) (vs:List Value) (k:Nat) (y:AV) (v:Value),VRl σ ρ w cs vs->vs[k]?=some v->VR σ ρ w y v->VRl σ ρ w (cs.set k y) vs
 | [],[],_,_,_,_,_,_=>by simp[VRl]
 | [],_::_,_,_,_,h,_,_=>by simp[VRl]at h
 | _::_,[],_,_,_,h,_,_=>by simp[VRl]at h
 | c::cs,u::vs,0,y,v,h,hv,hy=>by
  simp only[VRl]at h
  simp at hv
  subst hv
  simp only[List.set_cons_zero,VRl]
  exact⟨hy,h.2⟩
 | c::cs,u::vs,k+1,y,v,h,hv,hy=>by
  simp only[VRl]at h
  simp only[List.set_cons_succ,VRl]
  exact⟨h.1,znT cs vs k y v h.2 (by simpa using hv) hy⟩
theorem ze6{N n:Nat}{Γ:Env}{σ:Sto}{q:Bool}{cs:List AV}(o k e sz:Nat)(h00:0<sz)(hob:σ[o]?=some (.box cs))(hc:cs[k]?=some (.sl true q [])): Wk N n Γ σ Γ ((σ++[Ob.row 0 e sz []]).set o (Ob.box (cs.set k (AV.row σ.length 0)))):=by
 intro ρ w a hn hf hr
 obtain⟨b,ty,vs,hb,hh,hone,hl⟩:=hr.obj _ _ hob
 obtain⟨v,hv,hV⟩:=zbi _ _ hl k _ hc
 simp only[VR]at hV
 obtain⟨ad,cap,sz',k1,_,_,k4,_⟩:=hV
 obtain rfl:=k4 trivial
 obtain⟨ρ',h1,h2,h3⟩:=kc (w':=w) (e:=e) hr rfl rfl rfl (Nat.le_refl _) (fun _ _=>rfl) h00 ad
 have hlt:o<σ.length:=(List.getElem?_eq_some_iff.1 hob).1
 have hob1:(σ++[Ob.row 0 e sz []])[o]?=some (.box cs):=by rw[List.getElem?_append_left hlt];exact hob
 have hobj:ObjStep (some (.box cs)) (some (.box (cs.set k (.row σ.length 0)))) (ρ' o) (ρ' o):=by simp[ObjStep]
 have st:=v9 (w:=w) (w':=w) hob1 rfl hobj rfl rfl rfl (Nat.le_refl _) (fun _ _ _=>rfl) (fun c _ h=>.inl h)
 obtain⟨b1,ty1,vs1,hb1,hh1,hone1,hl1⟩:=h1.obj _ _ hob1
 have heq:ρ' o=ρ o:=by
  have:=h3.obj o hlt
  rw[hob,hob1]at this
  simpa[ObjStep]using this
 rw[heq,hb]at hb1
 simp at hb1
 subst hb1
 rw[hh]at hh1
 simp at hh1
 obtain⟨rfl,_⟩:=hh1
 have hrel := zaf (w := w) (w' := w) h1 hob1 rfl hobj rfl rfl rfl (Nat.le_refl _) (fun _ _ _ => rfl) (fun c _ h => .inl h)
  ⟨b,ty,vs,by rw[heq,hb],hh,hone,VRl.carry st _ _ (znT _ _ k _ _ hl1 hv (by rw[k1];exact h2))⟩
 have st2:=h3.trans (st.mono h3.len')
 refine⟨_,⟨hf.1,⟨hf.2.1.1,hf.2.1.2.carry st2⟩,fun i=>VR.carry st2 _ _ (hf.2.2 i)⟩,hrel,st2.mono hn⟩
theorem yE{P:Program}{N n:Nat}{c:Code}{Γ:Env}{σ σ2:Sto}{Q:Exit->Env->Sto->Prop}{q:Bool}{cs:List AV}(o k e sz:Nat)(h00:0<sz)(hob:σ[o]?=some (.box cs))(hc:cs[k]?=some (.sl true q []))
    (hσ:(σ++[Ob.row 0 e sz []]).set o (Ob.box (cs.set k (AV.row σ.length 0)))=σ2) (h:PWp P N n c Γ σ2 Q):PWp P N n c Γ σ Q:=by
  subst hσ
  exact zbh (ze6 o k e sz h00 hob hc) h
section steps4
variable {P : Program} {N : Nat} {ops : Array Oper} {Γ R : Env} {σ : Sto} {K : Env -> Sto -> Prop} {d : Nat} {op : Op} {ty : TypeId} {pos : String} {af : Array Edge} {l : List Oper} {j : Nat} {want : Bool}
theorem zs3 {z : AV} (hd : Oper.dstOk N ⟨some d, op, ty, pos, af, some (j, want)⟩ = true) (hg : gdv ops Γ j = some want := by simp only [go_sem, seval, ↓reduceIte, hU] <;> rfl) (hv : opv P ⟨some d, op, ty, pos, af, some (j, want)⟩ Γ σ = some z := by (try simp (disch := omega) only [go_sem, seval, ↓reduceIte, hU]) <;> rfl)
    (h:ro P N ops l ((d,z)::Γ) σ K):ro P N ops (⟨some d,op,ty,pos,af,some (j,want)⟩::l) Γ σ K:=
  zoX hd hg (fun _=>SOp.pure z (fun _ _ _ hf hr=>zai hv hf hr) h) (fun e=>absurd rfl e)
theorem znU {z : AV} (hd : Oper.dstOk N ⟨some d, op, ty, pos, af, some (j, want)⟩ = true) (hg : gdv ops Γ j = some want := by simp only [go_sem, seval, ↓reduceIte, hU] <;> rfl) (hv : opv P ⟨some d, op, ty, pos, af, some (j, want)⟩ Γ σ = some z := by (try simp (disch := omega) only [go_sem, seval, ↓reduceIte, hU]) <;> rfl)
    (h:rg P N ops l ((d,z)::Γ) σ K):rg P N ops (⟨some d,op,ty,pos,af,some (j,want)⟩::l) Γ σ K:=by
  intro n Q σ0 ρ0 w0 hQ ρ a w hf hr st
  have hy:=zak hg hf
  unfold wpList
  rw[if_pos (by simp[Region.wanted,hy])]
  obtain⟨v,h1,h2⟩:=zai hv hf hr
  refine .inl ?_
  unfold Oper.wp
  rw[h1,Oper.upon_value]
  exact h n Q σ0 ρ0 w0 hQ ρ _ w (hf.put _ (zaB hd) _ _ h2) hr st
theorem znV {z : AV} (hd : Oper.dstOk N ⟨some d, op, ty, pos, af, some (j, want)⟩ = true) (hR : rst ops ⟨some d, op, ty, pos, af, some (j, want)⟩ Γ = R := by exact kE (by simp only [go_sem]; rfl) (by simp only [go_sem, seval, ↓reduceIte, hU]; rfl)) (hg : gdv ops R j = some want := by simp only [go_sem, seval, ↓reduceIte, hU] <;> rfl) (hv : opv P ⟨some d, op, ty, pos, af, some (j, want)⟩ R σ = some z := by (try simp (disch := omega) only [go_sem, seval, ↓reduceIte, hU]) <;> rfl)
    (hk:dg P N ops l ((d,z)::Γ) σ K):dg P N ops (⟨some d,op,ty,pos,af,some (j,want)⟩::l) Γ σ K:=
  vz hR (zs3 hd hg hv (zl ⟨rfl,rfl⟩)) hk
end steps4
theorem zcy{α:Type}{g:α->List AV}{l m:List α}{π:List Nat}{τ σ:Sto}{o s e sz:Nat}(ho:σ[o]?=some (.row s e sz (l.map g++m.map g)))(hp:ka π o=none)(hg:∀a,y9 (g a)=true): Arg π τ σ (.row o s) (.sl false true ((l++m).map g)):=
 z0 (by rw[List.map_append];exact ho) hp hg
theorem yv{α:Type}{l:List α}{i:Nat}(h:i<l.length): ∃s,l[i]?=some s:=⟨l[i],List.getElem?_eq_getElem h⟩
theorem vc{α:Type}{g:α->List AV}{κ:List Nat}{σ:Sto}(hg:∀a,fzl κ σ (g a)=g a)(l:List α): List.map (fzl κ σ) (l.map g)=l.map g:=by
 rw[List.map_map];exact List.map_congr_left fun a _=>hg a
@[go_sem] theorem zwW{κ:List Nat}{σ:Sto}(l:List UInt8): List.map (fzl κ σ) (l.map zk)=l.map zk:=vc (fun _=>rfl) l
@[go_sem] theorem zwX{κ:List Nat}{σ:Sto}(l:List Int): List.map (fzl κ σ) (l.map yz)=l.map yz:=vc (fun _=>rfl) l
theorem yV{a b:Int}(h:a=b): Ale1 (i64 a) (i64 b):=by rw[h];exact zfX
theorem zJ{a b:Bool}(h:a=b): Ale1 (bl a) (bl b):=by rw[h];exact zfX
theorem ziO{α:Type}{g:α->List AV}{f q q':Bool}{a b:List α}(h:a=b)(hq:q=true->q'=true): Ale1 (.sl f q (a.map g)) (.sl false q' (b.map g)):=by rw[h];exact zbt hq
end Go.Lf
