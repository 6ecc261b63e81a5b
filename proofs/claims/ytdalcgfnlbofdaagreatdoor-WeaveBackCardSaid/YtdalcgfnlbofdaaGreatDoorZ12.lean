import Derived.Test.YtdalcgfnlbofdaaGreatDoorLc
import Derived.Lib.AppendZerosOnto
import Derived.Test.YtdalcgfnlbofdaaGreatDoorTy
import Derived.Test.YtdalcgfnlbofdaaGreatDoorRows
import Derived.ProofKit
import Derived.LaidMore
import Derived.OpenShut
import Derived.Stop.Joined
set_option linter.unusedVariables false
set_option linter.unusedSimpArgs false
namespace Go.Lf
open Go
section
mutual
def nol: AV->Bool
 | .sl _ q _=>!q
 | .ip q _=>!q
 | .ag xs=>yA xs
 | .tu xs=>yA xs
 | .gd _ x=>nol x
 | .fn _ xs=>yA xs
 | _=>true
def yA: List AV->Bool
 | []=>true
 | x::xs=>nol x && yA xs
end
def nlx(x:AV): AV:=if nol x=true then x else .junk
def nlE(Γ:Env): Env:=Γ.map fun p=>(p.1,nlx p.2)
mutual
theorem zqq: ∀x:AV,pur x=true->nol x=true
 | .junk,_=>rfl
 | .lit _,_=>rfl
 | .sl _ q _,h=>by simpa[pur,nol]using h
 | .ip q _,h=>by simpa[pur,nol]using h
 | .row _ _,_=>rfl
 | .vw _ _ _ _,_=>rfl
 | .ptr _ _,_=>rfl
 | .ep _ _ _ _,_=>rfl
 | .ag xs,h=>by simp only[pur]at h;simp only[nol];exact kj xs h
 | .tu xs,h=>by simp only[pur]at h;simp only[nol];exact kj xs h
 | .gd _ _,h=>by simp[pur]at h
 | .fn _ _,h=>by simp[pur]at h
 | .mref _,h=>by simp[pur]at h
theorem kj: ∀xs:List AV,y9 xs=true->yA xs=true
 | [],_=>rfl
 | x::xs,h=>by simp only[y9,Bool.and_eq_true]at h;simp only[yA,Bool.and_eq_true];exact⟨zqq x h.1,kj xs h.2⟩
end
def kz: Ob->Bool
 | .gone=>true
 | .mp _=>true
 | .box cs=>yA cs
 | .row _ _ _ xs=>yA xs.flatten
structure GenH(c:Bool)(σ:Sto)(ρ:Rz)(w:World)(σ':Sto)(ρ':Rz)(w':World): Prop where
 hz:w.heap.size<=w'.heap.size
 hk:∀b,b<w.heap.size->¬Own σ ρ b->w'.heap[b]?=w.heap[b]?
 hm:∀b,jN σ' ρ' b->jN σ ρ b\/w.heap.size<=b
 ho:c=true->∀b,Own σ' ρ' b->Own σ ρ b\/w.heap.size<=b
 hl:σ.length<=σ'.length
 hobj:∀o,o<σ.length->σ'[o]?=σ[o]?/\ρ' o=ρ o
section gen
variable {c : Bool} {σ σ' : Sto} {ρ ρ' : Rz} {w w' : World}
theorem zgz(H:GenH c σ ρ w σ' ρ' w'){q:Bool}(hq:c=true\/(!q)=true): ∀b,Bset q σ' ρ' b->Bset q σ ρ b\/w.heap.size<=b:=by
 intro b h
 cases q with
 | false=>exact H.hm b h
 | true=>exact H.ho (by simpa using hq) b h
mutual
theorem VR.gen(H:GenH c σ ρ w σ' ρ' w'): ∀(x:AV) (v:Value),(c=true\/nol x=true)->VR σ ρ w x v->VR σ' ρ' w' x v
 | .junk,_,_,_=>by simp[VR]
 | .lit _,_,_,h=>by simpa[VR]using h
 | .sl full q xs,v,hc,h=>by
  simp only[VR]at h ⊢
  obtain⟨a,cap,sz,h1,h2,h3,h4,h5,h6,h7⟩:=h
  refine⟨a,cap,sz,h1,h2,h3,h4,h5,h6,fun hx=>?_⟩
  obtain⟨b,o,ha,hbs,hb,hp⟩:=h7 hx
  have:=H.hz;exact⟨b,o,ha,by omega,fun hmb=>(zgz H (by simpa[nol]using hc) b hmb).elim hb (fun hle=>absurd hle (by omega)),PVss.carry H.hz (fun b hb hm=>H.hk b hb fun ho=>hm (.inl ho)) H.hm xs b o (H.hk b hbs fun ho=>hb ho.bset) hp⟩
 | .ip q xs,v,hc,h=>by
  simp only[VR]at h ⊢
  obtain⟨b,o,ha,hbs,hb,hp⟩:=h
  have:=H.hz;exact⟨b,o,ha,by omega,fun hmb=>(zgz H (by simpa[nol]using hc) b hmb).elim hb (fun hle=>absurd hle (by omega)),PVs.carry H.hz (fun b hb hm=>H.hk b hb fun ho=>hm (.inl ho)) H.hm xs b o (H.hk b hbs fun ho=>hb ho.bset) hp⟩
 | .vw o s i n,v,hc,h=>by
  simp only[VR]at h ⊢
  obtain⟨h1,h2⟩:=h
  obtain⟨e1,e2⟩:=H.hobj o h1
  exact⟨Nat.lt_of_lt_of_le h1 H.hl,fun s' e sz xs hs=>by rw[e1]at hs;rw[e2];exact h2 _ _ _ _ hs⟩
 | .row o s,v,hc,h=>by
  simp only[VR]at h ⊢
  obtain⟨h1,h2⟩:=h
  obtain⟨e1,e2⟩:=H.hobj o h1
  exact⟨Nat.lt_of_lt_of_le h1 H.hl,fun s' e sz xs hs=>by rw[e1]at hs;rw[e2];exact h2 _ _ _ _ hs⟩
 | .ptr o k,v,hc,h=>by
  simp only[VR]at h ⊢
  obtain⟨h1,h2⟩:=h
  obtain⟨e1,e2⟩:=H.hobj o h1
  exact⟨Nat.lt_of_lt_of_le h1 H.hl,fun cs hs=>by rw[e1]at hs;rw[e2];exact h2 _ hs⟩
 | .ep o s i k,v,hc,h=>by
  simp only[VR]at h ⊢
  obtain⟨h1,h2⟩:=h
  obtain⟨e1,e2⟩:=H.hobj o h1
  exact⟨Nat.lt_of_lt_of_le h1 H.hl,fun s' e sz xs hs=>by rw[e1]at hs;rw[e2];exact h2 _ _ _ _ hs⟩
 | .ag xs,v,hc,h=>by
  simp only[VR]at h ⊢
  obtain⟨vs,h1,h2⟩:=h
  exact⟨vs,h1,VRl.gen H xs vs (by simpa[nol]using hc) h2⟩
 | .tu xs,v,hc,h=>by
  simp only[VR]at h ⊢
  obtain⟨vs,h1,h2⟩:=h
  exact⟨vs,h1,VRl.gen H xs vs (by simpa[nol]using hc) h2⟩
 | .mref o,v,hc,h=>by
  simp only[VR]at h ⊢
  obtain⟨h1,h2⟩:=h
  obtain⟨e1,e2⟩:=H.hobj o h1
  exact⟨Nat.lt_of_lt_of_le h1 H.hl,fun I hs=>by rw[e1]at hs;rw[e2];exact h2 _ hs⟩
 | .fn _ xs,v,hc,h=>by
  simp only[VR]at h ⊢
  obtain⟨vs,h1,h2⟩:=h
  exact⟨vs,h1,VRl.gen H xs vs (by simpa[nol]using hc) h2⟩
 | .gd g x,v,hc,h=>by
  simp only[VR]at h ⊢
  exact⟨zaW H.hl x h.1,fun e=>VR.gen H x v (by simpa[nol]using hc) (h.2.1 e),h.2.2⟩
theorem VRl.gen(H:GenH c σ ρ w σ' ρ' w'): ∀(xs:List AV) (vs:List Value),(c=true\/yA xs=true)->VRl σ ρ w xs vs->VRl σ' ρ' w' xs vs
 | [],[],_,_=>by simp[VRl]
 | [],_::_,_,h=>by simp[VRl]at h
 | _::_,[],_,h=>by simp[VRl]at h
 | x::xs,v::vs,hc,h=>by
  simp only[VRl]at h ⊢
  simp only[yA,Bool.and_eq_true]at hc
  exact⟨VR.gen H x v (hc.imp id And.left) h.1,VRl.gen H xs vs (hc.imp id And.right) h.2⟩
end
theorem RelO.gen(H:GenH c σ ρ w σ' ρ' w'){r:Value}{ob:Ob}(hc:c=true\/kz ob=true)(hb:∀b,blk r=some b->w'.heap[b]?=w.heap[b]?)(h:RelO σ ρ w r ob): RelO σ' ρ' w' r ob:=by
 cases ob with
 | gone=>trivial
 | mp I=>
  obtain⟨b,x,rfl,h2,h3⟩:=h
  exact⟨b,x,rfl,by rw[hb b rfl];exact h2,h3⟩
 | box cs=>
  obtain⟨b,ty,vs,rfl,h2,h3,h4⟩:=h
  exact⟨b,ty,vs,rfl,by rw[hb b rfl];exact h2,h3,VRl.gen H _ _ hc h4⟩
 | row s e sz xs=>
  obtain⟨h0,h00,h⟩:=h
  refine⟨h0,h00,?_⟩
  rcases h with h|⟨b,cap,vs,sp,rfl,h2,h3,h4,h5,h6,h7⟩
  ·exact .inl h
  ·exact .inr ⟨b,cap,vs,sp,rfl,by rw[hb b (by simp[blk];omega)];exact h2,h3,h4,h5,h6,VRl.gen H _ _ hc h7⟩
end gen
def zmN(σ:Sto): Bool:=σ.all kz
theorem zjO{σ:Sto}{o:Nat}{ob:Ob}(h:zmN σ=true)(e:σ[o]?=some ob): kz ob=true:=by
 unfold zmN at h
 rw[List.all_eq_true]at h
 exact h ob (List.mem_of_getElem? e)
def foA(ρ:Rz)(b:Nat): Rz:=⟨ρ.val,fun x=>ρ.fo x\/x=b⟩
theorem jq{σ:Sto}{ρ ρ':Rz}(h:ρ'.val=ρ.val){b:Nat}: Own σ ρ' b↔Own σ ρ b:=by
 unfold Own
 simp only[h]
theorem zjP{σ:Sto}{ρ:Rz}{w:World}{ob:Obj}: GenH true σ ρ w σ (foA ρ w.heap.size) (w.alloc ob):=by
 refine⟨by simp,fun b hb _=>heap_alloc_old w _ b hb,?_,?_,Nat.le_refl _,fun o _=>⟨rfl,rfl⟩⟩
 ·rintro b (h | h | h)
  ·exact .inl (.inl ((jq rfl).1 h))
  ·exact .inl (.inr h)
  ·exact .inr (by omega)
 ·intro _ b h
  exact .inl ((jq rfl).1 h)
theorem zn4{σ:Sto}{ρ:Rz}{w:World}{ob:Obj}(x:AV)(v:Value)(h:VR σ ρ w x v): VR σ (foA ρ w.heap.size) (w.alloc ob) x v:=VR.gen zjP x v (.inl rfl) h
theorem zqr{σ:Sto}{ρ:Rz}{w:World}{ob:Obj}(hr:Rel σ ρ w): Rel σ (foA ρ w.heap.size) (w.alloc ob):=by
 refine⟨fun o x h=>?_,hr.inj,fun b hb=>?_,fun b hb=>?_⟩
 ·have hO:=hr.obj _ _ h
  cases hl:x.live with
  | false=>cases x<;>simp[Ob.live]at hl;trivial
  | true=>
   exact RelO.gen zjP (.inl rfl) (fun b hb'=>heap_alloc_old w _ b (hr.blk_lt _ _ _ h hl hb')) hO
 ·rcases hb with h | h
  ·have:=hr.fol b h
   simp;omega
  ·simp;omega
 ·intro hf
  have hb2:=(jq (ρ:=ρ) (ρ':=foA ρ w.heap.size) rfl).1 hb
  rcases hf with h|h
  ·exact hr.dis b hb2 h
  ·obtain⟨o,x,h1,h2,h3⟩:=hb2
   have:=hr.blk_lt _ _ _ h1 h2 h3
   omega
def ad2(ρ:Rz)(F:Nat->Prop)(L bA bB:Nat): Rz:=⟨fun o=>if o=L then .pointer (some ⟨bA,0,none⟩)else if o=L+1 then .pointer (some ⟨bB,0,none⟩)else ρ.val o,F⟩
section ad2
variable {σ : Sto} {ρ : Rz} {w : World} {F : Nat -> Prop} {bA bB : Nat} {csA csB : List Value}
end ad2
theorem zgA(g:Nat): nol (zeK g)=true:=by
 unfold zeK
 split<;>rfl
section al2
variable {P : Program} {N : Nat}
def zyi(l:List Oper)(m d t:Nat): Bool:=match l[m]? with
 | some o => (match o.dst, o.op, o.guard with
  | some e,.alloc u,none=>e == d && u == t
  | _,_,_=>false)
 | none=>false
theorem zqs{l:List Oper}{m d t:Nat}(h:zyi l m d t=true): ∃o,l[m]?=some o/\o.dst=some d/\o.op=.alloc t/\o.guard=none:=by
 unfold zyi at h
 split at h
 ·rename_i o ho
  split at h
  ·rename_i e u h1 h2 h3
   simp only[Bool.and_eq_true,beq_iff_eq]at h
   obtain⟨rfl,rfl⟩:=h
   exact⟨o,ho,h1,h2,h3⟩
  ·cases h
 ·cases h
theorem zuz {t : Nat} {cs : List Value} {o : Oper} (ho : o.op = .alloc t) (hz : ((P.info? t).bind fun i => i.zero.map fun z => z.cells.toList) = some cs) (a : Act) (w : World) :
    (execOp a.eval o).run P w=.ok (.value (.pointer (some ⟨w.heap.size,0,none⟩))) (w.alloc (.cells cs.toArray t)):=by
  obtain⟨i,hi,z,hz0,hz1⟩:∃i,P.info? t=some i/\∃z,i.zero=some z/\z.cells.toList=cs:=by
    cases hi:P.info? t with
    | none=>rw[hi]at hz;simp at hz
    | some i=>
      rw[hi]at hz
      cases hz0:i.zero with
      | none=>simp[hz0]at hz
      | some z=>simp[hz0]at hz;exact⟨i,rfl,z,hz0,hz⟩
  have:z.cells=cs.toArray:=by rw[<-hz1]
  simp[execOp,ho,Instr.alloc,zeroValue,typeInfo,hi,hz0,newVar,newRow,this]
theorem zbN{a:Act}{d:Option Nat}{v:Value}{e:Nat}(h:d≠some e): (a.put d v).tmps.getD e undef=a.tmps.getD e undef:=by
 cases d with
 | none=>rfl
 | some d=>
  have:e≠d:=fun q=>h (by rw[q])
  simp only[Act.put,Array.getD_eq_getD_getElem?,Array.getElem?_setIfInBounds_ne (Ne.symm this)]
theorem zmO{a:Act}{v:Value}{e:Nat}(h:e<a.tmps.size): (a.put (some e) v).tmps.getD e undef=v:=by
 simp[Act.put,Array.getD_eq_getD_getElem?,h]
structure AlV(σ:Sto)(ρ':Rz)(w w':World)(a':Act)(d t b:Nat)(cs:List Value): Prop where
 at_:a'.tmps.getD d undef=.pointer (some ⟨b,0,none⟩)
 fo:ρ'.fo b
 ge:w.heap.size<=b
 lt:b<w'.heap.size
 he:w'.heap[b]?=some (.cells cs.toArray t (0,0))
structure AlI(n:Nat)(σ:Sto)(ρ:Rz)(w:World)(lA lB:Bool)(dA dB tA tB:Nat)(csA csB:List Value)(ρ':Rz)(w':World)(a':Act): Prop where
 st:Step n σ ρ w σ ⟨ρ'.val,ρ.fo⟩ w'
 fo:∀b,ρ.fo b->ρ'.fo b
 vA:lA=true->∃b,AlV σ ρ' w w' a' dA tA b csA
 vB:lB=true->∃b,AlV σ ρ' w w' a' dB tB b csB
 ne:lA=true->lB=true->a'.tmps.getD dA undef≠a'.tmps.getD dB undef
theorem AlV.step{σ:Sto}{ρ1 ρ2:Rz}{w w1 w2:World}{a1 a2:Act}{d t b:Nat}{cs:List Value}(h:AlV σ ρ1 w w1 a1 d t b cs)(hr:Rel σ ρ1 w1)(st:Step σ.length σ ρ1 w1 σ ρ2 w2)(ha:a2.tmps.getD d undef=a1.tmps.getD d undef): AlV σ ρ2 w w2 a2 d t b cs:=
 ⟨by rw[ha];exact h.at_,by rw[st.fo];exact h.fo,h.ge,Nat.lt_of_lt_of_le h.lt st.size,by rw[st.kept b h.lt (fun ho=>hr.dis b ho h.fo)];exact h.he⟩
theorem AlI.step{n:Nat}{σ:Sto}{ρ:Rz}{w:World}{lA lB:Bool}{dA dB tA tB:Nat}{csA csB:List Value}{ρ1 ρ2:Rz}{w1 w2:World}{a1 a2:Act}(h:AlI n σ ρ w lA lB dA dB tA tB csA csB ρ1 w1 a1)(hr:Rel σ ρ1 w1)(st:Step σ.length σ ρ1 w1 σ ρ2 w2)
    (hA:a2.tmps.getD dA undef=a1.tmps.getD dA undef) (hB:a2.tmps.getD dB undef=a1.tmps.getD dB undef):AlI n σ ρ w lA lB dA dB tA tB csA csB ρ2 w2 a2:=by
  have st2:Step n σ ⟨ρ1.val,ρ.fo⟩ w1 σ ⟨ρ2.val,ρ.fo⟩ w2:=
    ⟨st.os,st.tape,st.output,st.size,fun b hb ho=>st.kept b hb (fun h=>ho ((jq rfl).2 h)),fun b hb=>(st.own b ((jq rfl).1 hb)).imp (jq rfl).2 id,h.st.len,h.st.len',fun o ho=>st.obj o (Nat.lt_of_lt_of_le ho h.st.len),rfl⟩
  exact⟨h.st.trans st2,fun b hb=>by rw[st.fo];exact h.fo b hb,fun e=>(h.vA e).imp fun b k=>k.step hr st hA,fun e=>(h.vB e).imp fun b k=>k.step hr st hB,fun e1 e2=>by rw[hA,hB];exact h.ne e1 e2⟩
theorem zmP{l:List Oper}{listed:Array Bool}{i fuel:Nat}(hil:i<l.length)(hi2:listed.getD i true=false)(hcnt:((List.range l.length).filter (fun i=>!listed.getD i true)).length=fuel+1): ((List.range l.length).filter (fun k=>!(listed.setIfInBounds i true).getD k true)).length=fuel:=by
 have hperm:((List.range l.length).filter (fun k=>!listed.getD k true)).length=((List.range l.length).filter (fun k=>!(listed.setIfInBounds i true).getD k true)).length+1:=by
  have hsplit:∀(r:List Nat),r.Nodup->i∈r->(r.filter (fun k=>!listed.getD k true)).length=(r.filter (fun k=>!(listed.setIfInBounds i true).getD k true)).length+1:=by
   intro r
   induction r with
   | nil=>intro _ h;simp at h
   | cons k r ihr=>
    intro hnd hmem
    rw[List.nodup_cons]at hnd
    by_cases hki:k=i
    ·subst hki
     have hsame:r.filter (fun q=>!(listed.setIfInBounds k true).getD q true)=r.filter (fun q=>!listed.getD q true):=by
      apply List.filter_congr
      intro q hq
      have hqk:q≠k:=fun e=>hnd.1 (e ▸ hq)
      simp only[Array.getD_eq_getD_getElem?,Array.getElem?_setIfInBounds_ne (Ne.symm hqk)]
     have h1:(listed.setIfInBounds k true).getD k true=true:=by simp[Array.getD_eq_getD_getElem?,Array.getElem?_setIfInBounds];split<;>simp_all
     simp only[List.filter_cons,hi2,h1,Bool.not_false,if_true,Bool.not_true,List.length_cons,hsame]
     simp
    ·have hmem' : i ∈ r := by simpa [Ne.symm hki] using hmem
     have hk:(listed.setIfInBounds i true).getD k true=listed.getD k true:=by
      simp only[Array.getD_eq_getD_getElem?,Array.getElem?_setIfInBounds_ne (Ne.symm hki)]
     have:=ihr hnd.2 hmem'
     simp only[List.filter_cons,hk]
     split<;>simp_all
  exact hsplit _ List.nodup_range (by simpa using hil)
 omega
structure al3K(P:Program)(N:Nat)(ops:Array Oper)(ok oS:Oper)(l2:List Oper)(dA dB L L2:Nat)(σ2:Sto)(K:Env->Sto->Prop)(Γ:Env): Prop where
 p_ : ∃ x σ3, (∀ τ, ro P N ops [ok] (rst ops ok Γ) τ (fun Γ1 τ' => Γ1 = put (rst ops ok Γ) ok.dst x /\ τ' = τ)) /\ (rst ops ok Γ).all (fun p => nol p.2) = true /\
  ro P N ops [oS] (rst ops oS ((dB,.ptr L2 0)::(dA,.ptr L 0)::nlE (put Γ ok.dst x))) σ2 (fun Γ1 τ=>Γ1=put (rst ops oS ((dB,.ptr L2 0)::(dA,.ptr L 0)::nlE (put Γ ok.dst x))) oS.dst .junk/\τ=σ3) /\
  rg P N ops l2 ((dB,.ptr L2 0)::(dA,.ptr L 0)::nlE (put Γ ok.dst x)) σ3 K
end al2
end
section az
variable {P : Program} {w : World}
theorem jr(z:Array Value)(hz:0<z.size)(n:Nat): (Builtin.zeroCells z n).toList=(List.replicate n z.toList).flatten:=vk z hz n
theorem kH(t tn ty e:TypeId)(i:TypeInfo)(kq kn:IntKind)(ht:P.underlying t=some (.slice e))(htn:P.underlying tn=some (.int kn))(hi:P.info? e=some i)
    (base:Option Addr) (sLen sCap:Nat) (hle:sLen<=sCap) :
    (Builtin.append_ #[t,tn] ty #[.slice base sLen sCap,.int kq 0]).run P w=.ok (.slice base sLen sCap) w:=by
  have hw:IntKind.i64.wrap (0:Int)=0:=by rw[IntKind.wrap_i64];omega
  cases base<;>simp[Builtin.append_,run_underlying ht,run_underlying htn,sizeOf,typeInfo,hi,asInt,asIntOf,hw,hle,storeCells]
theorem kJ(t tn ty e:TypeId)(i:TypeInfo)(z:Value)(kq kn:IntKind)(ht:P.underlying t=some (.slice e))(htn:P.underlying tn=some (.int kn))(hi:P.info? e=some i)(hz:i.zero=some z)
    (g sLen sCap:Nat) (cur:Array Value) (hg:w.heap[g]?=some (.cells cur e (0,0)))
    (k:Nat) (h0:0<k) (hs:0<i.size) (hzp:0<z.cells.size) (h63:(k:Int)<=9223372036854775807) (h48:k*i.bytes<=281474976710656) (h1:∀u∈(List.replicate k z.cells.toList).flatten,u.oneCell'=true)
    (hroom:sLen+k<=sCap) (hfit:sLen*i.size+((List.replicate k z.cells.toList).flatten).length<=cur.size) :
    (Builtin.append_ #[t,tn] ty #[.slice (some ⟨g,0,none⟩) sLen sCap,.int kq k]).run P w =
      .ok (.slice (some ⟨g,0,none⟩) (sLen+k) sCap) (w.setRow g (cur.toList.take (sLen*i.size)++(List.replicate k z.cells.toList).flatten++cur.toList.drop (sLen*i.size+((List.replicate k z.cells.toList).flatten).length)).toArray):=by
  have hk:k≠0:=by omega
  have hw:IntKind.i64.wrap (k:Int)=k:=by rw[IntKind.wrap_i64];omega
  have h48i:¬(281474976710656<(k:Int)*(i.bytes:Int)):=by
    rw[<-Int.natCast_mul]
    omega
  have hneg:¬((k:Int)<0):=by omega
  have hns:¬(k*i.size=0):=Nat.mul_ne_zero hk (by omega)
  have hst:=run_storeCells_at P g (sLen*i.size) e ((List.replicate k z.cells.toList).flatten) 0 cur w hg (by simpa using hfit) h1
  simp only[Nat.add_zero]at hst
  simp[Builtin.append_,run_underlying ht,run_underlying htn,sizeOf,typeInfo,zeroValue,hi,hz,asInt,asIntOf,hw,hneg,hns,h48i,hroom,jr _ hzp,Addr.add_lit,hst]
end az
theorem zds{P:Program}{o:Oper}{a:Act}{w w':World}{x y:Operand}{t tn:TypeId}{v:Value}(ho:o.op=.call { callee:=.builtin .append,args:=#[x,y],argTypes:=#[t,tn] })
    (h:(Builtin.append_ #[t,tn] o.type #[a.eval x,a.eval y]).run P w=.ok v w'):(execOp a.eval o).run P w=.ok (.value v) w':=by
  simp[execOp,ho,resolve,invoke,builtin,h]
theorem zaT{P:Program}{N:Nat}{o:Oper}{Γ:Env}{σ:Sto}{K:AV->Sto->Prop}{x y:Operand}{t tn e sz bt:Nat}{z:Value}{oo s:Nat}{xs:List (List AV)}{k kn:IntKind}{c:Int}
    (ho:o.op=.call { callee:=.builtin .append,args:=#[x,y],argTypes:=#[t,tn] }) (ht:P.underlying t=some (.slice e)) (htn:P.underlying tn=some (.int kn)) (he:EO P e sz bt z)
    (hx:ev Γ x=.row oo s) (hs:σ[oo]?=some (.row s e sz xs)) (hy:ev Γ y=.lit (.int k c)) (h0c:0<=c) (hz1:z.cells.toList.all (fun v=>v.oneCell')=true) (hb:(xs.length+c.toNat)*bt<=140737488355328) (h63:xs.length+c.toNat<=maxLen)
    (hK:K (.row oo (s+1)) (σ.set oo (.row (s+1) e sz (xs++List.replicate c.toNat (z.cells.toList.map alit))))):SOp P N o Γ σ K:=by
  obtain⟨n,rfl⟩:∃n:Nat,c=n:=⟨c.toNat,by omega⟩
  simp only[Int.toNat_natCast]at hb h63 hK
  obtain⟨ys,hyse⟩:∃ys,ys=List.replicate n (z.cells.toList.map alit):=⟨_,rfl⟩
  obtain⟨vy,hvy⟩:∃vy,vy=(List.replicate n z.cells.toList).flatten:=⟨_,rfl⟩
  rw[<-hyse]at hK
  intro ρ w a next Q hf hr hn
  have ey:a.eval y=.int k n:=hf.lit hy
  obtain⟨i,hi,hz,hi1,hi2⟩:=he.parts
  have hzs:=he.2.1
  have hpos:=he.2.2
  have hyl:ys.length=n:=by rw[hyse,List.length_replicate]
  have hys:∀y∈ys,y.length=sz:=by
    intro y hy;rw[hyse,List.mem_replicate]at hy;rw[hy.2];simpa using hzs
  have hly:=yQ hys
  have Vy:VRl σ ρ w ys.flatten vy:=by rw[hyse,hvy];exact zbq _ _
  have hlv:=z1 _ _ Vy
  have oy:∀u∈vy,u.oneCell'=true:=by
    intro v hv
    rw[hvy]at hv
    simp only[List.mem_flatten,List.mem_replicate]at hv
    obtain⟨q,⟨_,rfl⟩,hv⟩:=hv
    exact(List.all_eq_true.1 hz1) v hv
  have hX:=hf.ev x
  rw[hx]at hX
  simp only[VR]at hX
  have hv:=(hX.2 _ _ _ _ hs).2 rfl
  have hlt:=hX.1
  obtain⟨h0,h00,hO⟩:=hr.obj _ _ hs
  have hlx:=yQ h0
  have all:∀q∈xs++ys,q.length=sz:=by intro q hq;simp only[List.mem_append]at hq;exact hq.elim (h0 q) (hys q)
  have fin:∀(v':Value) (w':World),(Builtin.append_ #[t,tn] o.type #[a.eval x,a.eval y]).run P w=.ok v' w'->w'.os=w.os->w'.tape=w.tape->w'.output=w.output->w.heap.size<=w'.heap.size ->
      (∀b,b<w.heap.size->blk (ρ oo)≠some b->w'.heap[b]?=w.heap[b]?)->(∀b,blk v'=some b->blk (ρ oo)=some b\/w.heap.size<=b) ->
      (((∃ad,v'=.slice ad 0 0)/\xs++ys=[])\/∃b cap,∃vs sp:List Value,v'=.slice (some ⟨b,0,none⟩) (xs++ys).length cap/\w'.heap[b]?=some (.cells (vs++sp).toArray e (0,0))/\(xs++ys).length<=cap/\(0<cap/\cap<=maxLen)/\(vs++sp).length=cap*sz/\(∀v∈vs,v.oneCell'=true)/\VRl σ ρ w (xs++ys).flatten vs) ->
      (execOp a.eval o).run P w=.ok (.value v') w'/\∃ρ',Rel (σ.set oo (.row (s+1) e sz (xs++ys))) ρ' w'/\VR (σ.set oo (.row (s+1) e sz (xs++ys))) ρ' w' (.row oo (s+1)) v'/\Step σ.length σ ρ w (σ.set oo (.row (s+1) e sz (xs++ys))) ρ' w':=by
    intro v' w' hrun os tp ou hsz hk hbl hrow
    refine⟨zds ho hrun,upd ρ oo v',?_⟩
    have hobj:ObjStep (some (.row s e sz xs)) (some (.row (s+1) e sz (xs++ys))) (ρ oo) v':=by simp only[ObjStep,true_and];omega
    have st:=v9 (σ:=σ) (ρ:=ρ) (w:=w) (w':=w') (r:=v') hs rfl hobj os tp ou hsz hk (fun b _=>hbl b)
    refine⟨zaf hr hs rfl hobj os tp ou hsz hk (fun b _=>hbl b) ⟨all,h00,?_⟩,?_,st⟩
    · rcases hrow with h | ⟨b,cap,vs,sp,k1,k2,k3,k4,k5,k6,k7⟩
      · exact .inl h
      · exact .inr ⟨b,cap,vs,sp,k1,k2,k3,k4,k5,k6,VRl.carry st _ _ k7⟩
    · simp only[VR,List.length_set]
      refine⟨hlt,fun s' e' sz' xs' hs'=>?_⟩
      rw[List.getElem?_set_self hlt]at hs'
      simp at hs'
      obtain⟨rfl,_⟩:=hs'
      exact⟨Nat.le_refl _,fun _=>by rw[yh]⟩
  have done:∀v' w',((execOp a.eval o).run P w=.ok (.value v') w'/\∃ρ',Rel (σ.set oo (.row (s+1) e sz (xs++ys))) ρ' w'/\VR (σ.set oo (.row (s+1) e sz (xs++ys))) ρ' w' (.row oo (s+1)) v'/\Step σ.length σ ρ w (σ.set oo (.row (s+1) e sz (xs++ys))) ρ' w')->o.wp P a w next Q:=by
    rintro v' w' ⟨h1,ρ',h2,h3,h4⟩
    unfold Oper.wp
    rw[h1,Oper.upon_value]
    exact hn _ _ _ _ _ hK h2 h3 h4
  by_cases hn0:n=0
  · subst hn0
    have hy0:ys=[]:=List.eq_nil_of_length_eq_zero hyl
    subst hy0
    rcases hO with⟨⟨ad,hO⟩,rfl⟩|⟨b,cap,vs,sp,hb',hh,hle,hm,hc,hone,hl⟩
    · refine done _ _ (fin (.slice ad 0 0) w ?_ rfl rfl rfl (Nat.le_refl _) (fun _ _ _ => rfl) (by cases ad <;> simp [blk]) (.inl ⟨⟨ad, rfl⟩, rfl⟩))
      rw[hv,hO,ey]
      exact kH t tn _ e i k kn ht htn hi ad 0 0 (Nat.le_refl _)
    · refine done _ _ (fin (.slice (some ⟨b, 0, none⟩) xs.length cap) w ?_ rfl rfl rfl (Nat.le_refl _) (fun _ _ _ => rfl) (fun c hc => .inl (by rw [hb']; exact hc)) (.inr ⟨b, cap, vs, sp, by simp, hh, by simpa using hle, hm, hc, hone, by simpa using hl⟩))
      rw[hv,hb',ey]
      exact kH t tn _ e i k kn ht htn hi _ _ _ hle
  · have hp : 0 < n := by omega
    have hbn:n*i.bytes<=140737488355328:=by
      rw[hi2];exact Nat.le_trans (Nat.mul_le_mul_right _ (Nat.le_add_left _ _)) hb
    have hb2:(xs.length+n)*i.bytes<=140737488355328:=by rw[hi2];exact hb
    have hspos:0<i.size:=by rw[hi1];exact hpos
    have grow:∀ax cx (vx:List Value),a.eval x=.slice ax xs.length cx->xs.length<=cx->vx.length=xs.length*sz->(Builtin.firstCells i.size xs.length (.slice ax xs.length cx)).run P w.drew=.ok vx.toArray w.drew->(∀u∈vx,u.oneCell'=true)->VRl σ ρ w xs.flatten vx->cx<xs.length+n->o.wp P a w next Q:=by
      intro ax cx vx ex lx hl1 hfc ox Vx gx
      have hlvx:=z1 _ _ Vx
      have h63':((xs.length+n:Nat):Int)<=9223372036854775807:=by simp only[maxLen]at h63;omega
      have hrun:=Go.Lib.run_append_grow_zeros (P:=P) w t tn o.type e i z k kn ht htn hi hz ax xs.length cx vx hfc n hp hspos gx h63' (by omega) (growslice_fits gx hb2)
      have hg1:=grownCap_ge w (xs.length+n) cx e
      have hg2:=grownCap_le_maxLen w (xs.length+n) cx e h63
      have hcl:(vx.toArray++Builtin.zeroCells z.cells n++Builtin.zeroCells z.cells (grownCap w (xs.length+n) cx e-(xs.length+n)))=(vx++vy++(Builtin.zeroCells z.cells (grownCap w (xs.length+n) cx e-(xs.length+n))).toList).toArray:=by
        apply Array.ext'
        simp[jr _ (show 0<z.cells.size by rw[hzs];exact hpos),hvy]
      rw[hcl]at hrun
      refine done _ _ (fin (.slice (some ⟨w.heap.size, 0, none⟩) (xs.length + n) (grownCap w (xs.length + n) cx e)) (w.drew.alloc (.cells (vx ++ vy ++ (Builtin.zeroCells z.cells (grownCap w (xs.length + n) cx e - (xs.length + n))).toList).toArray e)) (by rw [ex, ey]; exact hrun) rfl rfl rfl (by simp) (fun c hc _ => (by first | exact heap_alloc_old w.drew _ c hc | exact heap_alloc_old w.drew _ hc)) (fun c hc => .inr (by simp [blk] at hc; omega))
        (.inr ⟨w.heap.size,grownCap w (xs.length+n) cx e,vx++vy,(Builtin.zeroCells z.cells (grownCap w (xs.length+n) cx e-(xs.length+n))).toList,by simp[hyl],heap_alloc_new w.drew _,by simpa[hyl]using hg1,⟨by omega,hg2⟩,?_,(by intro u hu;simp only[List.mem_append]at hu;exact hu.elim (ox u) (oy u)),by rw[List.flatten_append];exact vv _ _ _ _ Vx Vy⟩))
      have hz3:(Builtin.zeroCells z.cells (grownCap w (xs.length+n) cx e-(xs.length+n))).toList.length=(grownCap w (xs.length+n) cx e-(xs.length+n))*sz:=by rw[Array.length_toList,size_zeroCells,hzs]
      rw[List.length_append,List.length_append,hl1,<-hlv,hly,hyl,hz3,<-Nat.add_mul,<-Nat.add_mul]
      congr 1;omega
    rcases hO with⟨⟨ad,hO⟩,rfl⟩|⟨b,cap,vs,sp,hb',hh,hle,hm,hc,hone,hl⟩
    · refine grow ad 0 [] (by rw [hv, hO]; rfl) (by simp) (by simp) ?_ (by simp) (by simp [VRl]) (by simpa using hp)
      cases ad<;>simp[Builtin.firstCells,loadCells,loadCellsFrom]
    · by_cases hroom:xs.length+n<=cap
      · have hlvs:=z1 _ _ hl
        have hfit:xs.length*i.size+vy.length<=(vs++sp).toArray.size:=by
          rw[hi1]
          simp only[List.size_toArray,hc]
          rw[<-hlv,hly,hyl,<-Nat.add_mul]
          exact Nat.mul_le_mul_right _ hroom
        have hrun:=kJ (P:=P) (w:=w) t tn o.type e i z k kn ht htn hi hz b xs.length cap (vs++sp).toArray hh n hp hspos (by rw[hzs];exact hpos) (by simp only[maxLen]at h63;omega) (by omega) (by rw[<-hvy];exact oy) hroom (by rw[<-hvy];exact hfit)
        rw[<-hvy]at hrun
        refine done _ _ (fin (.slice (some ⟨b, 0, none⟩) (xs.length + n) cap) (w.setRow b ((vs ++ sp).toArray.toList.take (xs.length * i.size) ++ vy ++ (vs ++ sp).toArray.toList.drop (xs.length * i.size + vy.length)).toArray) (by rw [hv, hb', ey]; exact hrun) rfl rfl rfl (by simp) (fun c hc hne => setRow_other w b c _ (fun e => hne (by rw [hb', e]; simp [blk]; omega))) (fun c hc => .inl (by rw [hb']; simp [blk] at hc ⊢; omega))
          (.inr ⟨b,cap,vs++vy,(sp.drop vy.length),by simp[hyl],?_,by simpa[hyl]using hroom,hm,?_,(by intro u hu;simp only[List.mem_append]at hu;exact hu.elim (hone u) (oy u)),by rw[List.flatten_append];exact vv _ _ _ _ hl Vy⟩))
        · rw[setRow_heap w b _ _ e _ hh]
          have e1:xs.length*i.size=vs.length:=by rw[hi1];omega
          simp only[e1,List.take_left]
          congr 3
          rw[List.drop_append]
          simp
        · have:=hc
          simp only[List.length_append,List.length_drop]at this ⊢
          have:ys.length*sz+vs.length<=cap*sz:=by
            rw[<-hlvs,hlx,<-Nat.add_mul];exact Nat.mul_le_mul_right _ (by omega)
          omega
      · refine grow (some ⟨b, 0, none⟩) cap vs (by rw [hv, hb']) hle (by rw [<- z1 _ _ hl, hlx]) ?_ hone hl (by omega)
        exact run_firstCells_some (P:=P) w.drew i.size xs.length ⟨b,0,none⟩ xs.length cap vs (by rw[hi1,<-z1 _ _ hl,hlx]) (fun j u hj=>by
          have:=zU hh j u (by rw[List.getElem?_append_left (List.getElem?_eq_some_iff.1 hj).1];exact hj)
          simpa using this)
theorem zci{P:Program}{N:Nat}{o:Oper}{Γ:Env}{σ σ2:Sto}{K:AV->Sto->Prop}{x y:Operand}{t tn e sz bt:Nat}{z:Value}{oo s:Nat}{xs xs2:List (List AV)}{zs:List AV}{k kn:IntKind}{c:Int}
    (ho:o.op=.call { callee:=.builtin .append,args:=#[x,y],argTypes:=#[t,tn] }) (ht:P.underlying t=some (.slice e)) (htn:P.underlying tn=some (.int kn)) (he:EO P e sz bt z)
    (hx:ev Γ x=.row oo s) (hs:σ[oo]?=some (.row s e sz xs)) (hy:ev Γ y=.lit (.int k c)) (h0c:0<=c) (hz1:z.cells.toList.all (fun v=>v.oneCell')=true) (hb:(xs.length+c.toNat)*bt<=140737488355328) (h63:xs.length+c.toNat<=9223372036854775807)
    (hz:z.cells.toList.map alit=zs) (hxs:xs++List.replicate c.toNat zs=xs2) (hσ:σ.set oo (.row (s+1) e sz xs2)=σ2) (hK:K (.row oo (s+1)) σ2):SOp P N o Γ σ K:=by
  subst hz;subst hxs;subst hσ
  exact zaT ho ht htn he hx hs hy h0c hz1 hb h63 hK
end Go.Lf
namespace Go.Proofs.YtdalcgfnlbofdaaGreatDoor
open Go Go.Lf Go.Proofs Go.ChangeShapes Go.WideShapes Go.ChangeAt Go.RowKit
attribute [local irreducible] Lf.rg Lf.ro Lf.PWp Lf.SOp Lf.ACall Lf.Scoped Lf.dg
set_option maxRecDepth 20000
set_option maxHeartbeats 4000000
abbrev zjQ: List (String × DataW Unit) := [("stickler/repr.forms", Rows.laid_stickler_repr_forms)]
theorem gForms: Tryz.prog.globalNamed "stickler/repr.forms" = some 0 := by kernel_rfl
theorem tForms: (Tryz.prog.globals[0]?).map (·.type)=some 288:=by kernel_rfl
theorem v4{W:World}{base:Nat}{spare:Nat->Bool}{held:Bool}{n:Nat}{cs:List Value}{a b:Int}{x:DataW Unit×List MemPlace}{enc:TypeId×Value->Unit}
    (h:DataW.trod enc Tryz.prog W base spare held n 287 cs=some x) (hx:x.1=.agg [.lit (.int .i64 a),.lit (.int .i64 b)]):cs=[.int .i64 a,.int .i64 b]:=by
  obtain⟨y0,y1,m,rfl,hl,h0,h1⟩:=trod_struct2 Tryz.underlying287 h
  obtain⟨k0,e0,f0,_⟩:=DataW.trod_int Tryz.underlying3 h0
  obtain⟨k1,e1,f1,_⟩:=DataW.trod_int Tryz.underlying3 h1
  simp only[DataW.agg.injEq,List.cons.injEq]at hx
  have c3:Tryz.prog.cellsOf 3=1:=ce3
  have c93:Tryz.prog.cellsOf 287=2:=ztK
  rw[c93]at hl
  match cs,hl with
  | [c0,c1],_=>
    simp[c3]at e0 e1
    rw[f0,f1]at hx
    simp at hx
    obtain⟨rfl,rfl⟩:=hx
    rw[e0,e1]
theorem zuA{α:Type}(cs:List α)(h:cs.length=12): cs=(cs.drop 0).take 2++((cs.drop 2).take 2++((cs.drop 4).take 2++((cs.drop 6).take 2++((cs.drop 8).take 2++(cs.drop 10).take 2)))):=by
 match cs,h with
 | [a,b,c,d,e,f,g,h,i,j,k,l],_=>rfl
theorem zhS{W:World}(h:laidMetH Tryz.prog zjQ W): GV [] rz0 W:=by
 rw[MakeChecks.laidMetH_plain _ _ _ (by kernel_rfl)]at h
 obtain⟨ps,⟨g0,t0,cs0,f0,p0,q0,hg0,ht0,hv0,hd0,_,_⟩,_,_⟩:=h
 obtain rfl:=Option.some.inj (gForms.symm.trans hg0)
 obtain rfl:=Option.some.inj (tForms.symm.trans ht0)
 obtain⟨xs,m1,rfl,hx1,hlen,hn6,hel⟩:=DataW.trod_array Tryz.underlying288 hd0
 have c93:Tryz.prog.cellsOf 287=2:=ztK
 have c94:Tryz.prog.cellsOf 288=12:=zxC
 rw[c94]at hlen
 simp only[c93]at hel
 have hcs:cs0.toList=[.int .i64 0,.int .i64 0,.int .i64 128,.int .i64 7,.int .i64 64,.int .i64 6,.int .i64 0,.int .i64 4,.int .i64 16,.int .i64 4,.int .i64 32,.int .i64 5]:=by
  match xs,hn6 with
  | [x0,x1,x2,x3,x4,x5],_=>
   simp only[Prod.mk.injEq,Rows.laid_stickler_repr_forms,List.map_cons,List.map_nil,DataW.agg.injEq,List.cons.injEq,and_true]at hx1
   obtain⟨⟨y0,y1,y2,y3,y4,y5⟩,_⟩:=hx1
   have e0:=v4 (hel 0 (by decide)) y0.symm
   have e1:=v4 (hel 1 (by decide)) y1.symm
   have e2:=v4 (hel 2 (by decide)) y2.symm
   have e3:=v4 (hel 3 (by decide)) y3.symm
   have e4:=v4 (hel 4 (by decide)) y4.symm
   have e5:=v4 (hel 5 (by decide)) y5.symm
   rw[zuA cs0.toList hlen]
   simp only[Nat.reduceMul]at e0 e1 e2 e3 e4 e5
   rw[e0,e1,e2,e3,e4,e5]
   rfl
 have hc:∀i v,cs0.toList[i]?=some v->W.cell? ⟨0,i,none⟩=some v:=by
  intro i v hv
  have:=World.var?_cell hg0 hv0 i
  rw[this,<-Array.getElem?_toList]
  exact hv
 intro g
 cases g with
 | succ g=>exact trivial
 | zero=>
  show VR [] rz0 W (.ip false _) _
  simp only[VR]
  have h0:=hc 0 (.int .i64 0) (by rw[hcs];rfl)
  refine⟨0,0,rfl,?_,?_,?_⟩
  ·have h1:=h0
   unfold World.cell? at h1
   cases hh:W.heap[0]? with
   | none=>simp[hh]at h1
   | some o=>exact(Array.getElem?_eq_some_iff.1 hh).1
  ·intro h
   rcases(Bset.mset h)with⟨o,ob,q,_⟩|h
   ·simp at q
   ·exact h
  ·simp only[List.map_cons,List.map_nil,PVs,PV]
   repeat'(first|exact trivial|refine⟨⟨_,hc _ _ (by rw[hcs];rfl),rfl,rfl⟩,?_⟩)
end Go.Proofs.YtdalcgfnlbofdaaGreatDoor
