/- The layer Lf: abstract values,stores and frames over the kit's weakest preconditions;generic in the program. -/
import Derived.Calls
import Derived.Deep.LoopGhost
import Derived.Laws.AppendOwn
import Derived.Below
import Derived.IntWalk
import Derived.Laws.MakeOwn
import Derived.Laws.Slices
import Derived.Laws.IdiomStrings
set_option linter.unusedVariables false
set_option linter.unusedSimpArgs false
namespace Go.Lf
structure Rz where
 val:Nat->Value
 fo:Nat->Prop
instance:CoeFun Rz (fun _=>Nat->Value):=⟨Rz.val⟩
inductive AV where
 | junk
 | lit (v:Value)
 | sl (full q:Bool) (xs:List (List AV))
 | row (o s:Nat)
 | vw (o s i n:Nat)
 | ptr (o k:Nat)
 | ep (o s i k:Nat)
 | ip (q:Bool) (xs:List AV)
 | ag (xs:List AV)
 | tu (xs:List AV)
 | gd (g:Bool) (x:AV)
 | fn (k:Nat) (xs:List AV)
 | mref (o:Nat)
inductive Ob where
 | gone
 | box (cs:List AV)
 | row (s e sz:Nat) (xs:List (List AV))
 | mp (I:Obj->Prop)
abbrev Sto:=List Ob
mutual
def PV(M:Nat->Prop)(w:World): AV->Value->Prop
  | .junk,_=>True
  | .lit x,v=>v=x
  | .sl full _ xs, v => ∃ a cap sz, v = .slice a xs.length cap /\ xs.length <= cap /\ cap <= maxLen /\ (full = true -> cap = xs.length) /\ (a = none -> cap = 0) /\ (∀ x ∈ xs, x.length = sz) /\
      (xs≠[]->∃b o,a=some ⟨b,o,none⟩/\b<w.heap.size/\¬M b/\PVss M w xs b o)
  | .ip _ xs,v=>∃b o,v=.pointer (some ⟨b,o,none⟩)/\b<w.heap.size/\¬M b/\PVs M w xs b o
  | .ag xs,v=>∃vs:List Value,v=.agg vs.toArray/\PVl M w xs vs
  | .tu xs,v=>∃vs:List Value,v=.tuple vs.toArray/\PVl M w xs vs
  | _,_=>False
def PVs(M:Nat->Prop)(w:World): List AV->Nat->Nat->Prop
 | [],_,_=>True
 | x::xs,b,o=>(∃v,w.cell? ⟨b,o,none⟩=some v/\v.oneCell'=true/\PV M w x v)/\PVs M w xs b (o+1)
def PVss(M:Nat->Prop)(w:World): List (List AV)->Nat->Nat->Prop
 | [],_,_=>True
 | x::xs,b,o=>PVs M w x b o/\PVss M w xs b (o+x.length)
def PVl(M:Nat->Prop)(w:World): List AV->List Value->Prop
 | [],[]=>True
 | x::xs,v::vs=>PV M w x v/\PVl M w xs vs
 | _,_=>False
end
def blk: Value->Option Nat
 | .pointer (some a)=>some a.block
 | .slice (some a) _ c=>if c=0 then none else some a.block
 | .map (some b)=>some b
 | _=>none
def Ob.live: Ob->Bool
 | .gone=>false
 | _=>true
def Own(σ:Sto)(ρ:Rz)(b:Nat): Prop:=∃o ob,σ[o]?=some ob/\ob.live=true/\blk (ρ o)=some b
def jN(σ:Sto)(ρ:Rz)(b:Nat): Prop:=Own σ ρ b\/ρ.fo b
def Bset(q:Bool)(σ:Sto)(ρ:Rz)(b:Nat): Prop:=if q=true then Own σ ρ b else jN σ ρ b
theorem Bset.mset{q:Bool}{σ:Sto}{ρ:Rz}{b:Nat}(h:Bset q σ ρ b): jN σ ρ b:=by
 unfold Bset at h;split at h
 ·exact .inl h
 ·exact h
theorem Own.bset{q:Bool}{σ:Sto}{ρ:Rz}{b:Nat}(h:Own σ ρ b): Bset q σ ρ b:=by
 unfold Bset;split
 ·exact h
 ·exact .inl h
mutual
def scp(n:Nat): AV->Bool
 | .row o _=>decide (o<n)
 | .vw o _ _ _=>decide (o<n)
 | .ptr o _=>decide (o<n)
 | .ep o _ _ _=>decide (o<n)
 | .ag xs=>zad n xs
 | .tu xs=>zad n xs
 | .fn _ xs=>zad n xs
 | .mref o=>decide (o<n)
 | .gd _ x=>scp n x
 | _=>true
def zad(n:Nat): List AV->Bool
 | []=>true
 | x::xs=>scp n x && zad n xs
end
mutual
theorem zaW{n m:Nat}(h:n<=m): ∀x,scp n x=true->scp m x=true
 | .junk,_=>rfl
 | .lit _,_=>rfl
 | .sl _ _ _,_=>rfl
 | .ip _ _,_=>rfl
 | .vw o _ _ _,k=>by simp[scp]at k ⊢;omega
 | .row o _,k=>by simp[scp]at k ⊢;omega
 | .ptr o _,k=>by simp[scp]at k ⊢;omega
 | .ep o _ _ _,k=>by simp[scp]at k ⊢;omega
 | .ag xs,k=>by simp only[scp]at k ⊢;exact jO h xs k
 | .tu xs,k=>by simp only[scp]at k ⊢;exact jO h xs k
 | .fn _ xs,k=>by simp only[scp]at k ⊢;exact jO h xs k
 | .mref o,k=>by simp[scp]at k ⊢;omega
 | .gd _ x,k=>by simp only[scp]at k ⊢;exact zaW h x k
theorem jO{n m:Nat}(h:n<=m): ∀xs,zad n xs=true->zad m xs=true
 | [],_=>rfl
 | x::xs,k=>by simp only[zad,Bool.and_eq_true]at k ⊢;exact⟨zaW h x k.1,jO h xs k.2⟩
end
mutual
def VR(σ:Sto)(ρ:Rz)(w:World): AV->Value->Prop
  | .row o s,v=>o<σ.length/\∀s' e sz xs,σ[o]?=some (.row s' e sz xs)->s<=s'/\(s'=s->v=ρ o)
  | .vw o s i n, v => o < σ.length /\ ∀ s' e sz xs, σ[o]? = some (.row s' e sz xs) -> s <= s' /\ (s' = s -> ∃ a c, v = .slice a n c /\ n <= c /\ c <= maxLen /\ (a = none -> c = 0) /\
      (n≠0->∃b N C,ρ o=.slice (some ⟨b,0,none⟩) N C/\i+n<=N/\a=some ⟨b,i*sz,none⟩))
  | .ptr o k,v=>o<σ.length/\∀cs,σ[o]?=some (.box cs)->∃b,ρ o=.pointer (some ⟨b,0,none⟩)/\v=.pointer (some ⟨b,k,none⟩)
  | .ep o s i k,v=>o<σ.length/\∀s' e sz xs,σ[o]?=some (.row s' e sz xs)->s<=s'/\(s'=s->∃b n c,ρ o=.slice (some ⟨b,0,none⟩) n c/\v=.pointer (some ⟨b,i*sz+k,none⟩))
  | .ag xs,v=>∃vs:List Value,v=.agg vs.toArray/\VRl σ ρ w xs vs
  | .tu xs,v=>∃vs:List Value,v=.tuple vs.toArray/\VRl σ ρ w xs vs
  | .fn k xs,v=>∃vs:List Value,v=.func (.func k) #[] vs.toArray/\VRl σ ρ w xs vs
  | .mref o,v=>o<σ.length/\∀I,σ[o]?=some (.mp I)->v=ρ o
  | .gd g x,v=>scp σ.length x=true/\(g=true->VR σ ρ w x v)/\(g=false->v=undef)
  | .junk,_=>True
  | .lit x,v=>v=x
  | .sl full q xs, v => ∃ a cap sz, v = .slice a xs.length cap /\ xs.length <= cap /\ cap <= maxLen /\ (full = true -> cap = xs.length) /\ (a = none -> cap = 0) /\ (∀ x ∈ xs, x.length = sz) /\
      (xs≠[]->∃b o,a=some ⟨b,o,none⟩/\b<w.heap.size/\¬Bset q σ ρ b/\PVss (jN σ ρ) w xs b o)
  | .ip q xs,v=>∃b o,v=.pointer (some ⟨b,o,none⟩)/\b<w.heap.size/\¬Bset q σ ρ b/\PVs (jN σ ρ) w xs b o
def VRl(σ:Sto)(ρ:Rz)(w:World): List AV->List Value->Prop
 | [],[]=>True
 | x::xs,v::vs=>VR σ ρ w x v/\VRl σ ρ w xs vs
 | _,_=>False
end
def ObjStep: Option Ob->Option Ob->Value->Value->Prop
 | _,some .gone,_,_=>True
 | some (.box cs),some (.box cs'),r,r'=>r'=r/\cs'.length=cs.length
 | some (.row s e sz _),some (.row s' e' sz' _),r,r'=>e'=e/\sz'=sz/\s<=s'/\(s'=s->r'=r)
 | some (.mp _),some (.mp _),r,r'=>r'=r
 | _,_,_,_=>False
theorem ObjStep.refl(x:Option Ob)(r:Value)(h:x≠none): ObjStep x x r r:=by
 cases x with
 | none=>exact absurd rfl h
 | some x=>cases x<;>simp[ObjStep]
theorem ObjStep.trans{x y z:Option Ob}{r r' r'':Value}(h:ObjStep x y r r')(k:ObjStep y z r' r''): ObjStep x z r r'':=by
 cases z with
 | none=>cases y<;>simp[ObjStep]at k
 | some z=>
  cases z with
  | gone=>cases x<;>simp[ObjStep]
  | box cs=>
   rcases y with _|y
   ·simp[ObjStep]at k
   ·cases y<;>simp[ObjStep]at k
    rcases x with _|x
    ·simp[ObjStep]at h
    ·cases x<;>simp[ObjStep]at h ⊢
     exact⟨k.1.trans h.1,k.2.trans h.2⟩
  | row s e sz xs=>
   rcases y with _|y
   ·simp[ObjStep]at k
   ·cases y<;>simp[ObjStep]at k
    rcases x with _|x
    ·simp[ObjStep]at h
    ·cases x<;>simp[ObjStep]at h ⊢
     refine⟨k.1.trans h.1,k.2.1.trans h.2.1,Nat.le_trans h.2.2.1 k.2.2.1,fun e=>?_⟩
     have h1:=h.2.2.1
     have k1:=k.2.2.1
     exact(k.2.2.2 (by omega)).trans (h.2.2.2 (by omega))
  | mp I=>
   rcases y with _|y
   ·simp[ObjStep]at k
   ·cases y<;>simp[ObjStep]at k
    rcases x with _|x
    ·simp[ObjStep]at h
    ·cases x<;>simp[ObjStep]at h ⊢
     exact k.trans h
structure Step(n:Nat)(σ:Sto)(ρ:Rz)(w:World)(σ':Sto)(ρ':Rz)(w':World): Prop where
 os:w'.os=w.os
 tape:w'.tape=w.tape
 output:w'.output=w.output
 size:w.heap.size<=w'.heap.size
 kept:∀b,b<w.heap.size->¬Own σ ρ b->w'.heap[b]?=w.heap[b]?
 own:∀b,Own σ' ρ' b->Own σ ρ b\/w.heap.size<=b
 len:n<=σ.length
 len':n<=σ'.length
 obj:∀o,o<n->ObjStep σ[o]? σ'[o]? (ρ o) (ρ' o)
 fo:ρ'.fo=ρ.fo
theorem Step.mset{n:Nat}{σ:Sto}{ρ:Rz}{w:World}{σ':Sto}{ρ':Rz}{w':World}(st:Step n σ ρ w σ' ρ' w'): ∀b,jN σ' ρ' b->jN σ ρ b\/w.heap.size<=b:=by
 rintro b (h|h)
 ·exact(st.own b h).imp .inl id
 ·rw[st.fo]at h;exact .inl (.inr h)
theorem Step.bset{n:Nat}{σ:Sto}{ρ:Rz}{w:World}{σ':Sto}{ρ':Rz}{w':World}(st:Step n σ ρ w σ' ρ' w')(q:Bool): ∀b,Bset q σ' ρ' b->Bset q σ ρ b\/w.heap.size<=b:=by
 cases q
 ·exact st.mset
 ·exact st.own
theorem Step.refl(n:Nat)(σ:Sto)(ρ:Rz)(w:World)(h:n<=σ.length): Step n σ ρ w σ ρ w:=
 ⟨rfl,rfl,rfl,Nat.le_refl _,fun _ _ _=>rfl,fun _ h=>.inl h,h,h,fun o ho=>.refl _ _ (by simp;omega),rfl⟩
theorem Step.trans{n:Nat}{σ σ' σ'':Sto}{ρ ρ' ρ'':Rz}{w w' w'':World}(h:Step n σ ρ w σ' ρ' w')(k:Step n σ' ρ' w' σ'' ρ'' w''): Step n σ ρ w σ'' ρ'' w'':=by
 refine⟨k.os.trans h.os,k.tape.trans h.tape,k.output.trans h.output,Nat.le_trans h.size k.size,fun b hb hm=>?_,fun b hb=>?_,h.len,k.len',fun o ho=>(h.obj o ho).trans (k.obj o ho),k.fo.trans h.fo⟩
 ·have hs:=h.size
  rw[k.kept b (by omega) (fun hm'=>(h.own b hm').elim hm (fun hle=>absurd hle (by omega))),h.kept b hb hm]
 ·have hs:=h.size
  rcases k.own b hb with h1|h1
  ·exact h.own b h1
  ·exact .inr (by omega)
theorem Step.mono{n m:Nat}{σ σ':Sto}{ρ ρ':Rz}{w w':World}(h:Step n σ ρ w σ' ρ' w')(hm:m<=n): Step m σ ρ w σ' ρ' w':=
 ⟨h.os,h.tape,h.output,h.size,h.kept,h.own,Nat.le_trans hm h.len,Nat.le_trans hm h.len',fun o ho=>h.obj o (Nat.lt_of_lt_of_le ho hm),h.fo⟩
/-! carrying -/
section carry
variable {M M' : Nat -> Prop} {w w' : World}
mutual
theorem PV.carry(hz:w.heap.size<=w'.heap.size)(hk:∀b,b<w.heap.size->¬M b->w'.heap[b]?=w.heap[b]?)(hm:∀b,M' b->M b\/w.heap.size<=b):
    ∀(x:AV) (v:Value),PV M w x v->PV M' w' x v
  | .junk,_,_=>by simp[PV]
  | .lit _,_,h=>by simpa[PV]using h
  | .sl full _ xs,v,h=>by
    simp only[PV]at h ⊢
    obtain⟨a,cap,sz,h1,h2,h3,h4,h5,h6,h7⟩:=h
    refine⟨a,cap,sz,h1,h2,h3,h4,h5,h6,fun hx=>?_⟩
    obtain⟨b,o,ha,hbs,hb,hp⟩:=h7 hx
    exact⟨b,o,ha,by omega,fun hmb=>(hm b hmb).elim hb (fun hle=>absurd hle (by omega)),PVss.carry hz hk hm xs b o (hk b hbs hb) hp⟩
  | .ip _ xs,v,h=>by
    simp only[PV]at h ⊢
    obtain⟨b,o,ha,hbs,hb,hp⟩:=h
    exact⟨b,o,ha,by omega,fun hmb=>(hm b hmb).elim hb (fun hle=>absurd hle (by omega)),PVs.carry hz hk hm xs b o (hk b hbs hb) hp⟩
  | .ag xs,v,h=>by
    simp only[PV]at h ⊢
    obtain⟨vs,h1,h2⟩:=h
    exact⟨vs,h1,PVl.carry hz hk hm xs vs h2⟩
  | .tu xs,v,h=>by
    simp only[PV]at h ⊢
    obtain⟨vs,h1,h2⟩:=h
    exact⟨vs,h1,PVl.carry hz hk hm xs vs h2⟩
  | .row _ _,_,h=>by simp[PV]at h
  | .vw _ _ _ _,_,h=>by simp[PV]at h
  | .ptr _ _,_,h=>by simp[PV]at h
  | .ep _ _ _ _,_,h=>by simp[PV]at h
  | .fn _ _,_,h=>by simp[PV]at h
  | .mref _,_,h=>by simp[PV]at h
  | .gd _ _,_,h=>by simp[PV]at h
theorem PVs.carry(hz:w.heap.size<=w'.heap.size)(hk:∀b,b<w.heap.size->¬M b->w'.heap[b]?=w.heap[b]?)(hm:∀b,M' b->M b\/w.heap.size<=b):
    ∀(xs:List AV) (b o:Nat),w'.heap[b]?=w.heap[b]?->PVs M w xs b o->PVs M' w' xs b o
  | [],_,_,_,_=>by simp[PVs]
  | x::xs,b,o,hb,h=>by
    simp only[PVs]at h ⊢
    obtain⟨⟨v,hc,h1,hv⟩,ht⟩:=h
    exact⟨⟨v,by rw[World.cell?_of_block (w:=w) hb];exact hc,h1,PV.carry hz hk hm x v hv⟩,PVs.carry hz hk hm xs b (o+1) hb ht⟩
theorem PVss.carry(hz:w.heap.size<=w'.heap.size)(hk:∀b,b<w.heap.size->¬M b->w'.heap[b]?=w.heap[b]?)(hm:∀b,M' b->M b\/w.heap.size<=b):
    ∀(xs:List (List AV)) (b o:Nat),w'.heap[b]?=w.heap[b]?->PVss M w xs b o->PVss M' w' xs b o
  | [],_,_,_,_=>by simp[PVss]
  | x::xs,b,o,hb,h=>by
    simp only[PVss]at h ⊢
    exact⟨PVs.carry hz hk hm x b o hb h.1,PVss.carry hz hk hm xs b (o+x.length) hb h.2⟩
theorem PVl.carry(hz:w.heap.size<=w'.heap.size)(hk:∀b,b<w.heap.size->¬M b->w'.heap[b]?=w.heap[b]?)(hm:∀b,M' b->M b\/w.heap.size<=b):
    ∀(xs:List AV) (vs:List Value),PVl M w xs vs->PVl M' w' xs vs
  | [],[],_=>by simp[PVl]
  | [],_::_,h=>by simp[PVl]at h
  | _::_,[],h=>by simp[PVl]at h
  | x::xs,v::vs,h=>by
    simp only[PVl]at h ⊢
    exact⟨PV.carry hz hk hm x v h.1,PVl.carry hz hk hm xs vs h.2⟩
end
end carry
section carry2
variable {σ σ' : Sto} {ρ ρ' : Rz} {w w' : World}
mutual
theorem VR.carry(st:Step σ.length σ ρ w σ' ρ' w'): ∀(x:AV) (v:Value),VR σ ρ w x v->VR σ' ρ' w' x v
 | .junk,_,_=>by simp[VR]
 | .lit _,_,h=>by simpa[VR]using h
 | .sl full q xs,v,h=>by
  simp only[VR]at h ⊢
  obtain⟨a,cap,sz,h1,h2,h3,h4,h5,h6,h7⟩:=h
  refine⟨a,cap,sz,h1,h2,h3,h4,h5,h6,fun hx=>?_⟩
  obtain⟨b,o,ha,hbs,hb,hp⟩:=h7 hx
  have:=st.size
  exact⟨b,o,ha,by omega,fun hmb=>(st.bset q b hmb).elim hb (fun hle=>absurd hle (by omega)),PVss.carry st.size (fun b hb hm=>st.kept b hb fun ho=>hm (.inl ho)) st.mset xs b o (st.kept b hbs fun ho=>hb ho.bset) hp⟩
 | .ip q xs,v,h=>by
  simp only[VR]at h ⊢
  obtain⟨b,o,ha,hbs,hb,hp⟩:=h
  have:=st.size
  exact⟨b,o,ha,by omega,fun hmb=>(st.bset q b hmb).elim hb (fun hle=>absurd hle (by omega)),PVs.carry st.size (fun b hb hm=>st.kept b hb fun ho=>hm (.inl ho)) st.mset xs b o (st.kept b hbs fun ho=>hb ho.bset) hp⟩
 | .vw o s i n,v,h=>by
  simp only[VR]at h ⊢
  obtain⟨h1,h2⟩:=h
  refine⟨Nat.lt_of_lt_of_le h1 st.len',fun s' e sz xs hs=>?_⟩
  have ho:=st.obj o h1
  rw[hs]at ho
  rcases hσ:σ[o]? with _|ob
  ·rw[hσ]at ho;simp[ObjStep]at ho
  ·rw[hσ]at ho
   cases ob<;>simp[ObjStep]at ho
   obtain⟨rfl,rfl,hle,heq⟩:=ho
   obtain⟨k1,k2⟩:=h2 _ _ _ _ hσ
   refine⟨by omega,fun e=>?_⟩
   rw[heq (by omega)]
   exact k2 (by omega)
 | .ag xs,v,h=>by
  simp only[VR]at h ⊢
  obtain⟨vs,h1,h2⟩:=h
  exact⟨vs,h1,VRl.carry st xs vs h2⟩
 | .fn _ xs,v,h=>by
  simp only[VR]at h ⊢
  obtain⟨vs,h1,h2⟩:=h
  exact⟨vs,h1,VRl.carry st xs vs h2⟩
 | .mref o,v,h=>by
  simp only[VR]at h ⊢
  obtain⟨h1,h2⟩:=h
  refine⟨Nat.lt_of_lt_of_le h1 st.len',fun I hs=>?_⟩
  have ho:=st.obj o h1
  rw[hs]at ho
  rcases hσ:σ[o]? with _|ob
  ·rw[hσ]at ho;simp[ObjStep]at ho
  ·rw[hσ]at ho
   cases ob<;>simp[ObjStep]at ho
   rw[ho]
   exact h2 _ hσ
 | .tu xs,v,h=>by
  simp only[VR]at h ⊢
  obtain⟨vs,h1,h2⟩:=h
  exact⟨vs,h1,VRl.carry st xs vs h2⟩
 | .row o s,v,h=>by
  simp only[VR]at h ⊢
  obtain⟨h1,h2⟩:=h
  refine⟨Nat.lt_of_lt_of_le h1 st.len',fun s' e sz xs hs=>?_⟩
  have ho:=st.obj o h1
  rw[hs]at ho
  rcases hσ:σ[o]? with _|ob
  ·rw[hσ]at ho;simp[ObjStep]at ho
  ·rw[hσ]at ho
   cases ob<;>simp[ObjStep]at ho
   obtain⟨rfl,rfl,hle,heq⟩:=ho
   obtain⟨k1,k2⟩:=h2 _ _ _ _ hσ
   refine⟨by omega,fun e=>?_⟩
   rw[heq (by omega)]
   exact k2 (by omega)
 | .ptr o k,v,h=>by
  simp only[VR]at h ⊢
  obtain⟨h1,h2⟩:=h
  refine⟨Nat.lt_of_lt_of_le h1 st.len',fun cs hs=>?_⟩
  have ho:=st.obj o h1
  rw[hs]at ho
  rcases hσ:σ[o]? with _|ob
  ·rw[hσ]at ho;simp[ObjStep]at ho
  ·rw[hσ]at ho
   cases ob<;>simp[ObjStep]at ho
   rw[ho.1]
   exact h2 _ hσ
 | .ep o s i k,v,h=>by
  simp only[VR]at h ⊢
  obtain⟨h1,h2⟩:=h
  refine⟨Nat.lt_of_lt_of_le h1 st.len',fun s' e sz xs hs=>?_⟩
  have ho:=st.obj o h1
  rw[hs]at ho
  rcases hσ:σ[o]? with _|ob
  ·rw[hσ]at ho;simp[ObjStep]at ho
  ·rw[hσ]at ho
   cases ob<;>simp[ObjStep]at ho
   obtain⟨rfl,rfl,hle,heq⟩:=ho
   obtain⟨k1,k2⟩:=h2 _ _ _ _ hσ
   refine⟨by omega,fun e=>?_⟩
   rw[heq (by omega)]
   exact k2 (by omega)
 | .gd g x,v,h=>by
  simp only[VR]at h ⊢
  exact⟨zaW st.len' x h.1,fun hg=>VR.carry st x v (h.2.1 hg),h.2.2⟩
theorem VRl.carry(st:Step σ.length σ ρ w σ' ρ' w'): ∀(xs:List AV) (vs:List Value),VRl σ ρ w xs vs->VRl σ' ρ' w' xs vs
 | [],[],_=>by simp[VRl]
 | [],_::_,h=>by simp[VRl]at h
 | _::_,[],h=>by simp[VRl]at h
 | x::xs,v::vs,h=>by
  simp only[VRl]at h ⊢
  exact⟨VR.carry st x v h.1,VRl.carry st xs vs h.2⟩
end
end carry2
def RelO(σ:Sto)(ρ:Rz)(w:World)(r:Value): Ob->Prop
  | .gone=>True
  | .mp I=>∃b ob,r=.map (some b)/\w.heap[b]?=some ob/\I ob
  | .box cs=>∃b ty,∃vs:List Value,r=.pointer (some ⟨b,0,none⟩)/\w.heap[b]?=some (.cells vs.toArray ty (0,0))/\(∀v∈vs,v.oneCell'=true)/\VRl σ ρ w cs vs
  | .row _ e sz xs => (∀ x ∈ xs, x.length = sz) /\ 0 < sz /\ (((∃ a, r = .slice a 0 0) /\ xs = []) \/
      ∃b cap,∃vs sp:List Value,r=.slice (some ⟨b,0,none⟩) xs.length cap/\w.heap[b]?=some (.cells (vs++sp).toArray e (0,0))/\xs.length<=cap/\(0<cap/\cap<=maxLen) /\
        (vs++sp).length=cap*sz/\(∀v∈vs,v.oneCell'=true)/\VRl σ ρ w xs.flatten vs)
structure Rel(σ:Sto)(ρ:Rz)(w:World): Prop where
 obj:∀o ob,σ[o]?=some ob->RelO σ ρ w (ρ o) ob
 inj:∀o o' ob ob' b,σ[o]?=some ob->σ[o']?=some ob'->ob.live=true->ob'.live=true->blk (ρ o)=some b->blk (ρ o')=some b->o=o'
 fol:∀b,ρ.fo b->b<w.heap.size
 dis:∀b,Own σ ρ b->¬ρ.fo b
theorem RelO.carry{σ σ':Sto}{ρ ρ':Rz}{w w':World}(st:Step σ.length σ ρ w σ' ρ' w'){r:Value}{ob:Ob}
    (hb:∀b,blk r=some b->w'.heap[b]?=w.heap[b]?) (h:RelO σ ρ w r ob):RelO σ' ρ' w' r ob:=by
  cases ob with
  | gone=>trivial
  | mp I=>
    obtain⟨b,x,rfl,h2,h3⟩:=h
    exact⟨b,x,rfl,by rw[hb b rfl];exact h2,h3⟩
  | box cs=>
    obtain⟨b,ty,vs,rfl,h2,h3,h4⟩:=h
    exact⟨b,ty,vs,rfl,by rw[hb b rfl];exact h2,h3,VRl.carry st _ _ h4⟩
  | row s e sz xs=>
    obtain⟨h0,h00,h⟩:=h
    refine⟨h0,h00,?_⟩
    rcases h with h|⟨b,cap,vs,sp,rfl,h2,h3,h4,h5,h6,h7⟩
    · exact .inl h
    · exact .inr ⟨b,cap,vs,sp,rfl,by rw[hb b (by simp[blk];omega)];exact h2,h3,h4,h5,h6,VRl.carry st _ _ h7⟩
abbrev Env:=List (Nat×AV)
def get: Env->Nat->AV
 | [],_=>.junk
 | (j,x)::r,i=>if i=j then x else get r i
def put(Γ:Env)(d:Option Nat)(x:AV): Env:=match d with|some d=>(d,x)::Γ|none=>Γ
def GT: List (Nat×List Value):=[(0,[.int .i64 0,.int .i64 0,.int .i64 128,.int .i64 7,.int .i64 64,.int .i64 6,.int .i64 0,.int .i64 4,.int .i64 16,.int .i64 4,.int .i64 32,.int .i64 5])]
def zeK(g:Nat): AV:=match GT.find? (fun p=>p.1 == g)with|some p=>.ip false (p.2.map .lit)|none=>.junk
def GV(σ:Sto)(ρ:Rz)(w:World): Prop:=∀g,VR σ ρ w (zeK g) (.pointer (some ⟨g,0,none⟩))
theorem GV.carry{σ σ':Sto}{ρ ρ':Rz}{w w':World}(h:GV σ ρ w)(st:Step σ.length σ ρ w σ' ρ' w'): GV σ' ρ' w':=fun g=>VR.carry st _ _ (h g)
def FR(N:Nat)(Γ:Env)(σ:Sto)(ρ:Rz)(w:World)(a:Act): Prop:=
 a.tmps.size=N/\(a.defers=[]/\GV σ ρ w)/\∀i,VR σ ρ w (get Γ i) (a.tmps.getD i undef)
theorem FR.carry{N:Nat}{Γ:Env}{σ σ':Sto}{ρ ρ':Rz}{w w':World}{a:Act}(h:FR N Γ σ ρ w a)(st:Step σ.length σ ρ w σ' ρ' w'): FR N Γ σ' ρ' w' a:=
 ⟨h.1,⟨h.2.1.1,h.2.1.2.carry st⟩,fun i=>VR.carry st _ _ (h.2.2 i)⟩
theorem FR.put{N:Nat}{Γ:Env}{σ:Sto}{ρ:Rz}{w:World}{a:Act}(h:FR N Γ σ ρ w a)(d:Option Nat)(hd:∀i,d=some i->i<N)(x:AV)(v:Value)(hv:VR σ ρ w x v):
    FR N (put Γ d x) σ ρ w (a.put d v):=by
  cases d with
  | none=>exact h
  | some d=>
    refine⟨by simpa[Act.put]using h.1,h.2.1,fun i=>?_⟩
    simp only[Lf.put,get,Act.put]
    have h1:=h.1
    have hd:=hd d rfl
    by_cases hi:i=d
    · subst hi
      simp[Array.getD_eq_getD_getElem?,h1,hd,hv]
    · have:=h.2.2 i
      simp only[if_neg hi,Array.getD_eq_getD_getElem?]at this ⊢
      rw[Array.getElem?_setIfInBounds_ne (by omega)]
      exact this
def alit: Value->AV
 | .slice none 0 0=>.sl true false []
 | v=>.lit v
theorem zh9{σ:Sto}{ρ:Rz}{w:World}(v:Value): VR σ ρ w (alit v) v:=by
 unfold alit
 split
 ·simp only[VR]
  exact⟨none,0,0,rfl,Nat.le_refl _,by simp,by simp,by simp,by simp,fun h=>absurd rfl h⟩
 ·simp[VR]
def ev(Γ:Env): Operand->AV
 | .tmp t=>get Γ t
 | .const v=>match v with|.agg cs=>.ag (cs.toList.map alit)|v=>alit v
 | .global g=>zeK g
 | .func f=>.lit (.func (.func f) #[] #[])
theorem jP(σ:Sto)(ρ:Rz)(w:World): ∀cs:List Value,VRl σ ρ w (cs.map alit) cs
 | []=>by simp[VRl]
 | c::cs=>by simp only[List.map_cons,VRl];exact⟨zh9 c,jP σ ρ w cs⟩
theorem FR.ev{N:Nat}{Γ:Env}{σ:Sto}{ρ:Rz}{w:World}{a:Act}(h:FR N Γ σ ρ w a)(x:Operand): VR σ ρ w (Lf.ev Γ x) (a.eval x):=by
 cases x with
 | tmp t=>exact h.2.2 t
 | const v=>
  cases v with
  | agg cs=>simp only[Lf.ev,VR,Act.eval];exact⟨cs.toList,by simp,jP σ ρ w _⟩
  | _=>simp only[Lf.ev,Act.eval];exact zh9 _
 | global g=>exact h.2.1.2 g
 | func f=>simp[Lf.ev,VR,Act.eval]
theorem FR.lit{N:Nat}{Γ:Env}{σ:Sto}{ρ:Rz}{w:World}{a:Act}(h:FR N Γ σ ρ w a){x:Operand}{v:Value}(hx:Lf.ev Γ x=.lit v): a.eval x=v:=by
 have:=h.ev x
 rw[hx]at this
 simpa[VR]using this
def SOp(P:Program)(N:Nat)(o:Oper)(Γ:Env)(σ:Sto)(K:AV->Sto->Prop): Prop:=
 ∀(ρ:Rz) (w:World) (a:Act) (next:Act->World->Prop) (Q:Exit->Act->World->Prop),FR N Γ σ ρ w a->Rel σ ρ w ->
  (∀x σ' ρ' w' v,K x σ'->Rel σ' ρ' w'->VR σ' ρ' w' x v->Step σ.length σ ρ w σ' ρ' w'->next (a.put o.dst v) w')->o.wp P a w next Q
theorem SOp.mono{P:Program}{N:Nat}{o:Oper}{Γ:Env}{σ:Sto}{K K':AV->Sto->Prop}(h:SOp P N o Γ σ K)(hk:∀x σ',K x σ'->K' x σ'): SOp P N o Γ σ K':=
 fun ρ w a next Q hf hr hn=>h ρ w a next Q hf hr fun x σ' ρ' w' v hK=>hn x σ' ρ' w' v (hk _ _ hK)
theorem SOp.pure{P:Program}{N:Nat}{o:Oper}{Γ:Env}{σ:Sto}{K:AV->Sto->Prop}(x:AV)
    (h:∀ρ w a,FR N Γ σ ρ w a->Rel σ ρ w->∃v,(execOp a.eval o).run P w=.ok (.value v) w/\VR σ ρ w x v) (hK:K x σ):SOp P N o Γ σ K:=by
  intro ρ w a next Q hf hr hn
  obtain⟨v,h1,h2⟩:=h ρ w a hf hr
  unfold Oper.wp
  rw[h1,Oper.upon_value]
  exact hn x σ ρ w v hK hr h2 (.refl _ _ _ _ (Nat.le_refl _))
def PWp(P:Program)(N n:Nat)(c:Code)(Γ:Env)(σ:Sto)(Q:Exit->Env->Sto->Prop): Prop:=
 ∀(ρ:Rz) (w:World) (a:Act),n<=σ.length->FR N Γ σ ρ w a->Rel σ ρ w ->
  c.wp P (fun e a' w'=>∃Γ' σ' ρ',Q e Γ' σ'/\FR N Γ' σ' ρ' w' a'/\Rel σ' ρ' w'/\Step n σ ρ w σ' ρ' w') a w
section
variable {P : Program} {N n : Nat} {Γ : Env} {σ : Sto} {Q : Exit -> Env -> Sto -> Prop}
theorem PWp.mono{c:Code}{Q':Exit->Env->Sto->Prop}(h:PWp P N n c Γ σ Q)(hq:∀e Γ σ,Q e Γ σ->Q' e Γ σ): PWp P N n c Γ σ Q':=
 fun ρ w a hn hf hr=>wp_mono (h ρ w a hn hf hr) fun _ _ _ ⟨Γ',σ',ρ',q,r⟩=>⟨Γ',σ',ρ',hq _ _ _ q,r⟩
def yk(K:Env->Sto->Prop)(Q:Exit->Env->Sto->Prop): Exit->Env->Sto->Prop
 | .normal,Γ,σ=>K Γ σ
 | e,Γ,σ=>Q e Γ σ
def yJ(id:Nat)(Q:Exit->Env->Sto->Prop): Exit->Env->Sto->Prop
 | .exit i,Γ,σ=>if i=id then Q .normal Γ σ else Q (.exit i) Γ σ
 | e,Γ,σ=>Q e Γ σ
theorem zcP(h:Q .normal Γ σ): PWp P N n .skip Γ σ Q:=fun _ _ _ hn hf hr=>wp_skip ⟨_,_,_,h,hf,hr,.refl _ _ _ _ hn⟩
theorem zfO{id:Nat}(h:Q (.exit id) Γ σ): PWp P N n (.exit id) Γ σ Q:=fun _ _ _ hn hf hr=>wp_exit ⟨_,_,_,h,hf,hr,.refl _ _ _ _ hn⟩
theorem zaX{l:Nat}(h:Q (.goto l) Γ σ): PWp P N n (.goto l) Γ σ Q:=fun _ _ _ hn hf hr=>wp_goto ⟨_,_,_,h,hf,hr,.refl _ _ _ _ hn⟩
theorem zbg{l:Nat}(h:Q .normal Γ σ): PWp P N n (.label l) Γ σ Q:=fun _ _ _ hn hf hr=>wp_label ⟨_,_,_,h,hf,hr,.refl _ _ _ _ hn⟩
theorem zcQ(h:Q .ret Γ σ): PWp P N n .ret Γ σ Q:=fun _ _ _ hn hf hr=>wp_ret ⟨_,_,_,h,hf,hr,.refl _ _ _ _ hn⟩
theorem zoS{x y:Code}(h:PWp P N n x Γ σ (yk (fun Γ σ=>PWp P N n y Γ σ Q) Q)): PWp P N n (.seq x y) Γ σ Q:=by
 intro ρ w a hn hf hr
 refine wp_seq (wp_mono (h ρ w a hn hf hr) ?_)
 rintro e a' w' ⟨Γ',σ',ρ',q,hf',hr',st⟩
 cases e with
 | normal=>exact wp_mono (q ρ' w' a' st.len' hf' hr') fun _ _ _ ⟨Γ2,σ2,ρ2,q2,f2,r2,s2⟩=>⟨Γ2,σ2,ρ2,q2,f2,r2,st.trans s2⟩
 | exit id=>exact⟨Γ',σ',ρ',q,hf',hr',st⟩
 | goto l=>exact⟨Γ',σ',ρ',q,hf',hr',st⟩
 | ret=>exact⟨Γ',σ',ρ',q,hf',hr',st⟩
 | panic ch=>exact⟨Γ',σ',ρ',q,hf',hr',st⟩
 | outgrown=>exact⟨Γ',σ',ρ',q,hf',hr',st⟩
theorem zd{x y:Code}(h:∀K:Env->Sto->Prop,(∀Γ σ,PWp P N n y Γ σ Q->K Γ σ)->PWp P N n x Γ σ (yk K Q)): PWp P N n (.seq x y) Γ σ Q:=
 zoS (h _ fun _ _ h=>h)
theorem jQ{id:Nat}{c:Code}(h:PWp P N n c Γ σ (yJ id Q)): PWp P N n (.block id c) Γ σ Q:=by
 intro ρ w a hn hf hr
 refine wp_block (wp_mono (h ρ w a hn hf hr) ?_)
 rintro e a' w' ⟨Γ',σ',ρ',q,hf',hr',st⟩
 cases e with
 | exit i=>
  simp only[Exit.inBlock,yJ]at q ⊢
  split at q<;>rename_i hi<;>simp only[hi,if_true,if_false]<;>exact⟨Γ',σ',ρ',q,hf',hr',st⟩
 | normal=>exact⟨Γ',σ',ρ',q,hf',hr',st⟩
 | goto l=>exact⟨Γ',σ',ρ',q,hf',hr',st⟩
 | ret=>exact⟨Γ',σ',ρ',q,hf',hr',st⟩
 | panic ch=>exact⟨Γ',σ',ρ',q,hf',hr',st⟩
 | outgrown=>exact⟨Γ',σ',ρ',q,hf',hr',st⟩
theorem zcR{c:Operand}{x y:Code}{t:Bool}(hc:ev Γ c=.lit (.bool t))(ht:t=true->PWp P N n x Γ σ Q)(hf:t=false->PWp P N n y Γ σ Q): PWp P N n (.cond c x y) Γ σ Q:=by
 intro ρ w a hn hF hr
 refine wp_cond_split (t:=t) (hF.lit hc) (fun h=>ht h ρ w a hn hF hr) (fun h=>hf h ρ w a hn hF hr)
theorem zlt{c:Code}(I:Nat->Env->Sto->Prop)(k₀:Nat)(h₀:I k₀ Γ σ)
    (round:∀k Γ σ,I k Γ σ->PWp P N n c Γ σ (yk (fun Γ' σ'=>∃k',k'<k/\I k' Γ' σ') Q)):PWp P N n (.loop c) Γ σ Q:=by
  intro ρ w a hn hf hr
  refine wp_loop_ghost (fun k a' w'=>∃Γ' σ' ρ',I k Γ' σ'/\FR N Γ' σ' ρ' w' a'/\Rel σ' ρ' w'/\Step n σ ρ w σ' ρ' w') k₀ ⟨Γ,σ,ρ,h₀,hf,hr,.refl _ _ _ _ hn⟩ ?_
  rintro k a' w' ⟨Γ',σ',ρ',hI,hf',hr',st⟩
  refine wp_mono (round k Γ' σ' hI ρ' w' a' st.len' hf' hr') ?_
  rintro e a2 w2 ⟨Γ2,σ2,ρ2,q,f2,r2,s2⟩
  cases e with
  | normal=>
    obtain⟨k',hlt,hI'⟩:=q
    exact⟨k',hlt,Γ2,σ2,ρ2,hI',f2,r2,st.trans s2⟩
  | exit id=>exact⟨Γ2,σ2,ρ2,q,f2,r2,st.trans s2⟩
  | goto l=>exact⟨Γ2,σ2,ρ2,q,f2,r2,st.trans s2⟩
  | ret=>exact⟨Γ2,σ2,ρ2,q,f2,r2,st.trans s2⟩
  | panic ch=>exact⟨Γ2,σ2,ρ2,q,f2,r2,st.trans s2⟩
  | outgrown=>exact⟨Γ2,σ2,ρ2,q,f2,r2,st.trans s2⟩
def Wk(N n:Nat)(Γ:Env)(σ:Sto)(Γ':Env)(σ':Sto): Prop:=
 ∀ρ w a,n<=σ.length->FR N Γ σ ρ w a->Rel σ ρ w->∃ρ',FR N Γ' σ' ρ' w a/\Rel σ' ρ' w/\Step n σ ρ w σ' ρ' w
theorem zbh{c:Code}{Γ':Env}{σ':Sto}(hw:Wk N n Γ σ Γ' σ')(h:PWp P N n c Γ' σ' Q): PWp P N n c Γ σ Q:=by
 intro ρ w a hn hf hr
 obtain⟨ρ',f',r',st⟩:=hw ρ w a hn hf hr
 exact wp_mono (h ρ' w a st.len' f' r') fun _ _ _ ⟨Γ2,σ2,ρ2,q2,f2,r2,s2⟩=>⟨Γ2,σ2,ρ2,q2,f2,r2,st.trans s2⟩
theorem zlu{c:Code}(h:PWp P N n c Γ σ (fun e Γ σ=>∃Γ' σ',Wk N n Γ σ Γ' σ'/\Q e Γ' σ')): PWp P N n c Γ σ Q:=by
 intro ρ w a hn hf hr
 refine wp_mono (h ρ w a hn hf hr) ?_
 rintro e a' w' ⟨Γ',σ',ρ',⟨Γ2,σ2,hw,q⟩,f',r',st⟩
 obtain⟨ρ2,f2,r2,s2⟩:=hw ρ' w' a' st.len' f' r'
 exact⟨Γ2,σ2,ρ2,q,f2,r2,st.trans s2⟩
end
/-! regions -/
def Oper.dstOk(N:Nat)(o:Oper): Bool:=match o.dst with|some d=>d<N|none=>true
def gdv(ops:Array Oper)(Γ:Env)(j:Nat): Option Bool:=
 match (ops[j]?).bind (·.dst)with
 | some d=>(match get Γ d with|.lit (.bool t)=>some t|_=>none)
 | none=>none
def gdn(ops:Array Oper)(Γ:Env)(j:Nat): Bool:=
 match (ops[j]?).bind (·.dst)with
 | some d=>(match get Γ d with|.lit (.bool _)=>false|.lit _=>true|_=>false)
 | none=>false
def rgn(A:Oper->Env->Sto->(AV->Sto->Prop)->Prop)(B:Bool->Oper->Env->Sto->Option AV)(N:Nat)(ops:Array Oper): List Oper->Env->Sto->(Env->Sto->Prop)->Prop
  | [],Γ,σ,K=>K Γ σ
  | o::rest,Γ,σ,K=>
    match o.guard with
    | none=>Oper.dstOk N o=true/\A o Γ σ (fun x σ'=>rgn A B N ops rest (put Γ o.dst x) σ' K)
    | some (j,want)=>
      match gdv ops Γ j with
      | none=>gdn ops Γ j=true/\Oper.dstOk N o=true/\rgn A B N ops rest (put Γ o.dst (.lit undef)) σ K
      | some t => Oper.dstOk N o = true /\
        ((∃x,B (t == want) o Γ σ=some x/\rgn A B N ops rest (put Γ o.dst (.gd (t == want) x)) σ K) \/
         ((t=want->A o Γ σ (fun x σ'=>rgn A B N ops rest (put Γ o.dst x) σ' K))/\(t≠want->rgn A B N ops rest (put Γ o.dst (.lit undef)) σ K)))
theorem zaB{N:Nat}{o:Oper}(h:Oper.dstOk N o=true): ∀i,o.dst=some i->i<N:=by
 intro i hi
 simpa[Oper.dstOk,hi]using h
def zww(P:Program)(N:Nat)(B:Bool->Oper->Env->Sto->Option AV): Prop:=
 ∀g o Γ σ x,B g o Γ σ=some x->∀ρ w a,FR N Γ σ ρ w a->Rel σ ρ w->scp σ.length x=true/\(g=true->∃v,(execOp a.eval o).run P w=.ok (.value v) w/\VR σ ρ w x v)
theorem vI{N:Nat}{ops:Array Oper}{Γ:Env}{σ:Sto}{ρ:Rz}{w:World}{a:Act}{j:Nat}(h:gdn ops Γ j=true)(hf:FR N Γ σ ρ w a): yielded ops a.tmps j=none:=by
 unfold gdn at h
 split at h
 ·rename_i d hd
  have hv:=hf.2.2 d
  split at h
  ·cases h
  ·rename_i v hnb hg
   rw[hg]at hv
   simp only[VR]at hv
   simp only[yielded,hd,Option.bind_some]
   cases hq:a.tmps[d]? with
   | none=>rfl
   | some q=>
    rw[Array.getD_eq_getD_getElem?,hq]at hv
    simp only[Option.getD_some]at hv
    subst hv
    cases q<;>first|rfl|exact(hnb _ rfl).elim
  ·cases h
 ·cases h
end Go.Lf
namespace Go.Lf
/-! scalars -/
def zdY(op:BinOp)(k:IntKind)(a b:Int): Option Value:=
 match op with
 | .add=>some (.int k (k.wrap (a+b)))
 | .sub=>some (.int k (k.wrap (a-b)))
 | .mul=>some (.int k (k.wrap (a*b)))
 | .quo=>if b=0 then none else some (.int k (k.wrap (a.tdiv b)))
 | .rem=>if b=0 then none else some (.int k (a.tmod b))
 | .and=>some (.int k (k.wrap (BitVec.ofInt k.bits a &&& BitVec.ofInt k.bits b).toNat))
 | .or=>some (.int k (k.wrap (BitVec.ofInt k.bits a ||| BitVec.ofInt k.bits b).toNat))
 | .xor=>some (.int k (k.wrap (BitVec.ofInt k.bits a ^^^ BitVec.ofInt k.bits b).toNat))
 | .andNot=>some (.int k (k.wrap (BitVec.ofInt k.bits a &&& ~~~ BitVec.ofInt k.bits b).toNat))
 | .eql=>some (.bool (a == b))
 | .neq=>some (.bool (a != b))
 | .lss=>some (.bool (decide (a<b)))
 | .leq=>some (.bool (decide (a<=b)))
 | .gtr=>some (.bool (decide (b<a)))
 | .geq=>some (.bool (decide (b<=a)))
 | _=>none
def zd0(op:BinOp)(k:IntKind)(a b:Int): Option Value:=
 match op with
 | .shl=>if b<0 then none else some (.int k (k.wrap (a*2 ^ min b.toNat k.bits)))
 | .shr=>if b<0 then none else some (.int k (a.fdiv (2 ^ min b.toNat k.bits)))
 | _=>none
def zd1(op:BinOp)(a b:ByteArray): Option Value:=
 match op with
 | .add=>if((a.size+b.size:Nat):Int)<=9223372036854775807 then some (.string (a++b))else none
 | .eql=>some (.bool (a.toList == b.toList))
 | .neq=>some (.bool (!(a.toList == b.toList)))
 | .lss=>some (.bool (Op.bytesLess a.toList b.toList))
 | .leq=>some (.bool (Op.bytesLess a.toList b.toList || a.toList == b.toList))
 | .gtr=>some (.bool (!(Op.bytesLess a.toList b.toList || a.toList == b.toList)))
 | .geq=>some (.bool (!Op.bytesLess a.toList b.toList))
 | _=>none
def y7(P:Program)(σ:Sto)(op:BinOp)(t:TypeId)(x y:AV): Option AV:=
 match x,y with
 | .lit (.int k a),.lit (.int k' b)=>
  match op with
  | .shl|.shr=>(zd0 op k a b).map .lit
  | _=>if k=k' then(zdY op k a b).map .lit else none
 | .lit (.string a),.lit (.string b)=>(zd1 op a b).map .lit
 | .lit (.bool a),.lit (.bool b)=>
  match op,P.underlying t with
  | .eql,some .bool=>some (.lit (.bool (a == b)))
  | .neq,some .bool=>some (.lit (.bool (!(a == b))))
  | _,_=>none
 | .lit (.pointer none),.lit (.pointer none)=>
  match op,P.underlying t with
  | .eql,some (.pointer _)=>some (.lit (.bool true))
  | .neq,some (.pointer _)=>some (.lit (.bool false))
  | _,_=>none
 | .ptr o _,.lit (.pointer none)=>
  match op,P.underlying t,σ[o]? with
  | .eql,some (.pointer _),some (.box _)=>some (.lit (.bool false))
  | .neq,some (.pointer _),some (.box _)=>some (.lit (.bool true))
  | _,_,_=>none
 | _,_=>none
def aun(op:UnOp)(x:AV): Option AV:=
 match op,x with
 | .not,.lit (.bool b)=>some (.lit (.bool (!b)))
 | .neg,.lit (.int k a)=>some (.lit (.int k (k.wrap (0-a))))
 | _,_=>none
def zhq(P:Program)(s d:TypeId)(x:AV): Option AV:=
 match P.underlying s,P.underlying d,x with
 | some _,some (.int k),.lit (.int _ n)=>some (.lit (.int k (k.wrap n)))
 | some .string,some .string,.lit (.string b)=>some (.lit (.string b))
 | _,_,_=>none
def v7(P:Program)(t:TypeId)(k:Nat)(cs:List AV): Option AV:=
 match P.underlying t with
 | some (.struct _)|some (.array _ _)=>if k+P.cellsOf t<=cs.length then some (.ag ((cs.drop k).take (P.cellsOf t)))else none
 | some _=>cs[k]?
 | none=>none
theorem zn{P:Program}{t:TypeId}{d:TypeDesc}(h:P.underlying t=some d)(w:World): (underlying t).run P w=.ok d w:=by
 simp[underlying,h]
theorem zE{P:Program}{t:TypeId}{d:TypeDesc}(h:P.underlying t=some d)(w:World): (sizeOf t).run P w=.ok (P.cellsOf t) w:=by
 unfold Program.underlying at h
 cases hi:P.info? t with
 | none=>rw[hi]at h;simp at h
 | some i=>simp[sizeOf,typeInfo,hi,Program.cellsOf]
def zr1: TypeDesc->Bool
 | .struct _|.array _ _=>true
 | _=>false
theorem zaC{P:Program}{t:TypeId}{d:TypeDesc}(h:P.underlying t=some d)(w:World): (isAgg t).run P w=.ok (zr1 d) w:=by
 unfold isAgg
 simp only[Sem.run_bind,zn h,Result.andThen_ok]
 cases d<;>rfl
theorem z1{σ:Sto}{ρ:Rz}{w:World}: ∀(xs:List AV) (vs:List Value),VRl σ ρ w xs vs->xs.length=vs.length
 | [],[],_=>rfl
 | [],_::_,h=>by simp[VRl]at h
 | _::_,[],h=>by simp[VRl]at h
 | x::xs,v::vs,h=>by simp only[VRl]at h;simp[z1 xs vs h.2]
theorem zbi{σ:Sto}{ρ:Rz}{w:World}: ∀(xs:List AV) (vs:List Value),VRl σ ρ w xs vs->∀(i:Nat) (x:AV),xs[i]?=some x->∃v,vs[i]?=some v/\VR σ ρ w x v
 | [],_,_,i,x,hi=>by simp at hi
 | _::_,[],h,_,_,_=>by simp[VRl]at h
 | x::xs,v::vs,h,0,y,hi=>by simp only[VRl]at h;simp at hi;subst hi;exact⟨v,by simp,h.1⟩
 | x::xs,v::vs,h,i+1,y,hi=>by
  simp only[VRl]at h
  obtain⟨u,h1,h2⟩:=zbi xs vs h.2 i y (by simpa using hi)
  exact⟨u,by simpa using h1,h2⟩
theorem vj{σ:Sto}{ρ:Rz}{w:World}: ∀(k:Nat) (xs:List AV) (vs:List Value),VRl σ ρ w xs vs->VRl σ ρ w (xs.drop k) (vs.drop k)
 | 0,_,_,h=>by simpa using h
 | _+1,[],[],_=>by simp[VRl]
 | _+1,[],_::_,h=>by simp[VRl]at h
 | _+1,_::_,[],h=>by simp[VRl]at h
 | k+1,x::xs,v::vs,h=>by simp only[VRl]at h;simpa using vj k xs vs h.2
theorem v8{σ:Sto}{ρ:Rz}{w:World}: ∀(k:Nat) (xs:List AV) (vs:List Value),VRl σ ρ w xs vs->VRl σ ρ w (xs.take k) (vs.take k)
 | 0,_,_,_=>by simp[VRl]
 | _+1,[],[],_=>by simp[VRl]
 | _+1,[],_::_,h=>by simp[VRl]at h
 | _+1,_::_,[],h=>by simp[VRl]at h
 | k+1,x::xs,v::vs,h=>by simp only[VRl]at h;simp only[List.take_succ_cons,VRl];exact⟨h.1,v8 k xs vs h.2⟩
theorem vv{σ:Sto}{ρ:Rz}{w:World}: ∀(xs:List AV) (vs:List Value) (ys:List AV) (us:List Value),VRl σ ρ w xs vs->VRl σ ρ w ys us->VRl σ ρ w (xs++ys) (vs++us)
 | [],[],ys,us,_,h=>by simpa using h
 | [],_::_,_,_,h,_=>by simp[VRl]at h
 | _::_,[],_,_,h,_=>by simp[VRl]at h
 | x::xs,v::vs,ys,us,h,h'=>by simp only[VRl]at h;simp only[List.cons_append,VRl];exact⟨h.1,vv xs vs ys us h.2 h'⟩
theorem kU{P:Program}{σ:Sto}{ρ:Rz}{w:World}{t:TypeId}{k:Nat}{cs:List AV}{vs:List Value}{y:AV}(h:VRl σ ρ w cs vs)(hy:v7 P t k cs=some y):
    ∃v,(part t vs.toArray k).run P w=.ok v w/\VR σ ρ w y v:=by
  unfold v7 at hy
  cases hu:P.underlying t with
  | none=>rw[hu]at hy;simp at hy
  | some d=>
    rw[hu]at hy
    have hA:=zaC hu w
    have hS:=zE hu w
    have hl:=z1 _ _ h
    have agg:zr1 d=true->(if k+P.cellsOf t<=cs.length then some (AV.ag ((cs.drop k).take (P.cellsOf t)))else none)=some y->∃v,(part t vs.toArray k).run P w=.ok v w/\VR σ ρ w y v:=by
      intro hd hy
      split at hy
      · rename_i hle
        simp at hy
        subst hy
        refine⟨.agg (vs.toArray.extract k (k+P.cellsOf t)),?_,?_⟩
        · simp[part,hA,hS,hd]
        · simp only[VR]
          refine⟨(vs.drop k).take (P.cellsOf t),?_,v8 _ _ _ (vj _ _ _ h)⟩
          congr 1
          apply Array.ext'
          simp[List.extract]
      · simp at hy
    have one:zr1 d=false->cs[k]?=some y->∃v,(part t vs.toArray k).run P w=.ok v w/\VR σ ρ w y v:=by
      intro hd hy
      obtain⟨v,h1,h2⟩:=zbi _ _ h _ _ hy
      exact⟨v,by simp[part,hA,hd,h1],h2⟩
    cases d<;>first|exact agg rfl hy|exact one rfl hy
def zd2(P:Program)(t:TypeId)(x:AV)(f:Nat): Option AV:=
 match P.underlying t,x with
 | some (.struct fs),.ag cs=>(match fs[f]? with|some fd=>v7 P fd.type fd.offset cs|none=>none)
 | _,_=>none
def zbj(P:Program)(t:TypeId)(x i:AV): Option AV:=
 match P.underlying t,x,i with
 | some (.array n e),.ag cs,.lit (.int _ j)=>if 0<=j/\j<n then v7 P e (j.toNat*P.cellsOf e) cs else none
 | some .string,.lit (.string s),.lit (.int _ j)=>if 0<=j/\j<s.size then some (.lit (.int .u8 (s.data.getD j.toNat 0).toNat))else none
 | _,_,_=>none
def zd3(P:Program)(t:TypeId)(x:AV)(f:Nat): Option AV:=
  match P.underlying t with
  | some (.struct fs)=>
    match fs[f]? with
    | some fd=>if(P.underlying fd.type).isSome/\0<P.cellsOf fd.type then
        (match x with
        | .ptr o k=>some (.ptr o (k+fd.offset))
        | .ep o s i k=>some (.ep o s i (k+fd.offset))
        | .ip q cs=>some (.ip q (cs.drop fd.offset))
        | _=>none)else none
    | none=>none
  | _=>none
def zeL(P:Program)(σ:Sto)(t:TypeId)(x:AV): Option AV:=
 match x with
 | .ptr o k=>(match σ[o]? with|some (.box cs)=>v7 P t k cs|_=>none)
 | .ep o s i k=>(match σ[o]? with|some (.row s' _ _ xs)=>if s'=s then(match xs[i]? with|some x=>v7 P t k x|none=>none)else none|_=>none)
 | .ip _ cs=>v7 P t 0 cs
 | _=>none
def acells: AV->List AV
 | .ag cs=>cs
 | x=>[x]
def zeH(P:Program)(σ:Sto)(t:TypeId)(x:AV): Option Int:=
 match P.underlying t,x with
 | some .string,.lit (.string s)=>some s.size
 | some (.slice _),.lit (.slice _ n _)=>some n
 | some (.slice _),.sl _ _ xs=>some xs.length
 | some (.slice _),.vw o s _ n=>(match σ[o]? with|some (.row s' _ _ _)=>if s'=s then some n else none|_=>none)
 | some (.slice _),.row o s=>(match σ[o]? with|some (.row s' _ _ xs)=>if s'=s then some xs.length else none|_=>none)
 | some (.array n _),_=>some n
 | _,_=>none
def putCells(cs:List AV)(k:Nat)(ys:List AV): List AV:=cs.take k++ys++cs.drop (k+ys.length)
theorem zcS{P:Program}(op:BinOp)(t:TypeId)(x y:Operand)(v u:Value)(w:World)(h:(∀c,v≠.agg c)/\v≠.nilIface): (eqGuard op t x y v u).run P w=.ok () w:=by
 have key:∀s:Sem Unit,s.run P w=.ok () w->(if !(op matches .eql|.neq)then pure ()else s:Sem Unit).run P w=.ok () w:=by
  intro s hs
  cases op<;>simp[hs]
 refine key _ ?_
 cases v<;>first|rfl|exact absurd rfl h.2|exact absurd rfl (h.1 _)
theorem zlv{P:Program}{op:BinOp}{k:IntKind}{a b:Int}{v:Value}(t:TypeId)(hop:op≠.shl/\op≠.shr)(h:zdY op k a b=some v)(w:World): (binOp op t (.int k a) (.int k b)).run P w=.ok v w:=by
  cases op<;>simp only[zdY]at h<;>first
    | (exact absurd rfl hop.1)
    | (exact absurd rfl hop.2)
    | (split at h
       · cases h
       · rename_i hb;simp at h;subst h;simp[binOp,Op.intDiv,hb])
    | (simp at h;done)
    | (simp at h;subst h;simp[binOp,Op.intArith,Op.intBits,Op.intCmp])
theorem zcn{P:Program}{op:BinOp}{k k':IntKind}{a b:Int}{v:Value}(t:TypeId)(h:zd0 op k a b=some v)(w:World): (binOp op t (.int k a) (.int k' b)).run P w=.ok v w:=by
  cases op<;>simp only[zd0]at h<;>first
    | (split at h
       · cases h
       · rename_i hb;simp at h;subst h;simp[binOp,Op.shift,hb])
    | (simp at h;done)
theorem zhr{P:Program}{op:BinOp}{a b:ByteArray}{v:Value}(t:TypeId)(h:zd1 op a b=some v)(w:World): (binOp op t (.string a) (.string b)).run P w=.ok v w:=by
  cases op<;>simp only[zd1]at h<;>first
    | (split at h
       · rename_i hb
         rw[Option.some.injEq]at h
         subst h
         have:¬(((a.size+b.size:Nat):Int)>IntKind.i64.max):=by simp only[IntKind.max,IntKind.signed,IntKind.bits]at hb ⊢;simp at hb ⊢;omega
         simp only[binOp,Op.stringOp,if_neg this,Sem.run_pure]
       · cases h)
    | (simp at h;done)
    | (simp at h;subst h;simp[binOp,Op.stringOp])
theorem zb9{P:Program}{t:TypeId}(hu:P.underlying t=some .bool)(a b:Bool)(w:World): (Op.equal t (.bool a) (.bool b)).run P w=.ok (a == b) w:=by
 unfold Op.equal Op.maxDepth
 rw[Op.equalIn]
 simp only[Sem.run_bind,zn hu,Result.andThen_ok,Sem.run_pure]
theorem jR{P:Program}{t e:TypeId}(hu:P.underlying t=some (.pointer e))(a:Option Addr)(w:World): (Op.equal t (.pointer a) (.pointer none)).run P w=.ok a.isNone w:=by
 unfold Op.equal Op.maxDepth
 rw[Op.equalIn]
 simp only[Sem.run_bind,zn hu,Result.andThen_ok]
 cases a<;>rfl
theorem jy{P:Program}{t:TypeId}{v u:Value}{b:Bool}(w:World)(hv:(∀c,v=.bool c->∃c',u=.bool c')/\((∃c,v=.bool c)\/∃c,v=.pointer c))(h:(Op.equal t v u).run P w=.ok b w):
    (binOp .eql t v u).run P w=.ok (.bool b) w/\(binOp .neq t v u).run P w=.ok (.bool (!b)) w:=by
  rcases hv.2 with⟨c,rfl⟩|⟨c,rfl⟩
  · obtain⟨c',rfl⟩:=hv.1 c rfl
    exact⟨by simp only[binOp,Sem.run_bind,h,Result.andThen_ok,Sem.run_pure],by simp only[binOp,Sem.run_bind,h,Result.andThen_ok,Sem.run_pure]⟩
  · exact⟨by cases u<;>simp only[binOp,Sem.run_bind,h,Result.andThen_ok,Sem.run_pure],by cases u<;>simp only[binOp,Sem.run_bind,h,Result.andThen_ok,Sem.run_pure]⟩
theorem zlw{P:Program}{N:Nat}{o:Oper}{Γ:Env}{σ:Sto}{op:BinOp}{t yt:TypeId}{x y:Operand}(ho:o.op=.binOp op t x y yt){z:AV}(hz:y7 P σ op t (ev Γ x) (ev Γ y)=some z){ρ:Rz}{w:World}{a:Act}(hf:FR N Γ σ ρ w a)(hr:Rel σ ρ w): ∃v,(execOp a.eval o).run P w=.ok (.value v) w/\VR σ ρ w z v:=by
 have hx:=hf.ev x
 have hy:=hf.ev y
 generalize ev Γ x=X at hz hx
 generalize ev Γ y=Y at hz hy
 have fin:∀v,(∀c,a.eval x≠.agg c)/\a.eval x≠.nilIface->(binOp op t (a.eval x) (a.eval y)).run P w=.ok v w->VR σ ρ w z v->∃v,(execOp a.eval o).run P w=.ok (.value v) w/\VR σ ρ w z v:=by
  intro v hg hb hv
  exact⟨v,by simp[execOp,ho,zcS op t x y _ _ w hg,hb],hv⟩
 unfold y7 at hz
 split at hz
 ·simp only[VR]at hx hy
  rename_i k u k' u'
  have:(∀c,a.eval x≠.agg c)/\a.eval x≠.nilIface:=by rw[hx];exact⟨fun c=>by simp,by simp⟩
  rw[hx,hy]at fin
  split at hz
  ·simp only[Option.map_eq_some_iff]at hz
   obtain⟨v,h1,rfl⟩:=hz
   exact fin v ⟨fun c=>by simp,by simp⟩ (zcn t h1 w) (by simp[VR])
  ·simp only[Option.map_eq_some_iff]at hz
   obtain⟨v,h1,rfl⟩:=hz
   exact fin v ⟨fun c=>by simp,by simp⟩ (zcn t h1 w) (by simp[VR])
  ·split at hz
   ·rename_i hk
    subst hk
    simp only[Option.map_eq_some_iff]at hz
    obtain⟨v,h1,rfl⟩:=hz
    exact fin v ⟨fun c=>by simp,by simp⟩ (zlv t ⟨by assumption,by assumption⟩ h1 w) (by simp[VR])
   ·cases hz
 ·simp only[VR]at hx hy
  rw[hx,hy]at fin
  simp only[Option.map_eq_some_iff]at hz
  obtain⟨v,h1,rfl⟩:=hz
  exact fin v ⟨fun c=>by simp,by simp⟩ (zhr t h1 w) (by simp[VR])
 ·rename_i A B
  simp only[VR]at hx hy
  rw[hx,hy]at fin
  split at hz<;>simp at hz
  all_goals
   subst hz
   rename_i hu
   have he:=jy (v:=.bool A) (u:=.bool B) w ⟨fun _ _=>⟨_,rfl⟩,.inl ⟨_,rfl⟩⟩ (zb9 hu A B w)
   first|exact fin _ ⟨fun c=>by simp,by simp⟩ he.1 (by simp[VR])|exact fin _ ⟨fun c=>by simp,by simp⟩ he.2 (by simp[VR])
 ·simp only[VR]at hx hy
  rw[hx,hy]at fin
  split at hz<;>simp at hz
  all_goals
   subst hz
   rename_i hu
   have he:=jy w ⟨fun _ h=>by simp at h,.inr ⟨_,rfl⟩⟩ (jR hu none w)
   first|exact fin _ ⟨fun c=>by simp,by simp⟩ he.1 (by simp[VR])|exact fin _ ⟨fun c=>by simp,by simp⟩ he.2 (by simp[VR])
 ·rename_i oo kk
  simp only[VR]at hx hy
  split at hz<;>simp at hz
  all_goals
   subst hz
   rename_i hu hs
   obtain⟨b,_,hb⟩:=hx.2 _ hs
   rw[hb,hy]at fin
   have he:=jy w ⟨fun _ h=>by simp at h,.inr ⟨_,rfl⟩⟩ (jR hu (some ⟨b,kk,none⟩) w)
   first|exact fin _ ⟨fun c=>by simp,by simp⟩ he.1 (by simp[VR])|exact fin _ ⟨fun c=>by simp,by simp⟩ he.2 (by simp[VR])
 ·cases hz
theorem zoT{P:Program}{N:Nat}{o:Oper}{Γ:Env}{σ:Sto}{op:UnOp}{t:TypeId}{x:Operand}(ho:o.op=.unOp op t x){z:AV}(hz:aun op (ev Γ x)=some z){ρ:Rz}{w:World}{a:Act}(hf:FR N Γ σ ρ w a)(hr:Rel σ ρ w): ∃v,(execOp a.eval o).run P w=.ok (.value v) w/\VR σ ρ w z v:=by
 have hx:=hf.ev x
 generalize ev Γ x=X at hz hx
 unfold aun at hz
 split at hz
 ·simp only[VR]at hx
  simp at hz
  subst hz
  exact⟨_,by simp[execOp,ho,hx,Op.unary];rfl,by simp[VR]⟩
 ·simp only[VR]at hx
  simp only[Option.some.injEq]at hz
  subst hz
  exact⟨_,by simp[execOp,ho,hx,Op.unary,Op.intArith];rfl,by simp[VR]⟩
 ·cases hz
theorem zia{P:Program}{N:Nat}{o:Oper}{Γ:Env}{σ:Sto}{s d:TypeId}{x:Operand}(ho:o.op=.convert s d x){z:AV}(hz:zhq P s d (ev Γ x)=some z){ρ:Rz}{w:World}{a:Act}(hf:FR N Γ σ ρ w a)(hr:Rel σ ρ w): ∃v,(execOp a.eval o).run P w=.ok (.value v) w/\VR σ ρ w z v:=by
 have hx:=hf.ev x
 generalize ev Γ x=X at hz hx
 unfold zhq at hz
 split at hz
 ·rename_i hs hd
  simp only[VR]at hx
  simp only[Option.some.injEq]at hz
  subst hz
  exact⟨_,by simp[execOp,ho,hx,convert,zn hs,zn hd,Conv.intToInt];rfl,by simp[VR]⟩
 ·rename_i hs hd
  simp only[VR]at hx
  simp only[Option.some.injEq]at hz
  subst hz
  exact⟨_,by simp[execOp,ho,hx,convert,zn hs,zn hd];rfl,by simp[VR]⟩
 ·cases hz
theorem zhs{P:Program}{N:Nat}{o:Oper}{Γ:Env}{σ:Sto}{t:TypeId}{x:Operand}{f:Nat}(ho:o.op=.field t x f){z:AV}(hz:zd2 P t (ev Γ x) f=some z){ρ:Rz}{w:World}{a:Act}(hf:FR N Γ σ ρ w a)(hr:Rel σ ρ w): ∃v,(execOp a.eval o).run P w=.ok (.value v) w/\VR σ ρ w z v:=by
 have hx:=hf.ev x
 generalize ev Γ x=X at hz hx
 unfold zd2 at hz
 split at hz
 ·rename_i fs cs hu
  split at hz
  ·rename_i fd hfd
   simp only[VR]at hx
   obtain⟨vs,hv,hl⟩:=hx
   obtain⟨v,h1,h2⟩:=kU hl hz
   exact⟨v,by simp[execOp,ho,hv,Instr.field,zn hu,hfd,asAgg,h1],h2⟩
  ·cases hz
 ·cases hz
theorem zht{P:Program}{N:Nat}{o:Oper}{Γ:Env}{σ:Sto}{t:TypeId}{x i:Operand}(ho:o.op=.index t x i){z:AV}(hz:zbj P t (ev Γ x) (ev Γ i)=some z){ρ:Rz}{w:World}{a:Act}(hf:FR N Γ σ ρ w a)(hr:Rel σ ρ w): ∃v,(execOp a.eval o).run P w=.ok (.value v) w/\VR σ ρ w z v:=by
 have hx:=hf.ev x
 have hi:=hf.ev i
 generalize ev Γ x=X at hz hx
 generalize ev Γ i=I at hz hi
 unfold zbj at hz
 split at hz
 ·rename_i n e cs k j hu
  simp only[VR]at hx hi
  obtain⟨vs,hv,hl⟩:=hx
  split at hz
  ·rename_i hj
   have hz':=hz
   unfold v7 at hz'
   have hue:∃d,P.underlying e=some d:=by
    cases he:P.underlying e with
    | none=>rw[he]at hz';simp at hz'
    | some d=>exact⟨d,rfl⟩
   obtain⟨d,hue⟩:=hue
   obtain⟨v,h1,h2⟩:=kU hl hz
   exact⟨v,by simp[execOp,ho,hv,hi,Instr.index,asIntOf,zn hu,zE hue,hj,h1],h2⟩
  ·cases hz
 ·rename_i s k j hu
  simp only[VR]at hx hi
  split at hz
  ·rename_i hj
   simp only[Option.some.injEq]at hz
   subst hz
   have hlt:j.toNat<s.size:=by omega
   refine⟨.int .u8 (s.data.getD j.toNat 0).toNat,?_,by simp[VR]⟩
   have hg:s[j.toNat]?=some (s.data.getD j.toNat 0):=by
    rw[getElem?_pos s j.toNat hlt]
    simp only[Array.getD_eq_getD_getElem?]
    rw[Array.getElem?_eq_getElem (by simpa using hlt)]
    rfl
   simp[execOp,ho,hx,hi,Instr.index,asIntOf,zn hu,hj.1,hg]
  ·cases hz
 ·cases hz
end Go.Lf
namespace Go.Lf
theorem z2{P:Program}{t:TypeId}(h:(P.underlying t).isSome=true): ∃d,P.underlying t=some d:=by
 cases hu:P.underlying t with
 | none=>rw[hu]at h;simp at h
 | some d=>exact⟨d,rfl⟩
theorem zca{P:Program}{w:World}(a:Addr)(f:Field){d:TypeDesc}(hu:P.underlying f.type=some d)(h:0<P.cellsOf f.type): (fieldPlace a f).run P w=.ok (a.add f.offset) w:=by
 have h':P.cellsOf f.type≠0:=by omega
 simp[fieldPlace,zE hu,h']
theorem zQ(b o k:Nat): (⟨b,o,none⟩:Addr).add k=⟨b,o+k,none⟩:=by
 unfold Addr.add;split<;>simp_all
/-! immutable zwV -/
theorem jS{M:Nat->Prop}{w:World}: ∀(k:Nat) (xs:List AV) (b o:Nat),PVs M w xs b o->PVs M w (xs.drop k) b (o+k)
 | 0,_,_,_,h=>by simpa using h
 | _+1,[],_,_,_=>by simp[PVs]
 | k+1,x::xs,b,o,h=>by
  simp only[PVs]at h
  have:=jS k xs b (o+1) h.2
  simpa[Nat.add_assoc,Nat.add_comm 1 k]using this
theorem PV_VR{σ:Sto}{ρ:Rz}{w:World}: ∀(x:AV) (v:Value),PV (jN σ ρ) w x v->VR σ ρ w x v
 | .junk,_,_=>by simp[VR]
 | .lit _,_,h=>by simpa[VR,PV]using h
 | .sl _ q _,_,h=>by
  simp only[PV]at h
  simp only[VR]
  obtain⟨a,cap,sz,h1,h2,h3,h4,h5,h6,h7⟩:=h
  refine⟨a,cap,sz,h1,h2,h3,h4,h5,h6,fun hx=>?_⟩
  obtain⟨b,o,ha,hbs,hb,hp⟩:=h7 hx
  exact⟨b,o,ha,hbs,fun h=>hb h.mset,hp⟩
 | .ip _ _,_,h=>by
  simp only[PV]at h
  simp only[VR]
  obtain⟨b,o,ha,hbs,hb,hp⟩:=h
  exact⟨b,o,ha,hbs,fun h=>hb h.mset,hp⟩
 | .vw _ _ _ _,_,h=>by simp[PV]at h
 | .row _ _,_,h=>by simp[PV]at h
 | .ptr _ _,_,h=>by simp[PV]at h
 | .ep _ _ _ _,_,h=>by simp[PV]at h
 | .gd _ _,_,h=>by simp[PV]at h
 | .fn _ _,_,h=>by simp[PV]at h
 | .mref _,_,h=>by simp[PV]at h
 | .ag xs,v,h=>by
  simp only[PV]at h
  simp only[VR]
  obtain⟨vs,h1,h2⟩:=h
  exact⟨vs,h1,go xs vs h2⟩
 | .tu xs,v,h=>by
  simp only[PV]at h
  simp only[VR]
  obtain⟨vs,h1,h2⟩:=h
  exact⟨vs,h1,go xs vs h2⟩
where
 go:∀(xs:List AV) (vs:List Value),PVl (jN σ ρ) w xs vs->VRl σ ρ w xs vs
 | [],[],_=>by simp[VRl]
 | [],_::_,h=>by simp[PVl]at h
 | _::_,[],h=>by simp[PVl]at h
 | x::xs,v::vs,h=>by
  simp only[PVl]at h
  simp only[VRl]
  exact⟨PV_VR x v h.1,go xs vs h.2⟩
theorem zcT{σ:Sto}{ρ:Rz}{w:World}: ∀(xs:List AV) (b o:Nat),PVs (jN σ ρ) w xs b o ->
    ∃vs:List Value,vs.length=xs.length/\(∀j v,vs[j]?=some v->w.cell? ((⟨b,o,none⟩:Addr).add j)=some v)/\(∀v∈vs,v.oneCell'=true)/\PVl (jN σ ρ) w xs vs
  | [],_,_,_=>⟨[],rfl,by simp,by simp,by simp[PVl]⟩
  | x::xs,b,o,h=>by
    simp only[PVs]at h
    obtain⟨⟨v,h1,h2,h3⟩,ht⟩:=h
    obtain⟨vs,k1,k2,k3,k4⟩:=zcT xs b (o+1) ht
    refine⟨v::vs,by simp[k1],fun j u hj=>?_,by simp;exact⟨h2,k3⟩,by simp only[PVl];exact⟨h3,k4⟩⟩
    rw[zQ]
    cases j with
    | zero=>simp at hj;subst hj;simpa using h1
    | succ j=>
      have:=k2 j u (by simpa using hj)
      rw[zQ]at this
      rw[<-this];congr 2;omega
theorem yq{P:Program}{σ:Sto}{ρ:Rz}{w:World}{t:TypeId}{k:Nat}{cs:List AV}{vs:List Value}{b o:Nat}{y:AV}(h:VRl σ ρ w cs vs)
    (hc:∀j v,vs[j]?=some v->w.cell? ((⟨b,o,none⟩:Addr).add j)=some v) (hy:v7 P t k cs=some y) :
    ∃v,(loadVar t ⟨b,o+k,none⟩).run P w=.ok v w/\VR σ ρ w y v:=by
  unfold v7 at hy
  cases hu:P.underlying t with
  | none=>rw[hu]at hy;simp at hy
  | some d=>
    rw[hu]at hy
    have hA:=zaC hu w
    have hS:=zE hu w
    have hl:=z1 _ _ h
    have agg:zr1 d=true->(if k+P.cellsOf t<=cs.length then some (AV.ag ((cs.drop k).take (P.cellsOf t)))else none)=some y->∃v,(loadVar t ⟨b,o+k,none⟩).run P w=.ok v w/\VR σ ρ w y v:=by
      intro hd hy
      split at hy
      · rename_i hle
        simp at hy
        subst hy
        have hlen:((vs.drop k).take (P.cellsOf t)).length=P.cellsOf t:=by simp;omega
        have hld:=run_loadCells_list (P:=P) (w:=w) ⟨b,o+k,none⟩ ((vs.drop k).take (P.cellsOf t)) (fun j v hj=>by
          rw[List.getElem?_take]at hj
          split at hj
          · rw[List.getElem?_drop]at hj
            have:=hc _ _ hj
            rw[zQ]at this ⊢
            rw[<-this];congr 2;omega
          · cases hj)
        rw[hlen]at hld
        refine⟨.agg ((vs.drop k).take (P.cellsOf t)).toArray,?_,?_⟩
        · simp[loadVar,hA,hS,hd,hld]
        · simp only[VR]
          exact⟨_,rfl,v8 _ _ _ (vj _ _ _ h)⟩
      · simp at hy
    have one:zr1 d=false->cs[k]?=some y->∃v,(loadVar t ⟨b,o+k,none⟩).run P w=.ok v w/\VR σ ρ w y v:=by
      intro hd hy
      obtain⟨v,h1,h2⟩:=zbi _ _ h _ _ hy
      have:=hc _ _ h1
      rw[zQ]at this
      exact⟨v,by simp[loadVar,hA,hd,this],h2⟩
    cases d<;>first|exact agg rfl hy|exact one rfl hy
theorem zU{w:World}{b:Nat}{vs:List Value}{ty:TypeId}{fz:Nat×Nat}(h:w.heap[b]?=some (.cells vs.toArray ty fz)): ∀j v,vs[j]?=some v->w.cell? ((⟨b,0,none⟩:Addr).add j)=some v:=by
 intro j v hj
 rw[zQ]
 simp[World.cell?,h,hj]
theorem zbk{xs:List (List AV)}{sz:Nat}(hsz:∀x∈xs,x.length=sz): ∀{i:Nat} {x:List AV},xs[i]?=some x->xs.flatten.drop (i*sz)=x++(xs.drop (i+1)).flatten:=by
 induction xs with
 | nil=>intro i x h;simp at h
 | cons y ys ih=>
  intro i x h
  have hy:=hsz y (by simp)
  cases i with
  | zero=>simp at h;subst h;simp
  | succ i=>
   have:=ih (fun x hx=>hsz x (by simp[hx])) (i:=i) (x:=x) (by simpa using h)
   simp only[List.flatten_cons,List.drop_succ_cons]
   rw[show(i+1)*sz=y.length+i*sz from by rw[Nat.add_mul,hy];omega,List.drop_append]
   simp[this]
theorem zeM{σ:Sto}{ρ:Rz}{w:World}: ∀(xs ys:List AV) (vs:List Value),VRl σ ρ w (xs++ys) vs->VRl σ ρ w xs (vs.take xs.length)
 | [],_,_,_=>by simp[VRl]
 | _::_,_,[],h=>by simp[VRl]at h
 | x::xs,ys,v::vs,h=>by simp only[List.cons_append,VRl]at h;simp only[List.length_cons,List.take_succ_cons,VRl];exact⟨h.1,zeM xs ys vs h.2⟩
theorem zib{P:Program}{N:Nat}{o:Oper}{Γ:Env}{σ:Sto}{t:TypeId}{x:Operand}(ho:o.op=.load t x){z:AV}(hz:zeL P σ t (ev Γ x)=some z){ρ:Rz}{w:World}{a:Act}(hf:FR N Γ σ ρ w a)(hr:Rel σ ρ w): ∃v,(execOp a.eval o).run P w=.ok (.value v) w/\VR σ ρ w z v:=by
 have hx:=hf.ev x
 generalize ev Γ x=X at hz hx
 have fin:∀b o',a.eval x=.pointer (some ⟨b,o',none⟩)->(∃v,(loadVar t ⟨b,o',none⟩).run P w=.ok v w/\VR σ ρ w z v)->∃v,(execOp a.eval o).run P w=.ok (.value v) w/\VR σ ρ w z v:=by
  rintro b o' he ⟨v,h1,h2⟩
  exact⟨v,by simp[execOp,ho,he,Instr.loadAt,Instr.sureAddr,h1],h2⟩
 unfold zeL at hz
 split at hz
 ·rename_i oo k
  split at hz
  ·rename_i cs hs
   simp only[VR]at hx
   obtain⟨b,hb,he⟩:=hx.2 _ hs
   have hO:=hr.obj _ _ hs
   obtain⟨b',ty,vs,hb',hh,h1,hl⟩:=hO
   rw[hb]at hb'
   simp at hb'
   subst hb'
   refine fin b k he ?_
   have:=yq (P:=P) (k:=k) hl (zU hh) hz
   simpa using this
  ·cases hz
 ·rename_i oo s i k
  split at hz
  ·rename_i s' e sz xs hs
   split at hz
   ·rename_i hss
    split at hz
    ·rename_i y hy
     simp only[VR]at hx
     obtain⟨b,n,c,hb,he⟩:=(hx.2 _ _ _ _ hs).2 hss
     obtain⟨h0,h00,hO⟩:=hr.obj _ _ hs
     rcases hO with⟨hO,hnil⟩|⟨b',cap,vs,sp,hb',hh,_,_,_,h1,hl⟩
     ·subst hnil;simp at hy
     ·rw[hb]at hb'
      simp at hb'
      obtain⟨rfl,_⟩:=hb'
      refine fin b _ he ?_
      have hd:=vj (i*sz) _ _ hl
      rw[zbk h0 hy]at hd
      have hp:=zeM _ _ _ hd
      have:=yq (P:=P) (k:=k) (b:=b) (o:=i*sz) hp (fun j v hj=>by
       rw[List.getElem?_take]at hj
       split at hj
       ·rw[List.getElem?_drop]at hj
        rw[zQ]
        have:=zU hh (i*sz+j) v (by rw[List.getElem?_append_left (by have:=List.getElem?_eq_some_iff.1 hj;exact this.1)];exact hj)
        rw[zQ]at this
        simpa using this
       ·cases hj) hz
      exact this
    ·cases hz
   ·cases hz
  ·cases hz
 ·rename_i cs
  simp only[VR,PV]at hx
  obtain⟨b,o',he,_,_,hp⟩:=hx
  refine fin b o' he ?_
  obtain⟨vs,_,k2,_,k4⟩:=zcT _ _ _ hp
  have:=yq (P:=P) (k:=0) (PV_VR.go _ _ k4) k2 hz
  simpa using this
 ·cases hz
theorem zhu{P:Program}{N:Nat}{o:Oper}{Γ:Env}{σ:Sto}{t:TypeId}{x:Operand}{f:Nat}(ho:o.op=.fieldAddr t x f){z:AV}(hz:zd3 P t (ev Γ x) f=some z)
    (hlive:∀ρ w a,FR N Γ σ ρ w a->Rel σ ρ w->∃ad,a.eval x=.pointer (some ad)) {ρ:Rz} {w:World} {a:Act} (hf:FR N Γ σ ρ w a) (hr:Rel σ ρ w):∃v,(execOp a.eval o).run P w=.ok (.value v) w/\VR σ ρ w z v:=by
  obtain⟨ad,had⟩:=hlive ρ w a hf hr
  have hx:=hf.ev x
  generalize ev Γ x=X at hz hx
  unfold zd3 at hz
  split at hz
  · rename_i fs hu
    split at hz
    · rename_i fd hfd
      split at hz
      · rename_i hc
        obtain⟨d,hd⟩:=z2 hc.1
        have hrun:∀v,v=.pointer (some (ad.add fd.offset))->(execOp a.eval o).run P w=.ok (.value v) w:=by
          rintro v rfl
          simp[execOp,ho,had,Instr.fieldAt,zn hu,hfd,Instr.sureAddr,zca ad fd hd hc.2]
        split at hz
        · rename_i oo k
          simp only[Option.some.injEq]at hz
          subst hz
          refine⟨_,hrun _ rfl,?_⟩
          simp only[VR]at hx ⊢
          refine⟨hx.1,fun cs hs=>?_⟩
          obtain⟨b,hb,he⟩:=hx.2 cs hs
          rw[had]at he
          simp at he
          subst he
          exact⟨b,hb,by rw[zQ]⟩
        · rename_i oo s i k
          simp only[Option.some.injEq]at hz
          subst hz
          refine⟨_,hrun _ rfl,?_⟩
          simp only[VR]at hx ⊢
          refine⟨hx.1,fun s' e sz xs hs=>?_⟩
          obtain⟨h1,h2⟩:=hx.2 s' e sz xs hs
          refine⟨h1,fun e=>?_⟩
          obtain⟨b,n,c,hb,he⟩:=h2 e
          rw[had]at he
          simp at he
          subst he
          exact⟨b,n,c,hb,by rw[zQ,Nat.add_assoc]⟩
        · rename_i cs
          simp only[Option.some.injEq]at hz
          subst hz
          refine⟨_,hrun _ rfl,?_⟩
          simp only[VR,PV]at hx ⊢
          obtain⟨b,o',he,hb,hm,hp⟩:=hx
          rw[had]at he
          simp at he
          subst he
          exact⟨b,o'+fd.offset,by rw[zQ],hb,hm,jS _ _ _ _ hp⟩
        · cases hz
      · cases hz
    · cases hz
  · cases hz
theorem zlx{P:Program}{N:Nat}{o:Oper}{Γ:Env}{σ:Sto}{t:TypeId}{x:Operand}{args:Array Operand}{ts:Array TypeId}(ho:o.op=.call { callee:=.builtin .len,args:=args,argTypes:=ts })(ha:args.toList=[x])(ht:ts.toList=[t])
    {n:Int} (hz:zeH P σ t (ev Γ x)=some n) {ρ:Rz} {w:World} {a:Act} (hf:FR N Γ σ ρ w a) (hr:Rel σ ρ w):∃v,(execOp a.eval o).run P w=.ok (.value v) w/\VR σ ρ w (.lit (.int .i64 n)) v:=by
  refine⟨_,?_,by simp only[VR];rfl⟩
  obtain rfl:args = #[x]:=Array.ext' ha
  obtain rfl:ts = #[t]:=Array.ext' ht
  have hx:=hf.ev x
  generalize ev Γ x=X at hz hx
  have fin:∀(d:TypeDesc) (v:Value),P.underlying t=some d->a.eval x=v->(Builtin.len_ #[t] o.type #[v]).run P w=.ok (goInt n) w->(execOp a.eval o).run P w=.ok (.value (.int .i64 n)) w:=by
    intro d v hd he hv
    simp[execOp,ho,resolve,invoke,builtin,he,hv,goInt]
  unfold zeH at hz
  split at hz
  · rename_i s hu
    simp only[VR]at hx
    simp only[Option.some.injEq]at hz
    subst hz
    exact fin _ _ hu hx (by simp[Builtin.len_,zn hu])
  · rename_i hu
    simp only[VR]at hx
    simp only[Option.some.injEq]at hz
    subst hz
    exact fin _ _ hu hx (by simp[Builtin.len_,zn hu])
  · rename_i e fl xs hu
    simp only[VR,PV]at hx
    obtain⟨ad,cap,sz,he,_⟩:=hx
    simp only[Option.some.injEq]at hz
    subst hz
    exact fin _ _ hu he (by simp[Builtin.len_,zn hu])
  · rename_i e oo s i m hu
    split at hz
    · rename_i s' e' sz xs hs
      split at hz
      · rename_i hss
        simp only[Option.some.injEq]at hz
        subst hz
        simp only[VR]at hx
        obtain⟨ad,c,he,_⟩:=(hx.2 _ _ _ _ hs).2 hss
        exact fin _ _ hu he (by simp[Builtin.len_,zn hu])
      · cases hz
    · cases hz
  · rename_i e oo s hu
    split at hz
    · rename_i s' e' sz xs hs
      split at hz
      · rename_i hss
        simp only[Option.some.injEq]at hz
        subst hz
        simp only[VR]at hx
        have he:=(hx.2 _ _ _ _ hs).2 hss
        obtain⟨_,_,hO⟩:=hr.obj _ _ hs
        rcases hO with⟨⟨ad,hO⟩,hxs⟩|⟨b',cap,vs,sp,hb',_⟩
        · rw[hO]at he
          subst hxs
          exact fin _ _ hu he (by simp[Builtin.len_,zn hu])
        · rw[hb']at he
          exact fin _ _ hu he (by simp[Builtin.len_,zn hu])
      · cases hz
    · cases hz
  · rename_i m e hu
    simp only[Option.some.injEq]at hz
    subst hz
    exact fin _ _ hu rfl (by simp[Builtin.len_,zn hu])
  · cases hz
end Go.Lf
namespace Go.Lf
def upd(ρ:Rz)(o:Nat)(r:Value): Rz:=⟨fun i=>if i=o then r else ρ i,ρ.fo⟩
theorem yh(ρ:Rz)(o:Nat)(r:Value): upd ρ o r o=r:=by simp[upd]
theorem zco(ρ:Rz){o i:Nat}(r:Value)(h:i≠o): upd ρ o r i=ρ i:=by simp[upd,h]
/-! a new object -/
section new
variable {σ : Sto} {ρ : Rz} {w w' : World} {ob : Ob} {r : Value}
theorem zaY(os:w'.os=w.os)(tape:w'.tape=w.tape)(out:w'.output=w.output)(hz:w.heap.size<=w'.heap.size)(hk:∀b,b<w.heap.size->w'.heap[b]?=w.heap[b]?)
    (hb:∀b,blk r=some b->w.heap.size<=b):Step σ.length σ ρ w (σ++[ob]) (upd ρ σ.length r) w':=by
  refine⟨os,tape,out,hz,fun b hb' _=>hk b hb',fun b hm=>?_,Nat.le_refl _,by simp,fun o ho=>?_,rfl⟩
  · obtain⟨o,ob',h1,h2,h3⟩:=hm
    by_cases ho:o=σ.length
    · subst ho
      rw[yh]at h3
      exact .inr (hb b h3)
    · rw[zco _ _ ho]at h3
      rw[List.getElem?_append]at h1
      split at h1
      · exact .inl ⟨o,ob',h1,h2,h3⟩
      · rename_i hlt
        rw[List.getElem?_eq_none (by simp;omega)]at h1
        cases h1
  · rw [List.getElem?_append_left ho, zco _ _ (by omega)]
    exact .refl _ _ (by simp;omega)
theorem zeN(hr:Rel σ ρ w)(hblk:∀o ob b,σ[o]?=some ob->ob.live=true->blk (ρ o)=some b->b<w.heap.size)(os:w'.os=w.os)(tape:w'.tape=w.tape)(out:w'.output=w.output)(hz:w.heap.size<=w'.heap.size)(hk:∀b,b<w.heap.size->w'.heap[b]?=w.heap[b]?)
    (hb:∀b,blk r=some b->w.heap.size<=b) (hO:RelO (σ++[ob]) (upd ρ σ.length r) w' r ob):Rel (σ++[ob]) (upd ρ σ.length r) w':=by
  have st:Step σ.length σ ρ w (σ++[ob]) (upd ρ σ.length r) w':=zaY os tape out hz hk hb
  have old:∀o ob',(σ++[ob])[o]?=some ob'->(σ[o]?=some ob'/\upd ρ σ.length r o=ρ o)\/(o=σ.length/\ob'=ob):=by
    intro o ob' h
    rw[List.getElem?_append]at h
    split at h
    · exact .inl ⟨h,zco _ _ (by omega)⟩
    · rename_i hlt
      by_cases ho:o=σ.length
      · subst ho
        simp at h
        exact .inr ⟨rfl,h.symm⟩
      · rw [List.getElem?_eq_none (by simp; omega)] at h
        cases h
  refine⟨fun o ob' h=>?_,fun o o' ob1 ob2 b h h' l l' e e'=>?_,fun b hb=>Nat.lt_of_lt_of_le (hr.fol b hb) hz,fun b hb' hf=>(st.own b hb').elim (fun h=>hr.dis b h hf) (fun h=>absurd (hr.fol b hf) (by omega))⟩
  · rcases old o ob' h with⟨h1,h2⟩ | ⟨rfl,rfl⟩
    · rw[h2]
      have hO:=hr.obj _ _ h1
      cases hl:ob'.live with
      | false=>cases ob'<;>simp[Ob.live]at hl;trivial
      | true=>exact hO.carry st (fun b hb'=>hk b (hblk _ _ _ h1 hl hb'))
    · rw[yh];exact hO
  · rcases old o ob1 h with⟨h1,h2⟩ | ⟨rfl,rfl⟩<;>rcases old o' ob2 h' with⟨h3,h4⟩ | ⟨rfl,rfl⟩
    · rw[h2]at e;rw[h4]at e'
      exact hr.inj _ _ _ _ _ h1 h3 l l' e e'
    · rw[h2]at e;rw[yh]at e'
      have:=hblk _ _ _ h1 l e
      have:=hb _ e'
      omega
    · rw[h4]at e';rw[yh]at e
      have:=hblk _ _ _ h3 l' e'
      have:=hb _ e
      omega
    · rfl
end new
theorem Rel.blk_lt{σ:Sto}{ρ:Rz}{w:World}(hr:Rel σ ρ w): ∀o ob b,σ[o]?=some ob->ob.live=true->blk (ρ o)=some b->b<w.heap.size:=by
 intro o ob b h hl hb
 have hO:=hr.obj _ _ h
 cases ob with
 | gone=>simp[Ob.live]at hl
 | mp I=>
  obtain⟨b',x,h1,h2,_⟩:=hO
  rw[h1]at hb
  simp[blk]at hb
  subst hb
  exact(Array.getElem?_eq_some_iff.1 h2).1
 | box cs=>
  obtain⟨b',ty,vs,h1,h2,_⟩:=hO
  rw[h1]at hb
  simp[blk]at hb
  subst hb
  exact(Array.getElem?_eq_some_iff.1 h2).1
 | row s e sz xs=>
  obtain⟨_,_,hO⟩:=hO
  rcases hO with⟨⟨a,h1⟩,_⟩|⟨b',cap,vs,sp,h1,h2,_⟩
  ·rw[h1]at hb;cases a<;>simp[blk]at hb
  ·rw[h1]at hb
   simp[blk]at hb
   obtain⟨_,rfl⟩:=hb
   exact(Array.getElem?_eq_some_iff.1 h2).1
/-! an object that turns -/
section turn
variable {σ : Sto} {ρ : Rz} {w w' : World} {o : Nat} {ob ob' : Ob} {r : Value}
theorem v9(ho:σ[o]?=some ob)(hl:ob.live=true)(hs:ObjStep (some ob) (some ob') (ρ o) r)(os:w'.os=w.os)(tape:w'.tape=w.tape)(out:w'.output=w.output)(hz:w.heap.size<=w'.heap.size)
    (hk:∀b,b<w.heap.size->blk (ρ o)≠some b->w'.heap[b]?=w.heap[b]?) (hb:∀b,ob'.live=true->blk r=some b->blk (ρ o)=some b\/w.heap.size<=b) :
    Step σ.length σ ρ w (σ.set o ob') (upd ρ o r) w':=by
  have hlt:o<σ.length:=(List.getElem?_eq_some_iff.1 ho).1
  refine⟨os,tape,out,hz,fun b hb' hm=>hk b hb' (fun e=>hm ⟨o,ob,ho,hl,e⟩),fun b hm=>?_,Nat.le_refl _,by simp,fun i hi=>?_,rfl⟩
  · obtain⟨i,ob1,h1,h2,h3⟩:=hm
    by_cases hi:i=o
    · subst hi
      rw[yh]at h3
      rw[List.getElem?_set_self hlt]at h1
      simp at h1
      subst h1
      rcases hb b h2 h3 with h|h
      · exact .inl ⟨i,ob,ho,hl,h⟩
      · exact .inr h
    · rw[zco _ _ hi]at h3
      rw[List.getElem?_set_ne (by omega)]at h1
      exact .inl ⟨i,ob1,h1,h2,h3⟩
  · by_cases hio:i=o
    · subst hio
      rw[List.getElem?_set_self hlt,yh,ho]
      exact hs
    · rw [List.getElem?_set_ne (by omega), zco _ _ hio]
      exact .refl _ _ (by simp;omega)
theorem zaf(hr:Rel σ ρ w)(ho:σ[o]?=some ob)(hl:ob.live=true)(hs:ObjStep (some ob) (some ob') (ρ o) r)(os:w'.os=w.os)(tape:w'.tape=w.tape)(out:w'.output=w.output)(hz:w.heap.size<=w'.heap.size)
    (hk:∀b,b<w.heap.size->blk (ρ o)≠some b->w'.heap[b]?=w.heap[b]?) (hb:∀b,ob'.live=true->blk r=some b->blk (ρ o)=some b\/w.heap.size<=b)
    (hO:RelO (σ.set o ob') (upd ρ o r) w' r ob'):Rel (σ.set o ob') (upd ρ o r) w':=by
  have st:Step σ.length σ ρ w (σ.set o ob') (upd ρ o r) w':=v9 ho hl hs os tape out hz hk hb
  have hlt:o<σ.length:=(List.getElem?_eq_some_iff.1 ho).1
  have old:∀i ob1,(σ.set o ob')[i]?=some ob1->(i≠o/\σ[i]?=some ob1/\upd ρ o r i=ρ i)\/(i=o/\ob1=ob'):=by
    intro i ob1 h
    by_cases hi:i=o
    · subst hi
      rw[List.getElem?_set_self hlt]at h
      simp at h
      exact .inr ⟨rfl,h.symm⟩
    · rw [List.getElem?_set_ne (by omega)] at h
      exact .inl ⟨hi,h,zco _ _ hi⟩
  refine⟨fun i ob1 h=>?_,fun i j ob1 ob2 b h h' l l' e e'=>?_,fun b hb=>Nat.lt_of_lt_of_le (hr.fol b hb) hz,fun b hb' hf=>(st.own b hb').elim (fun h=>hr.dis b h hf) (fun h=>absurd (hr.fol b hf) (by omega))⟩
  · rcases old i ob1 h with⟨hi,h1,h2⟩ | ⟨rfl,rfl⟩
    · rw[h2]
      have hO:=hr.obj _ _ h1
      cases hl1:ob1.live with
      | false=>cases ob1<;>simp[Ob.live]at hl1;trivial
      | true=>exact hO.carry st (fun b hb'=>hk b (hr.blk_lt _ _ _ h1 hl1 hb') (fun e=>hi (hr.inj _ _ _ _ _ h1 ho hl1 hl hb' e)))
    · rw[yh];exact hO
  · rcases old i ob1 h with⟨hi,h1,h2⟩ | ⟨rfl,rfl⟩<;>rcases old j ob2 h' with⟨hj,h3,h4⟩ | ⟨rfl,rfl⟩
    · rw[h2]at e;rw[h4]at e'
      exact hr.inj _ _ _ _ _ h1 h3 l l' e e'
    · rw[h2]at e;rw[yh]at e'
      rcases hb b l' e' with h|h
      · exact hr.inj _ _ _ _ _ h1 ho l hl e h
      · have:=hr.blk_lt _ _ _ h1 l e;omega
    · rw[h4]at e';rw[yh]at e
      rcases hb b l e with h|h
      · exact hr.inj _ _ _ _ _ ho h3 hl l' h e'
      · have:=hr.blk_lt _ _ _ h3 l' e';omega
    · rfl
end turn
/-! new boxes -/
theorem zic{σ:Sto}{ρ:Rz}{w:World}(hr:Rel σ ρ w)(cs:List AV)(vs:List Value)(t:TypeId)(h:VRl σ ρ w cs vs)(h1:∀v∈vs,v.oneCell'=true):
    ∃ρ',Rel (σ++[.box cs]) ρ' (w.alloc (.cells vs.toArray t))/\VR (σ++[.box cs]) ρ' (w.alloc (.cells vs.toArray t)) (.ptr σ.length 0) (.pointer (some ⟨w.heap.size,0,none⟩)) /\
      Step σ.length σ ρ w (σ++[.box cs]) ρ' (w.alloc (.cells vs.toArray t)):=by
  have hk:∀b,b<w.heap.size->(w.alloc (.cells vs.toArray t)).heap[b]?=w.heap[b]?:=fun b hb=>heap_alloc_old w _ b hb
  have hz:w.heap.size<=(w.alloc (.cells vs.toArray t)).heap.size:=by simp
  have hb:∀b,blk (.pointer (some ⟨w.heap.size,0,none⟩))=some b->w.heap.size<=b:=by intro b hb;simp[blk]at hb;omega
  have st:=zaY (w:=w) (w':=w.alloc (.cells vs.toArray t)) (σ:=σ) (ρ:=ρ) (ob:=.box cs) (r:=.pointer (some ⟨w.heap.size,0,none⟩)) rfl rfl rfl hz hk hb
  refine⟨upd ρ σ.length (.pointer (some ⟨w.heap.size,0,none⟩)),zeN hr hr.blk_lt rfl rfl rfl hz hk hb ?_,?_,st⟩
  · exact⟨w.heap.size,t,vs,rfl,heap_alloc_new w _,h1,VRl.carry st _ _ h⟩
  · simp only[VR]
    exact⟨by simp,fun cs' _=>⟨w.heap.size,by rw[yh],rfl⟩⟩
theorem zid {P : Program} {N : Nat} {o : Oper} {Γ : Env} {σ : Sto} {K : AV -> Sto -> Prop} {t : TypeId} (ho : o.op = .alloc t) {cs : List Value} (hz : ((P.info? t).bind fun i => i.zero.map fun z => z.cells.toList) = some cs)
    (h1:cs.all (fun v=>v.oneCell')=true) (hK:K (.ptr σ.length 0) (σ++[.box (cs.map alit)])):SOp P N o Γ σ K:=by
  intro ρ w a next Q hf hr hn
  obtain⟨i,hi,z,hz0,hz1⟩:∃i,P.info? t=some i/\∃z,i.zero=some z/\z.cells.toList=cs:=by
    cases hi:P.info? t with
    | none=>rw[hi]at hz;simp at hz
    | some i=>
      rw[hi]at hz
      cases hz0:i.zero with
      | none=>simp[hz0]at hz
      | some z=>simp[hz0]at hz;exact⟨i,rfl,z,hz0,hz⟩
  obtain⟨ρ',hr',hv',st⟩:=zic hr (cs.map alit) cs t (jP _ _ _ _) (by simpa using h1)
  have hrun:(execOp a.eval o).run P w=.ok (.value (.pointer (some ⟨w.heap.size,0,none⟩))) (w.alloc (.cells cs.toArray t)):=by
    have:z.cells=cs.toArray:=by rw[<-hz1]
    simp[execOp,ho,Instr.alloc,zeroValue,typeInfo,hi,hz0,newVar,newRow,this]
  unfold Oper.wp
  rw[hrun,Oper.upon_value]
  exact hn _ _ _ _ _ hK hr' hv' st
def okc(σ:Sto): AV->Bool
 | .lit v=>v.oneCell'
 | .sl _ _ _=>true
 | .row o s=>(match σ[o]? with|some (.row s' _ _ _)=>s' == s|_=>false)
 | .vw o s _ _=>(match σ[o]? with|some (.row s' _ _ _)=>s' == s|_=>false)
 | .ptr o _=>(match σ[o]? with|some (.box _)=>true|_=>false)
 | .ip _ _=>true
 | .mref o=>(match σ[o]? with|some (.mp _)=>true|_=>false)
 | _=>false
theorem zie{σ:Sto}{ρ:Rz}{w:World}(hr:Rel σ ρ w){x:AV}{v:Value}(h:VR σ ρ w x v)(hk:okc σ x=true): v.oneCell'=true:=by
 cases x with
 | lit u=>simp only[VR]at h;subst h;exact hk
 | sl f q xs=>simp only[VR,PV]at h;obtain⟨a,cap,sz,rfl,_⟩:=h;rfl
 | ip q xs=>simp only[VR,PV]at h;obtain⟨b,o,rfl,_⟩:=h;rfl
 | row o s=>
  simp only[okc]at hk
  split at hk
  ·rename_i s' e sz xs hs
   simp only[VR]at h
   have:=(h.2 _ _ _ _ hs).2 (by simpa using hk)
   obtain⟨_,_,hO⟩:=hr.obj _ _ hs
   rcases hO with⟨⟨ad,hO⟩,_⟩|⟨b',cap,vs,sp,hb',_⟩
   ·rw[this,hO];rfl
   ·rw[this,hb'];rfl
  ·cases hk
 | mref o=>
  simp only[okc]at hk
  split at hk
  ·rename_i I hs
   simp only[VR]at h
   obtain⟨b,x,hb,_⟩:=hr.obj _ _ hs
   rw[h.2 _ hs,hb];rfl
  ·cases hk
 | vw o s i n=>
  simp only[okc]at hk
  split at hk
  ·rename_i s' e sz xs hs
   simp only[VR]at h
   obtain⟨ad,c,rfl,_⟩:=(h.2 _ _ _ _ hs).2 (by simpa using hk)
   rfl
  ·cases hk
 | ptr o k=>
  simp only[okc]at hk
  split at hk
  ·rename_i cs hs
   simp only[VR]at h
   obtain⟨b,_,rfl⟩:=h.2 _ hs
   rfl
  ·cases hk
 | junk=>cases hk
 | ep o s i k=>cases hk
 | ag xs=>cases hk
 | tu xs=>cases hk
 | gd g x=>cases hk
 | fn _ _=>cases hk
theorem zif{σ:Sto}{ρ:Rz}{w:World}(hr:Rel σ ρ w): ∀(xs:List AV) (vs:List Value),VRl σ ρ w xs vs->xs.all (okc σ)=true->∀v∈vs,v.oneCell'=true
 | [],[],_,_=>by simp
 | [],_::_,h,_=>by simp[VRl]at h
 | _::_,[],h,_=>by simp[VRl]at h
 | x::xs,v::vs,h,hk=>by
  simp only[VRl]at h
  simp only[List.all_cons,Bool.and_eq_true]at hk
  intro u hu
  simp only[List.mem_cons]at hu
  rcases hu with rfl|hu
  ·exact zie hr h.1 hk.1
  ·exact zif hr xs vs h.2 hk.2 u hu
theorem vX{σ:Sto}{ρ:Rz}{w:World}(hr:Rel σ ρ w){x:AV}{v:Value}(h:VR σ ρ w x v)(hk:(acells x).all (okc σ)=true): VRl σ ρ w (acells x) v.cells.toList/\∀u∈v.cells.toList,u.oneCell'=true:=by
 have one:okc σ x=true->acells x=[x]->VRl σ ρ w (acells x) v.cells.toList/\∀u∈v.cells.toList,u.oneCell'=true:=by
  intro hk he
  have h1:=zie hr h hk
  have:v.cells.toList=[v]:=by cases v<;>first|rfl|simp[Value.oneCell']at h1
  rw[he,this]
  simp only[VRl,and_true]
  exact⟨h,by simpa using h1⟩
 cases x with
 | ag xs=>
  simp only[VR]at h
  obtain⟨vs,rfl,hl⟩:=h
  exact⟨by simpa[acells,Value.cells]using hl,by simpa[Value.cells]using zif hr xs vs hl hk⟩
 | junk=>simp[acells,okc]at hk
 | lit u=>exact one (by simpa[acells]using hk) rfl
 | sl f q xs=>exact one (by simpa[acells]using hk) rfl
 | row o s=>exact one (by simpa[acells]using hk) rfl
 | ptr o k=>exact one (by simpa[acells]using hk) rfl
 | ep o s i k=>simp[acells,okc]at hk
 | vw o s i n=>exact one (by simpa[acells]using hk) rfl
 | ip q xs=>exact one (by simpa[acells]using hk) rfl
 | tu xs=>simp[acells,okc]at hk
 | gd g x=>simp[acells,okc]at hk
 | fn _ _=>simp[acells,okc]at hk
 | mref o=>exact one (by simpa[acells]using hk) rfl
theorem zoU{P:Program}{N:Nat}{o:Oper}{Γ:Env}{σ:Sto}{K:AV->Sto->Prop}{t:TypeId}{x:Operand}(ho:o.op=.box t x)(hk:(acells (ev Γ x)).all (okc σ)=true)
    (hK:K (.ptr σ.length 0) (σ++[.box (acells (ev Γ x))])):SOp P N o Γ σ K:=by
  intro ρ w a next Q hf hr hn
  obtain⟨h1,h2⟩:=vX hr (hf.ev x) hk
  obtain⟨ρ',hr',hv',st⟩:=zic hr _ _ t h1 h2
  have hrun:(execOp a.eval o).run P w=.ok (.value (.pointer (some ⟨w.heap.size,0,none⟩))) (w.alloc (.cells (a.eval x).cells.toList.toArray t)):=by
    simp[execOp,ho,Instr.box,newVar,newRow]
  unfold Oper.wp
  rw[hrun,Oper.upon_value]
  exact hn _ _ _ _ _ hK hr' hv' st
/-! a store into a box -/
theorem zeO{σ:Sto}{ρ:Rz}{w:World}(cs ys:List AV)(vs us:List Value)(k:Nat)(h:VRl σ ρ w cs vs)(h':VRl σ ρ w ys us):
    VRl σ ρ w (putCells cs k ys) (vs.take k++us++vs.drop (k+us.length)):=by
  unfold putCells
  rw[z1 _ _ h']
  exact vv _ _ _ _ (vv _ _ _ _ (v8 _ _ _ h) h') (vj _ _ _ h)
theorem zig{P:Program}{N:Nat}{o:Oper}{Γ:Env}{σ:Sto}{K:AV->Sto->Prop}{t:TypeId}{x y:Operand}(ho:o.op=.store t x y){oo k:Nat}{cs:List AV}(hx:ev Γ x=.ptr oo k)(hs:σ[oo]?=some (.box cs))
    (hu:(P.underlying t).isSome=true) (hk:(acells (ev Γ y)).all (okc σ)=true) (hsz:(acells (ev Γ y)).length=P.cellsOf t) (hle:k+(acells (ev Γ y)).length<=cs.length)
    (hK:K .junk (σ.set oo (.box (putCells cs k (acells (ev Γ y)))))):SOp P N o Γ σ K:=by
  intro ρ w a next Q hf hr hn
  obtain⟨d,hd⟩:=z2 hu
  obtain⟨h1,h2⟩:=vX hr (hf.ev y) hk
  have hX:=hf.ev x
  rw[hx]at hX
  simp only[VR]at hX
  obtain⟨b,hb,he⟩:=hX.2 _ hs
  have hO:=hr.obj _ _ hs
  obtain⟨b',ty,vs,hb',hh,hone,hl⟩:=hO
  rw[hb]at hb'
  simp at hb'
  subst hb'
  have hl1:=z1 _ _ h1
  have hl2:=z1 _ _ hl
  have hst:=run_storeCells_at (P:=P) b k ty (a.eval y).cells.toList 0 vs.toArray w hh (by simp;simp at hl1;omega) h2
  generalize hnew:(vs.toArray.toList.take (k+0)++(a.eval y).cells.toList++vs.toArray.toList.drop (k+0+(a.eval y).cells.toList.length))=nw at hst
  have hrun:(execOp a.eval o).run P w=.ok .skip (w.setRow b nw.toArray):=by
    have:¬(a.eval y).cells.size≠P.cellsOf t:=by simp at hl1;simp;omega
    simp only[execOp,ho,Instr.storeAt,Instr.sureAddr,he,storeVar,Sem.run_bind,zE hd,Result.andThen_ok,Sem.run_pure,if_neg this]
    simp[hst]
  have hnw:vs.take k++(a.eval y).cells.toList++vs.drop (k+(a.eval y).cells.toList.length)=nw:=by simpa using hnew
  have hkb:∀c,c<w.heap.size->blk (ρ oo)≠some c->(w.setRow b nw.toArray).heap[c]?=w.heap[c]?:=by
    intro c _ hne
    refine setRow_other w b c _ (fun e=>hne ?_)
    rw[hb,e];rfl
  have hobj:ObjStep (some (.box cs)) (some (.box (putCells cs k (acells (ev Γ y))))) (ρ oo) (ρ oo):=by
    simp only[ObjStep,true_and,putCells,List.length_append,List.length_take,List.length_drop]
    omega
  have hz:w.heap.size<=(w.setRow b nw.toArray).heap.size:=by simp
  have st:=v9 (w:=w) (w':=w.setRow b nw.toArray) hs rfl hobj rfl rfl rfl hz hkb (fun c _ hc=>.inl hc)
  have hput:=zeO cs _ vs _ k hl h1
  rw[hnw]at hput
  have hrel := zaf (w := w) (w' := w.setRow b nw.toArray) hr hs rfl hobj rfl rfl rfl hz hkb (fun c _ hc => .inl hc)
    ⟨b,ty,nw,hb,setRow_heap w b _ _ ty _ hh,by
      intro v hv
      rw[<-hnw]at hv
      simp only[List.mem_append]at hv
      rcases hv with(hv|hv)|hv
      · exact hone v (List.mem_of_mem_take hv)
      · exact h2 v hv
      · exact hone v (List.mem_of_mem_drop hv),VRl.carry st _ _ hput⟩
  unfold Oper.wp
  rw[hrun,Oper.upon_skip]
  exact hn _ _ _ _ _ hK hrel (by simp[VR]) st
end Go.Lf
namespace Go.Lf
/-! scopes -/
def zy9(n:Nat): Ob->Bool
 | .gone=>true
 | .mp _=>true
 | .box cs=>zad n cs
 | .row _ _ _ xs=>zad n xs.flatten
def Scoped(σ:Sto): Prop:=∀(o:Nat) (ob:Ob),σ[o]?=some ob->zy9 σ.length ob=true
mutual
theorem VR.scp{σ:Sto}{ρ:Rz}{w:World}: ∀(x:AV) (v:Value),VR σ ρ w x v->Lf.scp σ.length x=true
 | .junk,_,_=>rfl
 | .lit _,_,_=>rfl
 | .sl _ _ _,_,_=>rfl
 | .ip _ _,_,_=>rfl
 | .row o s,v,h=>by simp only[VR]at h;simp[Lf.scp,h.1]
 | .vw o s _ _,v,h=>by simp only[VR]at h;simp[Lf.scp,h.1]
 | .ptr o k,v,h=>by simp only[VR]at h;simp[Lf.scp,h.1]
 | .ep o s i k,v,h=>by simp only[VR]at h;simp[Lf.scp,h.1]
 | .gd g x,v,h=>by simp only[VR]at h;simp only[Lf.scp,h.1]
 | .ag xs,v,h=>by simp only[VR]at h;obtain⟨vs,_,h⟩:=h;simp only[Lf.scp];exact VRl.scp xs vs h
 | .tu xs,v,h=>by simp only[VR]at h;obtain⟨vs,_,h⟩:=h;simp only[Lf.scp];exact VRl.scp xs vs h
 | .fn _ xs,v,h=>by simp only[VR]at h;obtain⟨vs,_,h⟩:=h;simp only[Lf.scp];exact VRl.scp xs vs h
 | .mref o,v,h=>by simp only[VR]at h;simp[Lf.scp,h.1]
theorem VRl.scp{σ:Sto}{ρ:Rz}{w:World}: ∀(xs:List AV) (vs:List Value),VRl σ ρ w xs vs->zad σ.length xs=true
 | [],[],_=>rfl
 | [],_::_,h=>by simp[VRl]at h
 | _::_,[],h=>by simp[VRl]at h
 | x::xs,v::vs,h=>by simp only[VRl]at h;simp only[zad,VR.scp x v h.1,VRl.scp xs vs h.2,Bool.and_self]
end
theorem Rel.scOf{σ:Sto}{ρ:Rz}{w:World}(hr:Rel σ ρ w): Scoped σ:=by
 intro o ob h
 have hO:=hr.obj _ _ h
 cases ob with
 | gone=>rfl
 | mp I=>rfl
 | box cs=>obtain⟨b,ty,vs,_,_,_,hl⟩:=hO;exact VRl.scp _ _ hl
 | row s e sz xs=>
  obtain⟨_,_,hO⟩:=hO
  rcases hO with⟨_,rfl⟩|⟨b,cap,vs,sp,_,_,_,_,_,_,hl⟩
  ·rfl
  ·exact VRl.scp _ _ hl
theorem Scoped.set{σ:Sto}(h:Scoped σ){o:Nat}{ob:Ob}(ho:zy9 σ.length ob=true): Scoped (σ.set o ob):=by
 intro i ob' hi
 rw[List.length_set]
 by_cases hio:i=o
 ·subst hio
  rw[List.getElem?_set]at hi
  simp at hi
  obtain⟨_,rfl⟩:=hi
  exact ho
 ·rw [List.getElem?_set_ne (by omega)] at hi
  exact h _ _ hi
/-! what needs no token -/
mutual
def pur: AV->Bool
 | .row _ _=>false
 | .vw _ _ _ _=>false
 | .ptr _ _=>false
 | .ep _ _ _ _=>false
 | .gd _ _=>false
 | .fn _ _=>false
 | .mref _=>false
 | .sl _ q _=>!q
 | .ip q _=>!q
 | .ag xs=>y9 xs
 | .tu xs=>y9 xs
 | _=>true
def y9: List AV->Bool
 | []=>true
 | x::xs=>pur x && y9 xs
end
theorem zfP(xs ys:List AV): y9 (xs++ys)=(y9 xs && y9 ys):=by
 induction xs with
 | nil=>simp[y9]
 | cons x xs ih=>simp[y9,ih,Bool.and_assoc]
mutual
theorem VR.pv{σ:Sto}{ρ:Rz}{w:World}: ∀(x:AV) (v:Value),VR σ ρ w x v->pur x=true->PV (jN σ ρ) w x v
 | .junk,_,_,_=>by simp[PV]
 | .lit _,_,h,_=>by simpa[VR,PV]using h
 | .sl _ q _,_,h,hp=>by
  simp[pur]at hp;subst hp
  simp only[VR,Bset,Bool.false_eq_true,if_false]at h
  simp only[PV];exact h
 | .ip q _,_,h,hp=>by
  simp[pur]at hp;subst hp
  simp only[VR,Bset,Bool.false_eq_true,if_false]at h
  simp only[PV];exact h
 | .row o s,v,_,h=>by simp[pur]at h
 | .vw o s _ _,v,_,h=>by simp[pur]at h
 | .ptr o k,v,_,h=>by simp[pur]at h
 | .ep o s i k,v,_,h=>by simp[pur]at h
 | .gd g x,v,_,h=>by simp[pur]at h
 | .ag xs,v,h,hp=>by simp only[VR]at h;obtain⟨vs,h1,h⟩:=h;simp only[PV];exact⟨vs,h1,VRl.pv xs vs h (by simpa[pur]using hp)⟩
 | .fn _ _,_,_,hp=>by simp[pur]at hp
 | .mref _,_,_,hp=>by simp[pur]at hp
 | .tu xs,v,h,hp=>by simp only[VR]at h;obtain⟨vs,h1,h⟩:=h;simp only[PV];exact⟨vs,h1,VRl.pv xs vs h (by simpa[pur]using hp)⟩
theorem VRl.pv{σ:Sto}{ρ:Rz}{w:World}: ∀(xs:List AV) (vs:List Value),VRl σ ρ w xs vs->y9 xs=true->PVl (jN σ ρ) w xs vs
 | [],[],_,_=>by simp[PVl]
 | [],_::_,h,_=>by simp[VRl]at h
 | _::_,[],h,_=>by simp[VRl]at h
 | x::xs,v::vs,h,hp=>by simp only[VRl]at h;simp only[y9,Bool.and_eq_true]at hp;simp only[PVl];exact⟨VR.pv x v h.1 hp.1,VRl.pv xs vs h.2 hp.2⟩
end
theorem zaD{M:Nat->Prop}{w:World}: ∀(xs:List AV) (vs:List Value) (b o:Nat),PVl M w xs vs->(∀v∈vs,v.oneCell'=true)->(∀j v,vs[j]?=some v->w.cell? ⟨b,o+j,none⟩=some v)->PVs M w xs b o
 | [],_,_,_,_,_,_=>by simp[PVs]
 | _::_,[],_,_,h,_,_=>by simp[PVl]at h
 | x::xs,v::vs,b,o,h,h1,hc=>by
  simp only[PVl]at h
  simp only[PVs]
  refine⟨⟨v,by simpa using hc 0 v rfl,h1 v (by simp),h.1⟩,zaD xs vs b (o+1) h.2 (fun v hv=>h1 v (by simp[hv])) (fun j u hj=>?_)⟩
  have:=hc (j+1) u (by simpa using hj)
  rw[<-this];congr 2;omega
theorem zag{M:Nat->Prop}{w:World}: ∀(xs:List (List AV)) (b o:Nat),PVs M w xs.flatten b o->PVss M w xs b o
 | [],_,_,_=>by simp[PVss]
 | x::xs,b,o,h=>by
  simp only[PVss]
  have h1:PVs M w (x++xs.flatten) b o:=by simpa using h
  refine⟨?_,zag xs b (o+x.length) (by simpa using jS x.length _ _ _ h1)⟩
  exact pre x _ b o h1
where
 pre:∀(x y:List AV) (b o:Nat),PVs M w (x++y) b o->PVs M w x b o
 | [],_,_,_,_=>by simp[PVs]
 | a::x,y,b,o,h=>by simp only[List.cons_append,PVs]at h;simp only[PVs];exact⟨h.1,pre x y b (o+1) h.2⟩
theorem zd4{M:Nat->Prop}{w:World}: ∀(xs:List (List AV)) (b o:Nat),PVss M w xs b o->PVs M w xs.flatten b o
 | [],_,_,_=>by simp[PVs]
 | x::xs,b,o,h=>by
  simp only[PVss]at h
  simp only[List.flatten_cons]
  exact app x _ b o h.1 (zd4 xs b (o+x.length) h.2)
where
 app:∀(x y:List AV) (b o:Nat),PVs M w x b o->PVs M w y b (o+x.length)->PVs M w (x++y) b o
 | [],y,b,o,_,h=>by simpa using h
 | a::x,y,b,o,h,h'=>by
  simp only[PVs]at h
  simp only[List.cons_append,PVs]
  exact⟨h.1,app x y b (o+1) h.2 (by simpa[Nat.add_assoc,Nat.add_comm 1]using h')⟩
/-! an end: what a call hands back -/
def Fin(n:Nat)(r:AV)(σ:Sto)(r':AV)(σ':Sto): Prop:=
 ∀ρ w v,n<=σ.length->Rel σ ρ w->VR σ ρ w r v->∃ρ',Rel σ' ρ' w/\VR σ' ρ' w r' v/\Step n σ ρ w σ' ρ' w
/-! objects that are let go: those are kept whose places κ lists -/
def ka: List Nat->Nat->Option Nat
 | [],_=>none
 | k::κ,o=>if o=k then some 0 else(ka κ o).map (· + 1)
theorem yi: ∀(κ:List Nat) (o j:Nat),ka κ o=some j->κ[j]?=some o
 | [],_,_,h=>by simp[ka]at h
 | k::κ,o,j,h=>by
  simp only[ka]at h
  split at h
  ·rename_i e;simp at h;subst h;subst e;rfl
  ·simp only[Option.map_eq_some_iff]at h
   obtain⟨i,h1,rfl⟩:=h
   simpa using yi κ o i h1
theorem zd5: ∀(κ:List Nat) (o j:Nat),ka κ o=none->κ[j]?≠some o
 | [],_,_,_=>by simp
 | k::κ,o,j,h=>by
  simp only[ka]at h
  split at h
  ·cases h
  ·rename_i e
   simp only[Option.map_eq_none_iff]at h
   cases j with
   | zero=>simpa using fun x=>e x.symm
   | succ j=>simpa using zd5 κ o j h
mutual
def fz(κ:List Nat)(σ:Sto): AV->AV
 | .row o s => match ka κ o with
  | some j=>.row j s
  | none=>(match σ[o]? with|some (.row s' _ _ xs)=>if s'=s/\y9 xs.flatten=true then .sl false false xs else .junk|_=>.junk)
 | .vw o s i n => match ka κ o with
  | some j=>.vw j s i n
  | none=>(match σ[o]? with|some (.row s' _ _ xs)=>if s'=s/\y9 xs.flatten=true then .sl false false ((xs.drop i).take n)else .junk|_=>.junk)
 | .ptr o k => match ka κ o with
  | some j=>.ptr j k
  | none=>(match σ[o]? with|some (.box cs)=>if y9 cs=true then .ip false (cs.drop k)else .junk|_=>.junk)
 | .ep o s i k=>match ka κ o with|some j=>.ep j s i k|none=>.junk
 | .ag xs=>.ag (fzl κ σ xs)
 | .tu xs=>.tu (fzl κ σ xs)
 | .fn k xs=>.fn k (fzl κ σ xs)
 | .mref o=>match ka κ o with|some j=>.mref j|none=>.junk
 | .gd g x=>.gd g (fz κ σ x)
 | x=>x
def fzl(κ:List Nat)(σ:Sto): List AV->List AV
 | []=>[]
 | x::xs=>fz κ σ x::fzl κ σ xs
end
theorem jz(κ:List Nat)(σ:Sto): ∀xs,fzl κ σ xs=xs.map (fz κ σ)
 | []=>rfl
 | x::xs=>by simp[fzl,jz κ σ xs]
def fzO(κ:List Nat)(σ:Sto): Ob->Ob
 | .gone=>.gone
 | .mp I=>.mp I
 | .box cs=>.box (fzl κ σ cs)
 | .row s e sz xs=>.row s e sz (xs.map (fzl κ σ))
def gcO(κ:List Nat)(σ:Sto)(o:Nat): Ob:=match σ[o]? with|some ob=>fzO κ σ ob|none=>.gone
def gcS(κ:List Nat)(σ:Sto): Sto:=κ.map (gcO κ σ)
theorem jA(κ:List Nat)(σ:Sto): (gcS κ σ).length=κ.length:=by simp[gcS]
theorem vV{κ:List Nat}{σ:Sto}{j:Nat}{ob:Ob}(h:(gcS κ σ)[j]?=some ob): ∃o,κ[j]?=some o/\ob=gcO κ σ o:=by
 simp only[gcS,List.getElem?_map,Option.map_eq_some_iff]at h
 obtain⟨o,h1,h2⟩:=h
 exact⟨o,h1,h2.symm⟩
theorem zcU{κ:List Nat}{σ:Sto}{o s e sz:Nat}{xs:List (List AV)}(h:gcO κ σ o=.row s e sz xs): ∃ys,σ[o]?=some (.row s e sz ys)/\xs=ys.map (fzl κ σ):=by
 unfold gcO at h
 split at h
 ·rename_i ob hs
  cases ob<;>simp[fzO]at h
  obtain⟨rfl,rfl,rfl,rfl⟩:=h
  exact⟨_,hs,rfl⟩
 ·cases h
theorem zih{κ:List Nat}{σ:Sto}{o:Nat}{cs:List AV}(h:gcO κ σ o=.box cs): ∃ys,σ[o]?=some (.box ys)/\cs=fzl κ σ ys:=by
 unfold gcO at h
 split at h
 ·rename_i ob hs
  cases ob<;>simp[fzO]at h
  subst h
  exact⟨_,hs,rfl⟩
 ·cases h
theorem znI{κ:List Nat}{σ:Sto}{o:Nat}{I:Obj->Prop}(h:gcO κ σ o=.mp I): σ[o]?=some (.mp I):=by
 unfold gcO at h
 split at h
 ·rename_i ob hs
  cases ob<;>simp[fzO]at h
  subst h
  exact hs
 ·cases h
theorem zaZ{κ:List Nat}{σ:Sto}{o:Nat}(h:(gcO κ σ o).live=true): ∃ob,σ[o]?=some ob/\ob.live=true:=by
 unfold gcO at h
 split at h
 ·rename_i ob hs
  cases ob<;>simp[fzO,Ob.live]at h
  ·exact⟨_,hs,rfl⟩
  ·exact⟨_,hs,rfl⟩
  ·exact⟨_,hs,rfl⟩
 ·simp[Ob.live]at h
mutual
theorem zii(κ:List Nat)(σ:Sto): ∀x,scp κ.length (fz κ σ x)=true
 | .junk=>rfl
 | .lit _=>rfl
 | .sl _ _ _=>rfl
 | .ip _ _=>rfl
 | .row o s=>by
  simp only[fz]
  split
  ·rename_i j hj
   have:=(List.getElem?_eq_some_iff.1 (yi _ _ _ hj)).1
   simpa[scp]
  ·split
   ·split<;>rfl
   ·rfl
 | .vw o s i n=>by
  simp only[fz]
  split
  ·rename_i j hj
   have:=(List.getElem?_eq_some_iff.1 (yi _ _ _ hj)).1
   simpa[scp]
  ·split
   ·split<;>rfl
   ·rfl
 | .ptr o k=>by
  simp only[fz]
  split
  ·rename_i j hj
   have:=(List.getElem?_eq_some_iff.1 (yi _ _ _ hj)).1
   simpa[scp]
  ·split
   ·split<;>rfl
   ·rfl
 | .ep o s i k=>by
  simp only[fz]
  split
  ·rename_i j hj
   have:=(List.getElem?_eq_some_iff.1 (yi _ _ _ hj)).1
   simpa[scp]
  ·rfl
 | .ag xs=>by simp only[fz,scp];exact zcV κ σ xs
 | .tu xs=>by simp only[fz,scp];exact zcV κ σ xs
 | .fn _ xs=>by simp only[fz,scp];exact zcV κ σ xs
 | .mref o=>by
  simp only[fz]
  split
  ·rename_i j hj
   have:=(List.getElem?_eq_some_iff.1 (yi _ _ _ hj)).1
   simpa[scp]
  ·rfl
 | .gd g x=>by simp only[fz,scp];exact zii κ σ x
theorem zcV(κ:List Nat)(σ:Sto): ∀xs,zad κ.length (fzl κ σ xs)=true
 | []=>rfl
 | x::xs=>by simp only[fzl,zad,zii κ σ x,zcV κ σ xs,Bool.and_self]
end
def gcR(κ:List Nat)(ρ:Rz): Rz:=⟨fun j=>ρ (κ.getD j 0),ρ.fo⟩
theorem vJ{κ:List Nat}{ρ:Rz}{j o:Nat}(h:κ[j]?=some o): gcR κ ρ j=ρ o:=by simp[gcR,List.getD_eq_getElem?_getD,h]
section gc
variable {κ : List Nat} {σ : Sto} {ρ : Rz} {w : World}
theorem zfQ: ∀b,Own (gcS κ σ) (gcR κ ρ) b->Own σ ρ b:=by
 rintro b ⟨j,ob,h1,h2,h3⟩
 obtain⟨o,h4,rfl⟩:=vV h1
 obtain⟨ob,h5,h6⟩:=zaZ h2
 rw[vJ h4]at h3
 exact⟨o,ob,h5,h6,h3⟩
theorem zah: ∀b,jN (gcS κ σ) (gcR κ ρ) b->jN σ ρ b:=fun b h=>h.elim (fun h=>.inl (zfQ b h)) (fun h=>.inr h)
theorem zij{q:Bool}: ∀b,Bset q (gcS κ σ) (gcR κ ρ) b->Bset q σ ρ b:=by
 cases q
 ·exact zah
 ·exact zfQ
theorem zeP(hr:Rel σ ρ w){o:Nat}{ob:Ob}{b:Nat}(ho:σ[o]?=some ob)(hl:ob.live=true)(hb:blk (ρ o)=some b)(hp:ka κ o=none): ¬jN (gcS κ σ) (gcR κ ρ) b:=by
 rintro(⟨j,ob1,h1,h2,h3⟩|h)
 ·obtain⟨o2,h4,rfl⟩:=vV h1
  obtain⟨ob2,h5,h6⟩:=zaZ h2
  rw[vJ h4]at h3
  have:=hr.inj _ _ _ _ _ h5 ho h6 hl h3 hb
  subst this
  exact zd5 _ _ _ hp h4
 ·exact hr.dis b ⟨o,ob,ho,hl,hb⟩ h
theorem zoV(hr:Rel σ ρ w){o s e sz:Nat}{xs:List (List AV)}(ho:σ[o]?=some (.row s e sz xs))(hp:ka κ o=none)(hpu:y9 xs.flatten=true): VR (gcS κ σ) (gcR κ ρ) w (.sl false false xs) (ρ o):=by
 obtain⟨h0,h00,hO⟩:=hr.obj _ _ ho
 simp only[VR]
 rcases hO with⟨⟨a,hO⟩,rfl⟩|⟨b,cap,vs,sp,hb,hh,hle,hm,_,hone,hl⟩
 ·exact⟨a,0,sz,hO,Nat.le_refl _,by simp,by simp,by simp,by simp,fun hne=>absurd rfl hne⟩
 ·refine ⟨_, cap, sz, hb, hle, hm.2, by simp, by simp, h0, fun _ => ⟨b, 0, rfl, (Array.getElem?_eq_some_iff.1 hh).1, ?_, ?_⟩⟩
  ·exact zeP hr ho rfl (by rw[hb];simp[blk];omega) hp
  ·refine zag _ _ _ (zaD _ vs _ _ ?_ hone ?_)
   ·exact PVl.carry (Nat.le_refl _) (fun _ _ _=>rfl) (fun b hb=>.inl (zah b hb)) _ _ (VRl.pv _ _ hl hpu)
   ·intro j u hj
    have:=zU hh j u (by rw[List.getElem?_append_left (List.getElem?_eq_some_iff.1 hj).1];exact hj)
    rw[zQ]at this
    exact this
theorem zcp{M:Nat->Prop}{sz:Nat}: ∀(k:Nat) (xs:List (List AV)) (b o:Nat),(∀x∈xs,x.length=sz)->PVss M w xs b o->PVss M w (xs.drop k) b (o+k*sz)
 | 0,_,_,_,_,h=>by simpa using h
 | _+1,[],_,_,_,_=>by simp[PVss]
 | k+1,x::xs,b,o,hs,h=>by
  simp only[PVss]at h
  have:=zcp k xs b (o+x.length) (fun y hy=>hs y (by simp[hy])) h.2
  rw[hs x (by simp)]at this
  rw[List.drop_succ_cons,Nat.add_mul,show o+(k*sz+1*sz)=o+sz+k*sz from by omega]
  exact this
theorem zcq{M:Nat->Prop}: ∀(k:Nat) (xs:List (List AV)) (b o:Nat),PVss M w xs b o->PVss M w (xs.take k) b o
 | 0,_,_,_,_=>by simp[PVss]
 | _+1,[],_,_,_=>by simp[PVss]
 | k+1,x::xs,b,o,h=>by
  simp only[PVss]at h
  simp only[List.take_succ_cons,PVss]
  exact⟨h.1,zcq k xs b _ h.2⟩
theorem znJ(M:Nat->Prop)(hr:Rel σ ρ w){o s e sz i n c:Nat}{a:Option Addr}{xs:List (List AV)}(ho:σ[o]?=some (.row s e sz xs))(hpu:y9 xs.flatten=true)(hM:∀b,M b->jN σ ρ b)
    (hc:n<=c) (hx:n≠0->∃b N C,ρ o=.slice (some ⟨b,0,none⟩) N C/\i+n<=N/\a=some ⟨b,i*sz,none⟩) :
    ((xs.drop i).take n).length=n/\(∀x∈(xs.drop i).take n,x.length=sz)/\((xs.drop i).take n≠[]->∃b o',a=some ⟨b,o',none⟩/\b<w.heap.size/\blk (ρ o)=some b/\PVss M w ((xs.drop i).take n) b o'):=by
  obtain⟨h0,h00,hO⟩:=hr.obj _ _ ho
  by_cases hn:n=0
  · subst hn;simp
  · obtain⟨b,N,C,hb,hle,ha⟩:=hx hn
    rcases hO with⟨⟨a',hO⟩,rfl⟩|⟨b',cap,vs,sp,hb',hh,hle',hm,_,hone,hl⟩
    · rw[hO]at hb;simp at hb;omega
    · rw[hb']at hb
      simp at hb
      obtain⟨rfl,rfl,rfl⟩:=hb
      refine⟨by simp;omega,fun x hx=>h0 x (List.mem_of_mem_drop (List.mem_of_mem_take hx)),fun _=>⟨b',i*sz,ha,(Array.getElem?_eq_some_iff.1 hh).1,by rw[hb'];simp[blk];omega,?_⟩⟩
      refine zcq _ _ _ _ ?_
      have:=zcp (sz:=sz) (M:=M) (w:=w) i xs b' 0 h0 (zag _ _ _ (zaD _ vs _ _ (PVl.carry (Nat.le_refl _) (fun _ _ _=>rfl) (fun b hb=>.inl (hM b hb)) _ _ (VRl.pv _ _ hl hpu)) hone (by
        intro j u hj
        have:=zU hh j u (by rw[List.getElem?_append_left (List.getElem?_eq_some_iff.1 hj).1];exact hj)
        rw[zQ]at this
        exact this)))
      simpa using this
mutual
theorem zik(hr:Rel σ ρ w): ∀(x:AV) (v:Value),VR σ ρ w x v->VR (gcS κ σ) (gcR κ ρ) w (fz κ σ x) v
 | .junk,_,_=>by simp[VR,fz]
 | .lit _,_,h=>by simpa[VR,fz]using h
 | .sl f q xs,v,h=>by
  simp only[VR,fz]at h ⊢
  obtain⟨a,cap,sz,h1,h2,h3,h4,h5,h6,h7⟩:=h
  refine⟨a,cap,sz,h1,h2,h3,h4,h5,h6,fun hx=>?_⟩
  obtain⟨b,o,ha,hbs,hb,hp⟩:=h7 hx
  exact⟨b,o,ha,hbs,fun h=>hb (zij b h),PVss.carry (Nat.le_refl _) (fun _ _ _=>rfl) (fun b hb=>.inl (zah b hb)) xs b o rfl hp⟩
 | .ip q xs,v,h=>by
  simp only[VR,fz]at h ⊢
  obtain⟨b,o,ha,hbs,hb,hp⟩:=h
  exact⟨b,o,ha,hbs,fun h=>hb (zij b h),PVs.carry (Nat.le_refl _) (fun _ _ _=>rfl) (fun b hb=>.inl (zah b hb)) xs b o rfl hp⟩
 | .row o s,v,h=>by
  simp only[VR]at h
  simp only[fz]
  split
  ·rename_i j hj
   have hj:=yi _ _ _ hj
   simp only[VR]
   refine⟨by rw[jA];exact(List.getElem?_eq_some_iff.1 hj).1,fun s' e sz xs hs=>?_⟩
   obtain⟨o',h1,h2⟩:=vV hs
   rw[hj]at h1;simp at h1;subst h1
   obtain⟨ys,h3,rfl⟩:=zcU h2.symm
   rw[vJ hj]
   exact h.2 _ _ _ _ h3
  ·rename_i hp
   split
   ·rename_i s' e sz xs hs
    split
    ·rename_i hc
     have hv:=(h.2 _ _ _ _ hs).2 hc.1
     rw[hv]
     exact zoV hr hs hp hc.2
    ·simp[VR]
   ·simp[VR]
 | .vw o s i n,v,h=>by
  simp only[VR]at h
  simp only[fz]
  split
  ·rename_i j hj
   have hj:=yi _ _ _ hj
   simp only[VR]
   refine⟨by rw[jA];exact(List.getElem?_eq_some_iff.1 hj).1,fun s' e sz xs hs=>?_⟩
   obtain⟨o',h1,h2⟩:=vV hs
   rw[hj]at h1;simp at h1;subst h1
   obtain⟨ys,h3,rfl⟩:=zcU h2.symm
   rw[vJ hj]
   exact h.2 _ _ _ _ h3
  ·rename_i hp
   split
   ·rename_i s' e sz xs hs
    split
    ·rename_i hc
     obtain⟨a,c,rfl,k2,k3,k4,k5⟩:=(h.2 _ _ _ _ hs).2 hc.1
     obtain⟨m1,m2,m3⟩:=znJ (jN (gcS κ σ) (gcR κ ρ)) hr hs hc.2 zah k2 k5
     simp only[VR]
     refine⟨a,c,sz,by rw[m1],by omega,k3,by simp,k4,m2,fun hne=>?_⟩
     obtain⟨b,o',h1,h2,h3,h4⟩:=m3 hne
     exact⟨b,o',h1,h2,zeP hr hs rfl h3 hp,h4⟩
    ·simp[VR]
   ·simp[VR]
 | .ptr o k,v,h=>by
  simp only[VR]at h
  simp only[fz]
  split
  ·rename_i j hj
   have hj:=yi _ _ _ hj
   simp only[VR]
   refine⟨by rw[jA];exact(List.getElem?_eq_some_iff.1 hj).1,fun cs hs=>?_⟩
   obtain⟨o',h1,h2⟩:=vV hs
   rw[hj]at h1;simp at h1;subst h1
   obtain⟨ys,h3,rfl⟩:=zih h2.symm
   rw[vJ hj]
   exact h.2 _ h3
  ·rename_i hp
   split
   ·rename_i cs hs
    split
    ·rename_i hc
     obtain⟨b,hb,rfl⟩:=h.2 _ hs
     obtain⟨b',ty,vs,hb',hh,hone,hl⟩:=hr.obj _ _ hs
     rw[hb]at hb'
     simp at hb'
     subst hb'
     simp only[VR]
     refine⟨b,k,rfl,(Array.getElem?_eq_some_iff.1 hh).1,zeP hr hs rfl (by rw[hb];rfl) hp,?_⟩
     have:=jS (M:=jN (gcS κ σ) (gcR κ ρ)) (w:=w) k cs b 0 (zaD _ vs _ _ (PVl.carry (Nat.le_refl _) (fun _ _ _=>rfl) (fun b hb=>.inl (zah b hb)) _ _ (VRl.pv _ _ hl hc)) hone (by
      intro j u hj
      have:=zU hh j u hj
      rw[zQ]at this
      exact this))
     simpa using this
    ·simp[VR]
   ·simp[VR]
 | .ep o s i k,v,h=>by
  simp only[VR]at h
  simp only[fz]
  split
  ·rename_i j hj
   have hj:=yi _ _ _ hj
   simp only[VR]
   refine⟨by rw[jA];exact(List.getElem?_eq_some_iff.1 hj).1,fun s' e sz xs hs=>?_⟩
   obtain⟨o',h1,h2⟩:=vV hs
   rw[hj]at h1;simp at h1;subst h1
   obtain⟨ys,h3,rfl⟩:=zcU h2.symm
   rw[vJ hj]
   exact h.2 _ _ _ _ h3
  ·simp[VR]
 | .ag xs,v,h=>by
  simp only[VR]at h
  obtain⟨vs,h1,h2⟩:=h
  simp only[fz,VR]
  exact⟨vs,h1,zcr hr xs vs h2⟩
 | .fn _ xs,v,h=>by
  simp only[VR]at h
  obtain⟨vs,h1,h2⟩:=h
  simp only[fz,VR]
  exact⟨vs,h1,zcr hr xs vs h2⟩
 | .mref o,v,h=>by
  simp only[VR]at h
  simp only[fz]
  split
  ·rename_i j hj
   have hj:=yi _ _ _ hj
   simp only[VR]
   refine⟨by rw[jA];exact(List.getElem?_eq_some_iff.1 hj).1,fun I hs=>?_⟩
   obtain⟨o',h1,h2⟩:=vV hs
   rw[hj]at h1;simp at h1;subst h1
   rw[vJ hj]
   exact h.2 _ (znI h2.symm)
  ·simp[VR]
 | .tu xs,v,h=>by
  simp only[VR]at h
  obtain⟨vs,h1,h2⟩:=h
  simp only[fz,VR]
  exact⟨vs,h1,zcr hr xs vs h2⟩
 | .gd g x,v,h=>by
  simp only[VR]at h
  simp only[fz,VR]
  exact⟨by rw[jA];exact zii _ _ _,fun hg=>zik hr x v (h.2.1 hg),h.2.2⟩
theorem zcr(hr:Rel σ ρ w): ∀(xs:List AV) (vs:List Value),VRl σ ρ w xs vs->VRl (gcS κ σ) (gcR κ ρ) w (fzl κ σ xs) vs
 | [],[],_=>by simp[VRl,fzl]
 | [],_::_,h=>by simp[VRl]at h
 | _::_,[],h=>by simp[VRl]at h
 | x::xs,v::vs,h=>by simp only[VRl]at h;simp only[fzl,VRl];exact⟨zik hr x v h.1,zcr hr xs vs h.2⟩
end
theorem znK(hn:κ.Nodup)(hr:Rel σ ρ w): Rel (gcS κ σ) (gcR κ ρ) w:=by
 refine⟨fun j ob h=>?_,fun j j' ob ob' b h h' l1 l2 e e'=>?_,hr.fol,fun b h=>hr.dis b (zfQ b h)⟩
 ·obtain⟨o,h1,rfl⟩:=vV h
  rw[vJ h1]
  rcases hg:gcO κ σ o with _|cs|⟨s,e,sz,xs⟩|I
  ·trivial
  ·obtain⟨ys,h2,rfl⟩:=zih hg
   obtain⟨b,ty,vs,k1,k2,k3,k4⟩:=hr.obj _ _ h2
   exact⟨b,ty,vs,k1,k2,k3,zcr hr _ _ k4⟩
  ·obtain⟨ys,h2,rfl⟩:=zcU hg
   obtain⟨h0,h00,hO⟩:=hr.obj _ _ h2
   refine⟨fun x hx=>?_,h00,?_⟩
   ·simp only[List.mem_map]at hx
    obtain⟨y,hy,rfl⟩:=hx
    rw[jz,List.length_map];exact h0 y hy
   ·rcases hO with⟨hO,rfl⟩ | ⟨b,cap,vs,sp,k1,k2,k3,k4,k5,k6,k7⟩
    ·exact .inl ⟨hO,rfl⟩
    ·refine .inr ⟨b, cap, vs, sp, by rw [List.length_map]; exact k1, k2, by rw [List.length_map]; exact k3, k4, k5, k6, ?_⟩
     have:=zcr (κ:=κ) hr _ _ k7
     have e:(ys.map (fzl κ σ)).flatten=fzl κ σ ys.flatten:=by
      rw[jz,List.map_flatten]
      congr 1
      apply List.map_congr_left
      intro a _
      exact jz κ σ a
     rw[e];exact this
  ·exact hr.obj _ _ (znI hg)
 ·obtain⟨o,h1,rfl⟩:=vV h
  obtain⟨o',h1',rfl⟩:=vV h'
  obtain⟨b1,h2,h3⟩:=zaZ l1
  obtain⟨b2,h2',h3'⟩:=zaZ l2
  rw[vJ h1]at e
  rw[vJ h1']at e'
  have:=hr.inj _ _ _ _ _ h2 h2' h3 h3' e e'
  subst this
  obtain⟨p1,q1⟩:=List.getElem?_eq_some_iff.1 h1
  obtain⟨p2,q2⟩:=List.getElem?_eq_some_iff.1 h1'
  exact(List.getElem?_inj p1 hn).1 (h1.trans h1'.symm)
theorem zil{n:Nat}(hk:n<=κ.length)(hn:n<=σ.length)(ht:κ.take n=List.range n): Step n σ ρ w (gcS κ σ) (gcR κ ρ) w:=by
 refine⟨rfl,rfl,rfl,Nat.le_refl _,fun _ _ _=>rfl,fun b hb=>.inl (zfQ b hb),hn,by rw[jA];exact hk,fun o ho=>?_,rfl⟩
 have h1:κ[o]?=some o:=by
  have:(κ.take n)[o]?=some o:=by rw[ht];simp[ho]
  rw[List.getElem?_take]at this
  simpa[ho]using this
 have h2:(gcS κ σ)[o]?=some (gcO κ σ o):=by simp[gcS,h1]
 rw[h2,vJ h1]
 have h3:σ[o]?=some σ[o]:=List.getElem?_eq_getElem (by omega)
 unfold gcO
 rw[h3]
 simp only
 cases σ[o]with
 | gone=>trivial
 | mp I=>exact rfl
 | box cs=>exact⟨rfl,by rw[jz,List.length_map]⟩
 | row s e sz xs=>exact⟨rfl,rfl,Nat.le_refl _,fun _=>rfl⟩
def okg(n:Nat)(κ:List Nat): Bool:=decide κ.Nodup && decide (n<=κ.length) && decide (κ.take n=List.range n)
theorem zbl{n:Nat}{κ:List Nat}(h:okg n κ=true): κ.Nodup/\n<=κ.length/\κ.take n=List.range n:=by
 simp only[okg,Bool.and_eq_true,decide_eq_true_eq]at h
 exact⟨h.1.1,h.1.2,h.2⟩
theorem zr2{r:AV}{n:Nat}(h:okg n κ=true): Fin n r σ (fz κ σ r) (gcS κ σ):=by
 obtain⟨h1,h2,h3⟩:=zbl h
 exact fun ρ _ _ hn hr hv=>⟨gcR κ ρ,znK h1 hr,zik hr _ _ hv,zil h2 hn h3⟩
end gc
theorem zbm (f : AV -> AV) (hf : f .junk = .junk) : ∀ (Γ : Env) (i : Nat), get (Γ.map fun p => (p.1, f p.2)) i = f (get Γ i)
 | [],_=>by simp[get,hf]
 | (j,x)::r,i=>by simp only[List.map_cons,get];split<;>simp[zbm f hf r i]
theorem zfR(κ:List Nat)(σ:Sto): ∀l:List Value,fzl κ σ (l.map .lit)=l.map .lit
 | []=>rfl
 | v::l=>by simp only[List.map_cons,fzl,fz,zfR κ σ l]
theorem zoW(κ:List Nat)(σ:Sto)(g:Nat): fz κ σ (zeK g)=zeK g:=by
 unfold zeK
 split
 ·simp only[fz,zfR]
 ·rfl
theorem GV.gc{κ:List Nat}{σ:Sto}{ρ:Rz}{w:World}(h:GV σ ρ w)(hr:Rel σ ρ w): GV (gcS κ σ) (gcR κ ρ) w:=fun g=>by
 have:=zik (κ:=κ) hr _ _ (h g)
 rwa [zoW]at this
theorem zim{N n:Nat}{Γ:Env}{σ:Sto}(κ:List Nat)(h:okg n κ=true): Wk N n Γ σ (Γ.map fun p=>(p.1,fz κ σ p.2)) (gcS κ σ):=by
 obtain⟨h1,h2,h3⟩:=zbl h
 intro ρ w a hn hf hr
 refine⟨gcR κ ρ,⟨hf.1,⟨hf.2.1.1,hf.2.1.2.gc hr⟩,fun i=>?_⟩,znK h1 hr,zil h2 hn h3⟩
 rw[zbm (fz κ σ) rfl]
 exact zik hr _ _ (hf.2.2 i)
theorem zd6{N n:Nat}{Γ Γ':Env}{σ:Sto}(h:∀i,get Γ' i=.junk\/get Γ' i=get Γ i): Wk N n Γ σ Γ' σ:=by
 intro ρ w a hn hf hr
 refine⟨ρ,⟨hf.1,hf.2.1,fun i=>?_⟩,hr,.refl _ _ _ _ hn⟩
 rcases h i with h|h
 ·rw[h];simp[VR]
 ·rw[h];exact hf.2.2 i
theorem Wk.trans{N n:Nat}{Γ Γ' Γ'':Env}{σ σ' σ'':Sto}(h:Wk N n Γ σ Γ' σ')(k:Wk N n Γ' σ' Γ'' σ''): Wk N n Γ σ Γ'' σ'':=by
 intro ρ w a hn hf hr
 obtain⟨ρ',f',r',s'⟩:=h ρ w a hn hf hr
 obtain⟨ρ2,f2,r2,s2⟩:=k ρ' w a s'.len' f' r'
 exact⟨ρ2,f2,r2,s'.trans s2⟩
/-! calls -/
def ACall(P:Program)(f:FuncId)(args:List AV)(σ:Sto)(Q:AV->Sto->Prop): Prop:=
 ∀ρ w vs,Rel σ ρ w->GV σ ρ w->VRl σ ρ w args vs ->
  Calls P f vs.toArray w fun e w'=>∃r σ' ρ' v,e=.returned v/\Q r σ'/\Rel σ' ρ' w'/\VR σ' ρ' w' r v/\Step σ.length σ ρ w σ' ρ' w'
theorem ACall.mono{P:Program}{f:FuncId}{args:List AV}{σ:Sto}{Q Q':AV->Sto->Prop}(h:ACall P f args σ Q)(hq:∀r σ',Q r σ'->Q' r σ'): ACall P f args σ Q':=
 fun ρ w vs hr hG hv=>(h ρ w vs hr hG hv).mono fun _ _ ⟨r,σ',ρ',v,h1,h2,h3⟩=>⟨r,σ',ρ',v,h1,hq _ _ h2,h3⟩
def AEq(P:Program)(f:FuncId)(args:List AV)(σ:Sto)(r:AV)(σ':Sto): Prop:=ACall P f args σ fun x τ=>x=r/\τ=σ'
theorem AEq.use{P:Program}{f:FuncId}{args:List AV}{σ σ':Sto}{r:AV}{Q:AV->Sto->Prop}(h:AEq P f args σ r σ')(hq:Q r σ'): ACall P f args σ Q:=
 ACall.mono h fun _ _ ⟨h1,h2⟩=>by subst h1;subst h2;exact hq
theorem zly{P:Program}{N:Nat}{o:Oper}{Γ:Env}{σ:Sto}{K:AV->Sto->Prop}{f:FuncId}{args:Array Operand}{ts:Array TypeId}(ho:o.op=.call { callee:=.value (.func f),args:=args,argTypes:=ts })
    (hc:∀(args:Array Value) (w:World),(callFunc f args).run P w=.ok (.enter f args) w) (h:ACall P f (args.toList.map (ev Γ)) σ K):SOp P N o Γ σ K:=by
  intro ρ w a next Q hf hr hn
  have hrun:(execOp a.eval o).run P w=.ok (.enter f (args.map a.eval)) w:=by
    simp[execOp,ho,resolve,Deferred.ofValue,Act.eval,invoke,hc]
  unfold Oper.wp
  rw[hrun,Oper.upon_enter]
  have hvs:∀l:List Operand,VRl σ ρ w (l.map (ev Γ)) (l.map a.eval):=by
    intro l
    induction l with
    | nil=>simp[VRl]
    | cons x l ih=>simp only[List.map_cons,VRl];exact⟨hf.ev x,ih⟩
  have:=h ρ w (args.toList.map a.eval) hr hf.2.1.2 (hvs _)
  have harr:(args.toList.map a.eval).toArray=args.map a.eval:=Array.ext' (by simp)
  rw[harr]at this
  refine this.mono ?_
  rintro e w' ⟨r,σ',ρ',v,rfl,h2,h3,h4,h5⟩
  exact hn r σ' ρ' w' v h2 h3 h4 h5
/-! a function's own frame -/
def enter: Nat->List AV->Env
 | _,[]=>[]
 | i,x::xs=>(i,x)::enter (i+1) xs
theorem zd7{σ:Sto}{ρ:Rz}{w:World}: ∀(xs:List AV) (vs:List Value) (k:Nat),VRl σ ρ w xs vs->∀i (tl:Array Value),(∀j,j<k->True)->VR σ ρ w (get (enter k xs) (k+i)) ((vs.toArray++tl).getD i undef)
 | [],_,_,_,i,_,_=>by simp[enter,get,VR]
 | _::_,[],_,h,_,_,_=>by simp[VRl]at h
 | x::xs,v::vs,k,h,i,tl,_=>by
  simp only[VRl]at h
  simp only[enter,get]
  cases i with
  | zero=>simpa[Array.getElem?_append]using h.1
  | succ i=>
   rw[if_neg (by omega)]
   have:=zd7 xs vs (k+1) h.2 i tl (fun _ _=>trivial)
   rw[show k+(i+1)=k+1+i from by omega]
   have e:((v::vs).toArray++tl).getD (i+1) undef=(vs.toArray++tl).getD i undef:=by
    simp only[Array.getD_eq_getD_getElem?]
    congr 1
    simp[Array.getElem?_append]
   rw[e]
   exact this
def z3(P:Program)(Γ:Env)(σ:Sto): ResultVar->Option AV
 | .tmp t=>some (get Γ t)
 | .cell p t => match get Γ p with
  | .ptr o k=>(match σ[o]? with|some (.box cs)=>v7 P t k cs|_=>none)
  | _=>none
def zb7(P:Program)(Γ:Env)(σ:Sto)(l:List ResultVar): Option AV:=
 match l with
 | [x]=>z3 P Γ σ x
 | l=>(l.mapM (z3 P Γ σ)).map .tu
theorem zcs{P:Program}{N:Nat}{Γ:Env}{σ:Sto}{ρ:Rz}{w:World}{a:Act}(hf:FR N Γ σ ρ w a)(hr:Rel σ ρ w){x:ResultVar}{r:AV}(h:z3 P Γ σ x=some r):
    ∃v,((match x with|.tmp t=>pure (a.tmps.getD t undef)|.cell p t=>do loadVar t (<-asAddr (a.tmps.getD p undef)):Sem Value)).run P w=.ok v w/\VR σ ρ w r v:=by
  cases x with
  | tmp t=>
    simp only[z3,Option.some.injEq]at h
    subst h
    exact⟨_,rfl,hf.2.2 t⟩
  | cell p t=>
    simp only[z3]at h
    split at h
    · rename_i oo k hg
      have hx:=hf.2.2 p
      rw[hg]at hx
      split at h
      · rename_i cs hs
        simp only[VR]at hx
        obtain⟨b,hb,he⟩:=hx.2 _ hs
        obtain⟨b',ty,vs,hb',hh,h1,hl⟩:=hr.obj _ _ hs
        rw[hb]at hb'
        simp at hb'
        subst hb'
        obtain⟨v,h2,h3⟩:=yq (P:=P) (k:=k) hl (zU hh) h
        exact⟨v,by simpa only[he,asAddr,Sem.run_bind,Sem.run_pure,Result.andThen_ok,Nat.zero_add]using h2,h3⟩
      · cases h
    · cases h
theorem zeQ{P:Program}{N:Nat}{Γ:Env}{σ:Sto}{ρ:Rz}{w:World}{a:Act}{fn:Func}(hf:FR N Γ σ ρ w a)(hr:Rel σ ρ w){r:AV}(h:zb7 P Γ σ fn.results.toList=some r):
    ∃v,(results fn a.tmps).run P w=.ok v w/\VR σ ρ w r v:=by
  have many:∀(l:List ResultVar) (rs:List AV),l.mapM (z3 P Γ σ)=some rs ->
      ∃vs,(l.mapM (m:=Sem) fun|.tmp t=>pure (a.tmps.getD t undef)|.cell p t=>do loadVar t (<-asAddr (a.tmps.getD p undef))).run P w=.ok vs w/\VRl σ ρ w rs vs:=by
    intro l
    induction l with
    | nil=>intro rs h;simp at h;subst h;exact⟨[],by simp,by simp[VRl]⟩
    | cons x l ih=>
      intro rs h
      simp only[List.mapM_cons,Option.bind_eq_bind,Option.bind_eq_some_iff,Option.pure_def,Option.some.injEq]at h
      obtain⟨y,hy,ys,hys,rfl⟩:=h
      obtain⟨v,h1,h2⟩:=zcs hf hr hy
      obtain⟨vs,h3,h4⟩:=ih ys hys
      refine⟨v::vs,?_,by simp only[VRl];exact⟨h2,h4⟩⟩
      simp only[List.mapM_cons,Sem.run_bind,h1,Result.andThen_ok,h3,Sem.run_pure]
  have arr:∀l:List ResultVar,fn.results.toList=l->fn.results=l.toArray:=fun l h=>by rw[<-h]
  have go : ∀ (l : List ResultVar) (vs : List Value), fn.results.toList = l -> (l.mapM (m := Sem) fun | .tmp t => pure (a.tmps.getD t undef) | .cell p t => do loadVar t (<- asAddr (a.tmps.getD p undef))).run P w = .ok vs w ->
      (results fn a.tmps).run P w=.ok (if h:vs.toArray.size=1 then vs.toArray[0]else .tuple vs.toArray) w:=by
    intro l vs hl h
    unfold results
    rw[Array.mapM_eq_mapM_toList,hl]
    rw[Sem.run_bind,Sem.run_map]
    have h':=h
    refine Eq.trans (congrArg (fun x=>(Result.andThen x _:Result Value)) (congrArg (fun x=>(Result.andThen x _:Result (Array Value))) h')) ?_
    rfl
  unfold zb7 at h
  split at h
  · rename_i x hx
    obtain⟨v,h1,h2⟩:=zcs hf hr h
    refine⟨v,?_,h2⟩
    have:=go [x] [v] hx (by simp only[List.mapM_cons,List.mapM_nil,Sem.run_bind,h1,Result.andThen_ok,Sem.run_pure])
    simpa using this
  · rename_i hne
    simp only[Option.map_eq_some_iff]at h
    obtain⟨rs,h1,rfl⟩:=h
    obtain⟨vs,h2,h3⟩:=many _ _ h1
    have:=go _ vs rfl h2
    have hl:=z1 _ _ h3
    have hlen:∀(l:List ResultVar) (rs:List AV),l.mapM (z3 P Γ σ)=some rs->rs.length=l.length:=by
      intro l
      induction l with
      | nil=>intro rs h;simp at h;subst h;rfl
      | cons x l ih=>
        intro rs h
        simp only[List.mapM_cons,Option.bind_eq_bind,Option.bind_eq_some_iff,Option.pure_def,Option.some.injEq]at h
        obtain⟨y,hy,ys,hys,rfl⟩:=h
        simp[ih ys hys]
    have h1':=hlen _ _ h1
    have hnot:¬vs.toArray.size=1:=by
      intro e
      have e2:fn.results.toList.length=1:=by simp at e;omega
      match hq:fn.results.toList,e2 with
      | [x],_=>exact hne x hq
    rw[dif_neg hnot]at this
    exact⟨_,this,by simp only[VR];exact⟨vs,rfl,h3⟩⟩
theorem zh{P:Program}{f:FuncId}{fn:Func}{c:Code}{N:Nat}{args:List AV}{σ:Sto}{Q:AV->Sto->Prop}(hf:P.funcs[f]?=some fn)(hb:fn.body=some c)(hN:fn.ntmps=N)(ha:args.length<=N)
    (h:Scoped σ->PWp P N σ.length c (enter 0 args) σ (fun e Γ σ'=>(e=.normal\/e=.ret)/\∃r,zb7 P Γ σ' fn.results.toList=some r/\∃r' σ'',Fin σ.length r σ' r' σ''/\Q r' σ'')):ACall P f args σ Q:=by
  intro ρ w vs hr hG hv
  refine calls_of_wp hf hb ?_
  have hl:=z1 _ _ hv
  have hfr:FR N (enter 0 args) σ ρ w { tmps:=vs.toArray++Array.replicate (fn.ntmps-vs.toArray.size) undef,defers:=[] }:=by
    refine⟨by simp[hN];omega,⟨rfl,hG⟩,fun i=>?_⟩
    have:=zd7 args vs 0 hv i (Array.replicate (fn.ntmps-vs.toArray.size) undef) (fun _ _=>trivial)
    simpa using this
  refine wp_mono (h hr.scOf ρ w _ (Nat.le_refl _) hfr hr) ?_
  rintro e a' w' ⟨Γ',σ',ρ',⟨he,r,hres,r',σ2,hfin,hq⟩,f',r1,st⟩
  obtain⟨v,hv1,hv2⟩:=zeQ (P:=P) f' r1 hres
  obtain⟨ρ2,r2,v2,s2⟩:=hfin ρ' w' v st.len' r1 hv2
  rcases he with rfl|rfl
  · exact⟨f'.2.1.1,v,hv1,r',σ2,ρ2,v,rfl,hq,r2,v2,st.trans s2⟩
  · exact⟨f'.2.1.1,v,hv1,r',σ2,ρ2,v,rfl,hq,r2,v2,st.trans s2⟩
/-! aop is sound -/
def zaP(σ:Sto): AV->Bool
 | .ptr o _=>(match σ[o]? with|some (.box _)=>true|_=>false)
 | .ep o s _ _=>(match σ[o]? with|some (.row s' _ _ _)=>s' == s|_=>false)
 | .ip _ _=>true
 | _=>false
theorem zbn{N:Nat}{Γ:Env}{σ:Sto}{ρ:Rz}{w:World}{a:Act}{x:Operand}(hl:zaP σ (ev Γ x)=true)(hf:FR N Γ σ ρ w a)(_:Rel σ ρ w): ∃ad,a.eval x=.pointer (some ad):=by
 have hx:=hf.ev x
 generalize ev Γ x=X at hl hx
 cases X with
 | ptr o k=>
  simp only[zaP]at hl
  split at hl
  ·rename_i cs hs
   simp only[VR]at hx
   obtain⟨b,_,he⟩:=hx.2 _ hs
   exact⟨_,he⟩
  ·cases hl
 | ep o s i k=>
  simp only[zaP]at hl
  split at hl
  ·rename_i s' e sz xs hs
   simp only[VR]at hx
   obtain⟨b,n,c,_,he⟩:=(hx.2 _ _ _ _ hs).2 (by simpa using hl)
   exact⟨_,he⟩
  ·cases hl
 | ip q cs=>simp only[VR,PV]at hx;obtain⟨b,o,he,_⟩:=hx;exact⟨_,he⟩
 | junk=>cases hl
 | mref o=>cases hl
 | lit v=>cases hl
 | sl f q xs=>cases hl
 | vw o s i n=>cases hl
 | row o s=>cases hl
 | ag xs=>cases hl
 | tu xs=>cases hl
 | gd g x=>cases hl
 | fn _ _=>cases hl
theorem zd8{P:Program}{N:Nat}{o:Oper}{Γ:Env}{σ:Sto}{x:Operand}(ho:o.op=.nilCheck x)(hl:zaP σ (ev Γ x)=true){ρ:Rz}{w:World}{a:Act}(hf:FR N Γ σ ρ w a)(hr:Rel σ ρ w): ∃v,(execOp a.eval o).run P w=.ok (.value v) w/\VR σ ρ w (ev Γ x) v:=by
 obtain⟨ad,had⟩:=zbn hl hf hr
 exact⟨_,by simp[execOp,ho,had];rfl,by rw[<-had];exact hf.ev x⟩
theorem zeR{P:Program}{N:Nat}{o:Oper}{Γ:Env}{σ:Sto}{x:Operand}{i:Nat}{xs:List AV}{y:AV}(ho:o.op=.extract x i)(hx:ev Γ x=.tu xs)(hy:xs[i]?=some y){ρ:Rz}{w:World}{a:Act}(hf:FR N Γ σ ρ w a)(hr:Rel σ ρ w): ∃v,(execOp a.eval o).run P w=.ok (.value v) w/\VR σ ρ w y v:=by
 have h:=hf.ev x
 rw[hx]at h
 simp only[VR]at h
 obtain⟨vs,he,hl⟩:=h
 obtain⟨v,h1,h2⟩:=zbi _ _ hl _ _ hy
 exact⟨v,by simp[execOp,ho,he,Instr.extract,h1],h2⟩
theorem jT{P:Program}{N:Nat}{o:Oper}{Γ:Env}{σ:Sto}{K:AV->Sto->Prop}{x:Operand}{i:Nat}{xs:List AV}{y:AV}(ho:o.op=.extract x i)(hx:ev Γ x=.tu xs)(hy:xs[i]?=some y)(hK:K y σ): SOp P N o Γ σ K:=SOp.pure _ (fun ρ w a hf hr=>zeR ho hx hy hf hr) hK
def zh7(g:Bool): AV->AV
 | .gd g' x=>if g'=g then x else .gd g' x
 | x=>x
theorem zeS{σ:Sto}{ρ:Rz}{w:World}{g:Bool}(hg:g=true){x:AV}{v:Value}(h:VR σ ρ w x v): VR σ ρ w (zh7 g x) v:=by
 cases x<;>simp only[zh7]<;>try exact h
 split
 ·rename_i e
  simp only[VR]at h
  exact h.2.1 (e.trans hg)
 ·exact h
def zbo(c x y:AV): Option AV:=
 match c with
 | .lit (.bool true)=>some (zh7 true x)
 | .lit (.bool false)=>some (zh7 true y)
 | _=>none
theorem zin{P:Program}{N:Nat}{o:Oper}{Γ:Env}{σ:Sto}{c x y:Operand}(ho:o.op=.pick c x y){z:AV}(hz:zbo (ev Γ c) (ev Γ x) (ev Γ y)=some z){ρ:Rz}{w:World}{a:Act}(hf:FR N Γ σ ρ w a)(_:Rel σ ρ w):
    ∃v,(execOp a.eval o).run P w=.ok (.value v) w/\VR σ ρ w z v:=by
  have hc:=hf.ev c
  have hx:=hf.ev x
  have hy:=hf.ev y
  generalize ev Γ c=C at hz hc
  unfold zbo at hz
  split at hz
  · simp only[VR]at hc
    simp only[Option.some.injEq]at hz
    subst hz
    exact⟨a.eval x,by simp[execOp,ho,hc,asBool],zeS rfl hx⟩
  · simp only[VR]at hc
    simp only[Option.some.injEq]at hz
    subst hz
    exact⟨a.eval y,by simp[execOp,ho,hc,asBool],zeS rfl hy⟩
  · cases hz
def opn(g:Bool)(Γ:Env): Env:=Γ.map fun p=>(p.1,zh7 g p.2)
theorem znL{N:Nat}{Γ:Env}{σ:Sto}{ρ:Rz}{w:World}{a:Act}{g:Bool}(hg:g=true)(h:FR N Γ σ ρ w a): FR N (opn g Γ) σ ρ w a:=by
 refine⟨h.1,h.2.1,fun i=>?_⟩
 unfold opn
 rw[zbm (zh7 g) rfl]
 exact zeS hg (h.2.2 i)
def opv(P:Program)(o:Oper)(Γ:Env)(σ:Sto): Option AV:=
 match o.op with
 | .move x=>some (ev Γ x)
 | .pick c x y=>zbo (ev Γ c) (ev Γ x) (ev Γ y)
 | .nilCheck x=>if zaP σ (ev Γ x)=true then some (ev Γ x)else none
 | .binOp op t x y _=>y7 P σ op t (ev Γ x) (ev Γ y)
 | .unOp op _ x=>aun op (ev Γ x)
 | .convert s d x=>zhq P s d (ev Γ x)
 | .field t x f=>zd2 P t (ev Γ x) f
 | .index t x i=>zbj P t (ev Γ x) (ev Γ i)
 | .fieldAddr t x f=>if zaP σ (ev Γ x)=true then zd3 P t (ev Γ x) f else none
 | .load t x=>zeL P σ t (ev Γ x)
 | .call c => (match c.callee, c.args.toList, c.argTypes.toList with
  | .builtin .len,[x],[t]=>(zeH P σ t (ev Γ x)).map fun n=>.lit (.int .i64 n)
  | _,_,_=>none)
 | _=>none
theorem zai{P:Program}{N:Nat}{o:Oper}{Γ:Env}{σ:Sto}{z:AV}(hz:opv P o Γ σ=some z){ρ:Rz}{w:World}{a:Act}(hf:FR N Γ σ ρ w a)(hr:Rel σ ρ w): ∃v,(execOp a.eval o).run P w=.ok (.value v) w/\VR σ ρ w z v:=by
 unfold opv at hz
 split at hz
 ·rename_i x ho
  simp only[Option.some.injEq]at hz
  subst hz
  exact⟨a.eval x,by simp[execOp,ho],hf.ev x⟩
 ·rename_i ho;exact zin ho hz hf hr
 ·rename_i ho
  split at hz
  ·rename_i hl
   simp only[Option.some.injEq]at hz
   subst hz
   exact zd8 ho hl hf hr
  ·cases hz
 ·rename_i ho;exact zlw ho hz hf hr
 ·rename_i ho;exact zoT ho hz hf hr
 ·rename_i ho;exact zia ho hz hf hr
 ·rename_i ho;exact zhs ho hz hf hr
 ·rename_i ho;exact zht ho hz hf hr
 ·rename_i ho
  split at hz
  ·rename_i hl;exact zhu ho hz (fun ρ w a hf hr=>zbn hl hf hr) hf hr
  ·cases hz
 ·rename_i ho;exact zib ho hz hf hr
 ·rename_i c ho
  obtain⟨ce,args,ts⟩:=c
  dsimp only at hz
  split at hz
  ·rename_i x t ha ht
   simp only[Option.map_eq_some_iff]at hz
   obtain⟨n,hn,rfl⟩:=hz
   exact zlx ho ha ht hn hf hr
  ·cases hz
 ·cases hz
def opB(P:Program)(g:Bool)(o:Oper)(Γ:Env)(σ:Sto): Option AV:=opv P o (opn g Γ) σ
def gB(P:Program)(g:Bool)(o:Oper)(Γ:Env)(σ:Sto): Option AV:=match opB P g o Γ σ with|some x=>if scp σ.length x=true then some x else none|none=>none
theorem kB(P:Program)(N:Nat): zww P N (gB P):=by
 intro g o Γ σ x hx ρ w a hf hr
 unfold gB at hx
 split at hx
 ·rename_i y hy
  split at hx
  ·rename_i hs
   simp only[Option.some.injEq]at hx
   subst hx
   exact⟨hs,fun hg=>zai hy (znL hg hf) hr⟩
  ·cases hx
 ·cases hx
def ro(P:Program)(N:Nat)(ops:Array Oper)(l:List Oper)(Γ:Env)(σ:Sto)(K:Env->Sto->Prop): Prop:=rgn (SOp P N) (gB P) N ops l Γ σ K
section steps
variable {P : Program} {N : Nat} {ops : Array Oper} {Γ : Env} {σ : Sto} {K : Env -> Sto -> Prop} {d : Nat} {op : Op} {ty : TypeId} {pos : String} {af : Array Edge} {l : List Oper} {j : Nat} {want : Bool}
theorem zl(h:K Γ σ): ro P N ops [] Γ σ K:=h
theorem zH(hd:Oper.dstOk N ⟨some d,op,ty,pos,af,none⟩=true:=by rfl)(h:SOp P N ⟨some d,op,ty,pos,af,none⟩ Γ σ (fun x σ'=>ro P N ops l ((d,x)::Γ) σ' K)): ro P N ops (⟨some d,op,ty,pos,af,none⟩::l) Γ σ K:=⟨hd,h⟩
theorem zlz{z:AV}(hd:Oper.dstOk N ⟨some d,op,ty,pos,af,none⟩=true)(hv:opv P ⟨some d,op,ty,pos,af,none⟩ Γ σ=some z:=by(try simp(disch:=omega)only[go_sem,seval,↓reduceIte,hU])<;>rfl)(h:ro P N ops l ((d,z)::Γ) σ K): ro P N ops (⟨some d,op,ty,pos,af,none⟩::l) Γ σ K:=
 zH hd (SOp.pure z (fun _ _ _ hf hr=>zai hv hf hr) h)
theorem zwx{x:Operand}{z:AV}(hd:Oper.dstOk N ⟨some d,.assign x,ty,pos,af,none⟩=true)(hv:ev Γ x=z:=by(try simp(disch:=omega)only[go_sem,seval,↓reduceIte,hU])<;>rfl)(h:ro P N ops l ((d,z)::Γ) σ K): ro P N ops (⟨some d,.assign x,ty,pos,af,none⟩::l) Γ σ K:=
 zH hd (SOp.pure z (fun _ _ a hf _=>⟨a.eval x,by simp[execOp],by rw[<-hv];exact hf.ev x⟩) h)
theorem zza{x:Operand}{i:Nat}{xs:List AV}{y:AV}(hd:Oper.dstOk N ⟨some d,.extract x i,ty,pos,af,none⟩=true)(hx:ev Γ x=.tu xs:=by(try simp(disch:=omega)only[go_sem,seval,↓reduceIte,hU])<;>rfl)(hy:xs[i]?=some y:=by rfl)(h:ro P N ops l ((d,y)::Γ) σ K): ro P N ops (⟨some d,.extract x i,ty,pos,af,none⟩::l) Γ σ K:=
 zH hd (jT rfl hx hy h)
theorem zzR{t:Bool}{z:AV}(hd:Oper.dstOk N ⟨some d,op,ty,pos,af,some (j,want)⟩=true)(hg:gdv ops Γ j=some t)(hv:gB P (t == want) ⟨some d,op,ty,pos,af,some (j,want)⟩ Γ σ=some z)
    (h:ro P N ops l ((d,.gd (t == want) z)::Γ) σ K):ro P N ops (⟨some d,op,ty,pos,af,some (j,want)⟩::l) Γ σ K:=by
  unfold ro rgn
  simp only[hg]
  exact⟨hd,.inl ⟨z,hv,h⟩⟩
theorem zoX{t:Bool}(hd:Oper.dstOk N ⟨some d,op,ty,pos,af,some (j,want)⟩=true)(hg:gdv ops Γ j=some t)
    (h1:t=want->SOp P N ⟨some d,op,ty,pos,af,some (j,want)⟩ Γ σ (fun x σ'=>ro P N ops l ((d,x)::Γ) σ' K)) (h2:t≠want->ro P N ops l ((d,.lit undef)::Γ) σ K):ro P N ops (⟨some d,op,ty,pos,af,some (j,want)⟩::l) Γ σ K:=by
  unfold ro rgn
  simp only[hg]
  exact⟨hd,.inr ⟨h1,h2⟩⟩
theorem SOp.opn{o:Oper}{K:AV->Sto->Prop}(h:SOp P N o (Lf.opn true Γ) σ K): SOp P N o Γ σ K:=
 fun ρ w a next Q hf hr hn=>h ρ w a next Q (znL rfl hf) hr hn
theorem zeT (hd : Oper.dstOk N ⟨some d, op, ty, pos, af, some (j, want)⟩ = true := by rfl) (hg : gdv ops Γ j = some want := by simp only [go_sem, seval, ↓reduceIte, hU] <;> rfl)
    (h:SOp P N ⟨some d,op,ty,pos,af,some (j,want)⟩ (Lf.opn true Γ) σ (fun x σ'=>ro P N ops l ((d,x)::Γ) σ' K)):ro P N ops (⟨some d,op,ty,pos,af,some (j,want)⟩::l) Γ σ K:=
  zoX hd hg (fun _=>SOp.opn h) (fun e=>absurd rfl e)
theorem zio(g:Bool)(Γ:Env)(i:Nat): get (Lf.opn g Γ) i=zh7 g (get Γ i):=zbm (zh7 g) rfl Γ i
theorem zr3(g:Bool)(Γ:Env)(n:Nat): ev (Lf.opn g Γ) (.tmp n)=zh7 g (get Γ n):=zio g Γ n
theorem zwy {t : Bool} (hd : Oper.dstOk N ⟨some d, op, ty, pos, af, some (j, want)⟩ = true) (hg : gdv ops Γ j = some t := by simp only [go_sem, seval, ↓reduceIte, hU] <;> rfl) (hn : t = !want)
    (h:ro P N ops l ((d,.lit undef)::Γ) σ K):ro P N ops (⟨some d,op,ty,pos,af,some (j,want)⟩::l) Γ σ K:=
  zoX hd hg (fun e=>by subst hn;cases want<;>cases e) (fun _=>h)
theorem zaj(hd:Oper.dstOk N ⟨none,op,ty,pos,af,none⟩=true:=by rfl)(h:SOp P N ⟨none,op,ty,pos,af,none⟩ Γ σ (fun _ σ'=>ro P N ops l Γ σ' K)): ro P N ops (⟨none,op,ty,pos,af,none⟩::l) Γ σ K:=⟨hd,h⟩
end steps
def rg(P:Program)(N:Nat)(ops:Array Oper)(l:List Oper)(Γ:Env)(σ:Sto)(K:Env->Sto->Prop): Prop:=
 ∀(n:Nat) (Q:Exit->Act->World->Prop) (σ0:Sto) (ρ0:Rz) (w0:World),(∀Γ σ ρ a w,K Γ σ->FR N Γ σ ρ w a->Rel σ ρ w->Step n σ0 ρ0 w0 σ ρ w->Q .normal a w) ->
  ∀ρ a w,FR N Γ σ ρ w a->Rel σ ρ w->Step n σ0 ρ0 w0 σ ρ w->wpList P ops Q l a w
theorem zip{P:Program}{N n:Nat}{Γ:Env}{σ:Sto}{Q:Exit->Env->Sto->Prop}{id:Nat}{l:List Oper}(h:rg P N l.toArray l Γ σ (Q .normal)): PWp P N n (.region id l.toArray false) Γ σ Q:=by
 intro ρ w a hn hf hr
 refine wp_region_lit ?_
 exact h n _ σ ρ w (fun Γ' σ' ρ' a' w' hK hf' hr' st=>⟨Γ',σ',ρ',hK,hf',hr',st⟩) ρ a w hf hr (.refl _ _ _ _ hn)
theorem kb{P:Program}{N n:Nat}{Γ:Env}{σ:Sto}{Q:Exit->Env->Sto->Prop}{K:Env->Sto->Prop}{id:Nat}{l:List Oper}(h:rg P N l.toArray l Γ σ K): PWp P N n (.region id l.toArray false) Γ σ (yk K Q):=
 zip h
section steps2
variable {P : Program} {N : Nat} {ops : Array Oper} {Γ : Env} {σ : Sto} {K : Env -> Sto -> Prop} {d : Nat} {op : Op} {ty : TypeId} {pos : String} {af : Array Edge} {l : List Oper} {j : Nat} {want : Bool}
theorem zfS(h:K Γ σ): rg P N ops [] Γ σ K:=fun n Q σ0 ρ0 w0 hQ ρ a w hf hr st=>hQ _ _ _ _ _ h hf hr st
theorem znM{o:Oper}(hg:o.guard=none)(hd:Oper.dstOk N o=true)(h:SOp P N o Γ σ (fun x σ'=>rg P N ops l (put Γ o.dst x) σ' K)): rg P N ops (o::l) Γ σ K:=by
 intro n Q σ0 ρ0 w0 hQ ρ a w hf hr st
 unfold wpList
 rw[if_pos (by simp[Region.wanted,hg])]
 refine .inl (h ρ w a _ Q hf hr ?_)
 intro x σ' ρ' w' v hK hr' hv st'
 exact hK n Q σ0 ρ0 w0 hQ ρ' _ w' ((hf.carry st').put _ (zaB hd) _ _ hv) hr' (st.trans (st'.mono st.len'))
theorem zlA(hd:Oper.dstOk N ⟨some d,op,ty,pos,af,none⟩=true)(h:SOp P N ⟨some d,op,ty,pos,af,none⟩ Γ σ (fun x σ'=>rg P N ops l ((d,x)::Γ) σ' K)): rg P N ops (⟨some d,op,ty,pos,af,none⟩::l) Γ σ K:=znM rfl hd h
theorem zrO(hd:Oper.dstOk N ⟨none,op,ty,pos,af,none⟩=true)(h:SOp P N ⟨none,op,ty,pos,af,none⟩ Γ σ (fun _ σ'=>rg P N ops l Γ σ' K)): rg P N ops (⟨none,op,ty,pos,af,none⟩::l) Γ σ K:=znM rfl hd h
theorem zfT{z:AV}(hd:Oper.dstOk N ⟨some d,op,ty,pos,af,none⟩=true)(hv:opv P ⟨some d,op,ty,pos,af,none⟩ Γ σ=some z:=by(try simp(disch:=omega)only[go_sem,seval,↓reduceIte,hU])<;>rfl)(h:rg P N ops l ((d,z)::Γ) σ K): rg P N ops (⟨some d,op,ty,pos,af,none⟩::l) Γ σ K:=
 zlA hd (SOp.pure z (fun _ _ _ hf hr=>zai hv hf hr) h)
theorem zvO{x:Operand}{z:AV}(hd:Oper.dstOk N ⟨some d,.assign x,ty,pos,af,none⟩=true)(hv:ev Γ x=z:=by(try simp(disch:=omega)only[go_sem,seval,↓reduceIte,hU])<;>rfl)(h:rg P N ops l ((d,z)::Γ) σ K): rg P N ops (⟨some d,.assign x,ty,pos,af,none⟩::l) Γ σ K:=
 zlA hd (SOp.pure z (fun _ _ a hf _=>⟨a.eval x,by simp[execOp],by rw[<-hv];exact hf.ev x⟩) h)
theorem zzb{x:Operand}{i:Nat}{xs:List AV}{y:AV}(hd:Oper.dstOk N ⟨some d,.extract x i,ty,pos,af,none⟩=true)(hx:ev Γ x=.tu xs:=by(try simp(disch:=omega)only[go_sem,seval,↓reduceIte,hU])<;>rfl)(hy:xs[i]?=some y)(h:rg P N ops l ((d,y)::Γ) σ K): rg P N ops (⟨some d,.extract x i,ty,pos,af,none⟩::l) Γ σ K:=
 zlA hd (jT rfl hx hy h)
theorem zak{Γ:Env}{σ:Sto}{ρ:Rz}{w:World}{a:Act}{t:Bool}(hgd:gdv ops Γ j=some t)(hf:FR N Γ σ ρ w a): yielded ops a.tmps j=some t:=by
 unfold gdv at hgd
 split at hgd
 ·rename_i d hd
  split at hgd
  ·rename_i t' ht
   simp only[Option.some.injEq]at hgd
   subst hgd
   have hv:=hf.2.2 d
   rw[ht]at hv
   simp only[VR]at hv
   have hv2:a.tmps[d]?=some (.bool t'):=by
    rw[Array.getD_eq_getD_getElem?]at hv
    cases hq:a.tmps[d]? with
    | none=>rw[hq]at hv;simp[undef]at hv
    | some q=>rw[hq]at hv;simpa using hv
   simp only[yielded,hd,Option.bind_some,hv2]
  ·cases hgd
 ·cases hgd
theorem zzS{t:Bool}{z:AV}(hd:Oper.dstOk N ⟨some d,op,ty,pos,af,some (j,want)⟩=true)(hg:gdv ops Γ j=some t)(hv:gB P (t == want) ⟨some d,op,ty,pos,af,some (j,want)⟩ Γ σ=some z)
    (h:rg P N ops l ((d,.gd (t == want) z)::Γ) σ K):rg P N ops (⟨some d,op,ty,pos,af,some (j,want)⟩::l) Γ σ K:=by
  intro n Q σ0 ρ0 w0 hQ ρ a w hf hr st
  have hy:=zak hg hf
  obtain⟨hsc,hgv⟩:=kB P N _ _ _ _ _ hv ρ w a hf hr
  unfold wpList
  by_cases htw:t=want
  · rw [if_pos (by simp [Region.wanted, hy, htw])]
    refine .inl ?_
    obtain⟨v,h1,h2⟩:=hgv (by simp[htw])
    unfold Oper.wp
    rw[h1,Oper.upon_value]
    exact h n Q σ0 ρ0 w0 hQ _ _ _ (hf.put _ (zaB hd) _ _ (by simp only[VR];exact⟨hsc,fun _=>h2,fun e=>by simp[htw]at e⟩)) hr st
  · rw [if_neg (by simp [Region.wanted, hy, htw])]
    exact h n Q σ0 ρ0 w0 hQ _ _ _ (hf.put _ (zaB hd) _ _ (by simp only[VR];exact⟨hsc,fun e=>absurd e (by simp[htw]),fun _=>trivial⟩)) hr st
theorem zr4{t:Bool}(hd:Oper.dstOk N ⟨some d,op,ty,pos,af,some (j,want)⟩=true)(hg:gdv ops Γ j=some t)
    (h1:t=want->SOp P N ⟨some d,op,ty,pos,af,some (j,want)⟩ Γ σ (fun x σ'=>rg P N ops l ((d,x)::Γ) σ' K)) (h2:t≠want->rg P N ops l ((d,.lit undef)::Γ) σ K):rg P N ops (⟨some d,op,ty,pos,af,some (j,want)⟩::l) Γ σ K:=by
  intro n Q σ0 ρ0 w0 hQ ρ a w hf hr st
  have hy:=zak hg hf
  unfold wpList
  by_cases htw:t=want
  · rw [if_pos (by simp [Region.wanted, hy, htw])]
    refine .inl (h1 htw ρ w a _ Q hf hr ?_)
    intro x σ' ρ' w' v hK hr' hv st'
    exact hK n Q σ0 ρ0 w0 hQ ρ' _ w' ((hf.carry st').put _ (zaB hd) _ _ hv) hr' (st.trans (st'.mono st.len'))
  · rw [if_neg (by simp [Region.wanted, hy, htw])]
    exact h2 htw n Q σ0 ρ0 w0 hQ _ _ _ (hf.put _ (zaB hd) _ _ (by simp[VR])) hr st
theorem ziq (hd : Oper.dstOk N ⟨some d, op, ty, pos, af, some (j, want)⟩ = true) (hg : gdv ops Γ j = some want := by simp only [go_sem, seval, ↓reduceIte, hU] <;> rfl)
    (h:SOp P N ⟨some d,op,ty,pos,af,some (j,want)⟩ (Lf.opn true Γ) σ (fun x σ'=>rg P N ops l ((d,x)::Γ) σ' K)):rg P N ops (⟨some d,op,ty,pos,af,some (j,want)⟩::l) Γ σ K:=
  zr4 hd hg (fun _=>SOp.opn h) (fun e=>absurd rfl e)
theorem znN {z : AV} (hd : Oper.dstOk N ⟨some d, op, ty, pos, af, some (j, want)⟩ = true) (hg : gdv ops Γ j = some want := by simp only [go_sem, seval, ↓reduceIte, hU] <;> rfl) (hv : opv P ⟨some d, op, ty, pos, af, some (j, want)⟩ (Lf.opn true Γ) σ = some z := by (try simp (disch := omega) only [go_sem, seval, ↓reduceIte, hU]) <;> rfl)
    (h:rg P N ops l ((d,z)::Γ) σ K):rg P N ops (⟨some d,op,ty,pos,af,some (j,want)⟩::l) Γ σ K:=
  ziq hd hg (SOp.pure z (fun _ _ _ hf hr=>zai hv hf hr) h)
theorem zr5 {t : Bool} (hd : Oper.dstOk N ⟨some d, op, ty, pos, af, some (j, want)⟩ = true) (hg : gdv ops Γ j = some t := by simp only [go_sem, seval, ↓reduceIte, hU] <;> rfl) (hn : t = !want)
    (h:rg P N ops l ((d,.lit undef)::Γ) σ K):rg P N ops (⟨some d,op,ty,pos,af,some (j,want)⟩::l) Γ σ K:=
  zr4 hd hg (fun e=>by subst hn;cases want<;>cases e) (fun _=>h)
theorem zr6 (hd : Oper.dstOk N ⟨some d, op, ty, pos, af, some (j, want)⟩ = true) (hg : gdv ops Γ j = none := by first | (simp only [undef, go_sem, seval, ↓reduceIte, hU]; done) | (simp only [undef, go_sem, seval, ↓reduceIte, hU]; rfl)) (hn : gdn ops Γ j = true := by first | (simp only [undef, go_sem, seval, ↓reduceIte, hU]; done) | (simp only [undef, go_sem, seval, ↓reduceIte, hU]; rfl))
    (h:rg P N ops l ((d,.lit undef)::Γ) σ K):rg P N ops (⟨some d,op,ty,pos,af,some (j,want)⟩::l) Γ σ K:=by
  intro n Q σ0 ρ0 w0 hQ ρ a w hf hr st
  have hy:=vI hn hf
  unfold wpList
  rw[if_neg (by simp[Region.wanted,hy])]
  exact h n Q σ0 ρ0 w0 hQ _ _ _ (hf.put _ (zaB hd) _ _ (by simp[VR])) hr st
def Opens(x y:AV): Prop:=y=x\/x=.gd true y\/((∃z,x=.gd false z)/\y=.lit undef)
theorem zoY{x:AV}: Opens (.gd true x) x:=.inr (.inl rfl)
theorem zoZ{x:AV}: Opens (.gd false x) (.lit undef):=.inr (.inr ⟨⟨x,rfl⟩,rfl⟩)
theorem zo0{x:AV}: Opens x x:=.inl rfl
def EnvW: Env->Env->Prop
 | [],[]=>True
 | (i,x)::Γ,(j,y)::Γ'=>i=j/\Opens x y/\EnvW Γ Γ'
 | _,_=>False
theorem zlB: EnvW [] []:=trivial
theorem zir{i:Nat}{x y:AV}{Γ Γ':Env}(h:Opens x y)(k:EnvW Γ Γ'): EnvW ((i,x)::Γ) ((i,y)::Γ'):=⟨rfl,h,k⟩
theorem Opens.VR{ρ:Rz}{w:World}{x y:AV}{v:Value}(h:Opens x y)(hv:Lf.VR σ ρ w x v): Lf.VR σ ρ w y v:=by
 rcases h with rfl|rfl|⟨⟨z,rfl⟩,rfl⟩
 ·exact hv
 ·simp only[Lf.VR]at hv;exact hv.2.1 trivial
 ·simp only[Lf.VR]at hv ⊢;exact hv.2.2 trivial
theorem EnvW.get{ρ:Rz}{w:World}: ∀(Γ Γ':Env) (i:Nat) (v:Value),EnvW Γ Γ'->Lf.VR σ ρ w (Lf.get Γ i) v->Lf.VR σ ρ w (Lf.get Γ' i) v
 | [],[],_,_,_,h=>h
 | [],_::_,_,_,h,_=>by simp[EnvW]at h
 | _::_,[],_,_,h,_=>by simp[EnvW]at h
 | (k,x)::Γ,(k',y)::Γ',i,v,h,hv=>by
  simp only[EnvW]at h
  obtain⟨rfl,h1,h2⟩:=h
  simp only[Lf.get]at hv ⊢
  split
  ·rename_i e;rw[if_pos e]at hv;exact h1.VR hv
  ·rename_i e;rw[if_neg e]at hv;exact EnvW.get Γ Γ' i v h2 hv
theorem kC{Γ2:Env}(h:EnvW Γ Γ2)(hk:rg P N ops l Γ2 σ K): rg P N ops l Γ σ K:=
 fun n Q σ0 ρ0 w0 hQ ρ a w hf hr st=>hk n Q σ0 ρ0 w0 hQ ρ a w ⟨hf.1,hf.2.1,fun i=>h.get _ _ _ _ (hf.2.2 i)⟩ hr st
def gdx(ops:Array Oper)(Γ:Env)(j:Nat): AV:=match (ops[j]?).bind (·.dst)with|some d=>Lf.get Γ d|none=>.junk
theorem zP{t:Bool}(hg:gdv ops Γ j=some t)
    (h1:t=true->rg P N ops (⟨some d,op,ty,pos,af,some (j,want)⟩::l) Γ σ K) (h2:t=false->rg P N ops (⟨some d,op,ty,pos,af,some (j,want)⟩::l) Γ σ K):rg P N ops (⟨some d,op,ty,pos,af,some (j,want)⟩::l) Γ σ K:=by
  cases t
  · exact h2 rfl
  · exact h1 rfl
theorem zK{t:Bool}{x:AV}(hg:gdx ops Γ j=.gd t x)
    (h1:t=true->rg P N ops (⟨some d,op,ty,pos,af,some (j,want)⟩::l) Γ σ K) (h2:t=false->rg P N ops (⟨some d,op,ty,pos,af,some (j,want)⟩::l) Γ σ K):rg P N ops (⟨some d,op,ty,pos,af,some (j,want)⟩::l) Γ σ K:=by
  cases t
  · exact h2 rfl
  · exact h1 rfl
end steps2
end Go.Lf
namespace Go.Lf
theorem vY{xs:List (List AV)}{sz:Nat}(h:∀x∈xs,x.length=sz): ∀n,n<=xs.length->(xs.take n).flatten=xs.flatten.take (n*sz)/\(xs.drop n).flatten=xs.flatten.drop (n*sz):=by
 induction xs with
 | nil=>intro n hn;simp at hn;subst hn;simp
 | cons x xs ih=>
  intro n hn
  cases n with
  | zero=>simp
  | succ n=>
   have:=ih (fun y hy=>h y (by simp[hy])) n (by simpa using hn)
   have hx:=h x (by simp)
   have e:(n+1)*sz=x.length+n*sz:=by rw[Nat.add_mul,hx];omega
   constructor
   ·simp only[List.take_succ_cons,List.flatten_cons,e,List.take_append,this.1]
    rw[List.take_of_length_le (show x.length<=x.length+n*sz by omega)]
    simp
   ·simp only[List.drop_succ_cons,List.flatten_cons,e,List.drop_append,this.2]
    simp
def rd(σ:Sto): AV->Option (List (List AV))
 | .sl _ _ xs=>some xs
 | .vw o s i n=>(match σ[o]? with|some (.row s' _ _ xs)=>if s'=s/\i+n<=xs.length then some ((xs.drop i).take n)else none|_=>none)
 | .row o s=>(match σ[o]? with|some (.row s' _ _ xs)=>if s'=s then some xs else none|_=>none)
 | _=>none
theorem zct{σ:Sto}{ρ:Rz}{w:World}(hr:Rel σ ρ w){y:AV}{v:Value}(h:VR σ ρ w y v){ys:List (List AV)}(hy:rd σ y=some ys):
    ∃a cap,∃vs:List Value,v=.slice a ys.length cap/\ys.length<=cap/\cap<=maxLen/\(a=none->cap=0)/\(ys≠[]->∃b o,a=some ⟨b,o,none⟩/\b<w.heap.size) /\
      (∀ad,a=some ad->∀j u,vs[j]?=some u->w.cell? (ad.add j)=some u)/\(∀u∈vs,u.oneCell'=true)/\VRl σ ρ w ys.flatten vs:=by
  unfold rd at hy
  split at hy
  · rename_i f xs
    simp only[Option.some.injEq]at hy
    subst hy
    simp only[VR,PV]at h
    obtain⟨a,cap,sz,h1,h2,h3,_,h5,h6,h7⟩:=h
    by_cases hx:xs=[]
    · subst hx
      exact⟨a,cap,[],h1,h2,h3,h5,fun e=>absurd rfl e,by simp,by simp,by simp[VRl]⟩
    · obtain⟨b,o,ha,hb,hm,hp⟩:=h7 hx
      obtain⟨vs,k1,k2,k3,k4⟩:=zcT _ _ _ (zd4 _ _ _ hp)
      refine⟨a,cap,vs,h1,h2,h3,h5,fun _=>⟨b,o,ha,hb⟩,fun ad had=>?_,k3,PV_VR.go _ _ k4⟩
      rw[ha]at had
      simp at had
      subst had
      exact k2
  · rename_i o s i n
    split at hy
    · rename_i s' e sz xs hs
      split at hy
      · rename_i hss
        obtain⟨hss,hle0⟩:=hss
        simp only[Option.some.injEq]at hy
        subst hy
        simp only[VR]at h
        obtain⟨a,c,hv,k2,k3,k4,k5⟩:=(h.2 _ _ _ _ hs).2 hss
        have hlen:((xs.drop i).take n).length=n:=by simp;omega
        obtain⟨h0,h00,hO⟩:=hr.obj _ _ hs
        by_cases hn:n=0
        · subst hn
          exact⟨a,c,[],by rw[hv];simp,by simp,k3,k4,by simp,by simp,by simp,by simp[VRl]⟩
        · obtain⟨b,NN,C,hb,hle,ha⟩:=k5 hn
          rcases hO with⟨⟨a',hO⟩,rfl⟩|⟨b',cap,vs,sp,hb',hh,hle',hm,_,hone,hl⟩
          · rw[hO]at hb;simp at hb;omega
          · rw[hb']at hb
            simp at hb
            obtain⟨rfl,rfl,rfl⟩:=hb
            have hsub:∀x∈xs.drop i,x.length=sz:=fun x hx=>h0 x (List.mem_of_mem_drop hx)
            have e1:=(vY h0 i (by omega)).2
            have e2:=(vY hsub n (by simp;omega)).1
            refine⟨a,c,(vs.drop (i*sz)).take (n*sz),by rw[hv,hlen],by rw[hlen];exact k2,k3,k4,fun _=>⟨b',_,ha,(Array.getElem?_eq_some_iff.1 hh).1⟩,fun ad had j u hj=>?_,fun u hu=>hone u (List.mem_of_mem_drop (List.mem_of_mem_take hu)),?_⟩
            · rw[ha]at had
              simp at had
              subst had
              rw[List.getElem?_take]at hj
              split at hj
              · rw[List.getElem?_drop]at hj
                have:=zU hh (i*sz+j) u (by rw[List.getElem?_append_left (List.getElem?_eq_some_iff.1 hj).1];exact hj)
                rw[zQ]at this ⊢
                simpa using this
              · cases hj
            · rw[e2,e1]
              exact v8 _ _ _ (vj _ _ _ hl)
      · cases hy
    · cases hy
  · rename_i o s
    split at hy
    · rename_i s' e sz xs hs
      split at hy
      · rename_i hss
        simp only[Option.some.injEq]at hy
        subst hy
        simp only[VR]at h
        have hv:=(h.2 _ _ _ _ hs).2 hss
        obtain⟨h0,h00,hO⟩:=hr.obj _ _ hs
        rcases hO with⟨⟨a,hO⟩,rfl⟩|⟨b,cap,vs,sp,hb,hh,hle,hm,_,hone,hl⟩
        · exact⟨a,0,[],by rw[hv,hO];rfl,by simp,by simp,by simp,by simp,by simp,by simp,by simp[VRl]⟩
        · refine ⟨some ⟨b, 0, none⟩, cap, vs, by rw [hv, hb], hle, hm.2, by simp, fun _ => ⟨b, 0, rfl, (Array.getElem?_eq_some_iff.1 hh).1⟩, fun ad had j u hj => ?_, hone, hl⟩
          simp at had
          subst had
          exact zU hh j u (by rw[List.getElem?_append_left (List.getElem?_eq_some_iff.1 hj).1];exact hj)
      · cases hy
    · cases hy
  · cases hy
theorem yQ{xs:List (List AV)}{sz:Nat}(h:∀x∈xs,x.length=sz): xs.flatten.length=xs.length*sz:=by
 induction xs with
 | nil=>simp
 | cons x xs ih=>
  simp only[List.flatten_cons,List.length_append,List.length_cons,h x (by simp),ih (fun y hy=>h y (by simp[hy])),Nat.add_mul]
  omega
def EO(P:Program)(e sz by':Nat)(z:Value): Prop:=(P.info? e).map (fun i=>(i.zero,i.size,i.bytes))=some (some z,sz,by')/\z.cells.size=sz/\0<sz
theorem EO.parts{P:Program}{e sz by':Nat}{z:Value}(h:EO P e sz by' z): ∃i,P.info? e=some i/\i.zero=some z/\i.size=sz/\i.bytes=by':=by
 obtain⟨h1,_⟩:=h
 cases hi:P.info? e with
 | none=>rw[hi]at h1;simp at h1
 | some i=>rw[hi]at h1;simp at h1;exact⟨i,rfl,h1.1,h1.2.1,h1.2.2⟩
section append
variable {P : Program} {w : World} {t ty e sz bt : Nat} {z : Value}
theorem vK(ht:P.underlying t=some (.slice e))(he:EO P e sz bt z)(a:Option Addr)(n c:Nat)(hc:n<=c)(b:Option Addr)(c':Nat):
    (Builtin.append_ #[t,t] ty #[.slice a n c,.slice b 0 c']).run P w=.ok (.slice a n c) w:=by
  obtain⟨i,hi,hz,h1,h2⟩:=he.parts
  cases a<;>cases b<;>simp[Builtin.append_,zn ht,sizeOf,typeInfo,hi,Builtin.lenOf,hc,Builtin.firstCells,loadCells,loadCellsFrom,storeCells]
theorem jj(ht:P.underlying t=some (.slice e))(he:EO P e sz bt z)(a:Option Addr)(n c:Nat)(olds:List Value)(hl:olds.length=n*sz)(ha:a=none->c=0)(hnc:n<=c)(holds:∀ad,a=some ad->∀j u,olds[j]?=some u->w.cell? (ad.add j)=some u)
    (b:Addr) (m c':Nat) (news:List Value) (hln:news.length=m*sz) (hnews:∀j u,news[j]?=some u->w.cell? (b.add j)=some u) (hm:0<m) (hg:c<n+m) (h63:n+m<=maxLen) (hb:(n+m)*bt<=140737488355328) :
    ∃cap,∃sp:List Value,(Builtin.append_ #[t,t] ty #[.slice a n c,.slice (some b) m c']).run P w=.ok (.slice (some ⟨w.heap.size,0,none⟩) (n+m) cap) (w.drew.alloc (.cells (olds++news++sp).toArray e)) /\
      n+m<=cap/\cap<=maxLen/\(olds++news++sp).length=cap*sz:=by
  obtain⟨i,hi,hz,h1,h2⟩:=he.parts
  have hzs:=he.2.1
  subst h1 h2
  have h63':((n+m:Nat):Int)<=9223372036854775807:=by simp only[maxLen]at h63;omega
  cases a with
  | none=>
    obtain rfl:=ha rfl
    obtain rfl:n=0:=by omega
    have ho:olds=[]:=List.eq_nil_of_length_eq_zero (by simpa using hl)
    subst ho
    have hr:=run_append_nil (P:=P) w t ty e i z ht hi hz b m c' news hln hnews hm (by simpa using h63') (by have:=hb;simp only[Nat.zero_add]at this;omega)
    refine⟨grownCap w m 0 e,(Builtin.zeroCells z.cells (grownCap w m 0 e-m)).toList,?_,?_,?_,?_⟩
    · rw[hr,show(news.toArray++Builtin.zeroCells z.cells (grownCap w m 0 e-m))=([]++news++(Builtin.zeroCells z.cells (grownCap w m 0 e-m)).toList).toArray from Array.ext' (by simp),Nat.zero_add]
    · have:=grownCap_ge w m 0 e;omega
    · exact grownCap_le_maxLen w m 0 e (by omega)
    · have:=grownCap_ge w m 0 e
      simp only[List.nil_append,List.length_append,Array.length_toList,size_zeroCells,hzs,hln,<-Nat.add_mul]
      congr 1;omega
  | some ad=>
    have hr:=run_append_grow (P:=P) w t ty e i z ht hi hz ad n c olds hl (holds ad rfl) b m c' news hln hnews hg h63' (growslice_fits hg hb)
    refine⟨grownCap w (n+m) c e,(Builtin.zeroCells z.cells (grownCap w (n+m) c e-(n+m))).toList,?_,grownCap_ge w (n+m) c e,grownCap_le_maxLen w (n+m) c e h63,?_⟩
    · rw[hr,show(olds.toArray++news.toArray++Builtin.zeroCells z.cells (grownCap w (n+m) c e-(n+m)))=(olds++news++(Builtin.zeroCells z.cells (grownCap w (n+m) c e-(n+m))).toList).toArray from Array.ext' (by simp)]
    · have:=grownCap_ge w (n+m) c e
      simp only[List.length_append,Array.length_toList,size_zeroCells,hzs,hl,hln,<-Nat.add_mul]
      congr 1;omega
end append
theorem zeU{σ:Sto}{ρ:Rz}{w w':World}(hr:Rel σ ρ w)(os:w'.os=w.os)(tape:w'.tape=w.tape)(out:w'.output=w.output)(hz:w.heap.size<=w'.heap.size)(hk:∀b,b<w.heap.size->w'.heap[b]?=w.heap[b]?)
    {e sz:Nat} {xs:List (List AV)} {vs sp:List Value} {b cap:Nat} (hb:w.heap.size<=b) (hh:w'.heap[b]?=some (.cells (vs++sp).toArray e (0,0))) (h0:∀x∈xs,x.length=sz) (h00:0<sz) (hle:xs.length<=cap) (hm:0<cap/\cap<=maxLen)
    (hc:(vs++sp).length=cap*sz) (hone:∀v∈vs,v.oneCell'=true) (hl:VRl σ ρ w xs.flatten vs) :
    ∃ρ',Rel (σ++[.row 0 e sz xs]) ρ' w'/\VR (σ++[.row 0 e sz xs]) ρ' w' (.row σ.length 0) (.slice (some ⟨b,0,none⟩) xs.length cap)/\Step σ.length σ ρ w (σ++[.row 0 e sz xs]) ρ' w':=by
  have hbb:∀c,blk (.slice (some ⟨b,0,none⟩) xs.length cap)=some c->w.heap.size<=c:=by intro c hc;simp[blk]at hc;omega
  have st:=zaY (σ:=σ) (ρ:=ρ) (ob:=.row 0 e sz xs) os tape out hz hk hbb
  refine⟨_,zeN hr hr.blk_lt os tape out hz hk hbb ?_,?_,st⟩
  · exact⟨h0,h00,.inr ⟨b,cap,vs,sp,rfl,hh,hle,hm,hc,hone,VRl.carry st _ _ hl⟩⟩
  · simp only[VR]
    refine⟨by simp,fun s' e' sz' xs' hs=>?_⟩
    simp at hs
    obtain⟨rfl,_⟩:=hs
    exact⟨Nat.le_refl _,fun _=>by rw[yh]⟩
theorem kc{σ:Sto}{ρ:Rz}{w w':World}(hr:Rel σ ρ w)(os:w'.os=w.os)(tape:w'.tape=w.tape)(out:w'.output=w.output)(hz:w.heap.size<=w'.heap.size)(hk:∀b,b<w.heap.size->w'.heap[b]?=w.heap[b]?){e sz:Nat}(h00:0<sz)(ad:Option Addr):
    ∃ρ',Rel (σ++[.row 0 e sz []]) ρ' w'/\VR (σ++[.row 0 e sz []]) ρ' w' (.row σ.length 0) (.slice ad 0 0)/\Step σ.length σ ρ w (σ++[.row 0 e sz []]) ρ' w':=by
  have hbb:∀c,blk (.slice ad 0 0)=some c->w.heap.size<=c:=by intro c hc;cases ad<;>simp[blk]at hc
  have st:=zaY (w:=w) (w':=w') (σ:=σ) (ρ:=ρ) (ob:=.row 0 e sz []) os tape out hz hk hbb
  refine⟨_,zeN hr hr.blk_lt os tape out hz hk hbb ⟨by simp,h00,.inl ⟨⟨ad,rfl⟩,rfl⟩⟩,?_,st⟩
  simp only[VR]
  refine⟨by simp,fun s' e' sz' xs' hs=>?_⟩
  simp at hs
  obtain⟨rfl,_⟩:=hs
  exact⟨Nat.le_refl _,fun _=>by rw[yh]⟩
theorem jB{P:Program}{o:Oper}{a:Act}{w w':World}{x y:Operand}{t:TypeId}{v:Value}(ho:o.op=.call { callee:=.builtin .append,args:=#[x,y],argTypes:=#[t,t] })
    (h:(Builtin.append_ #[t,t] o.type #[a.eval x,a.eval y]).run P w=.ok v w'):(execOp a.eval o).run P w=.ok (.value v) w':=by
  simp[execOp,ho,resolve,invoke,builtin,h]
theorem zcb{P:Program}{N:Nat}{o:Oper}{Γ:Env}{σ:Sto}{K:AV->Sto->Prop}{x y:Operand}{t e sz bt:Nat}{z:Value}{xs ys:List (List AV)}
    (ho:o.op=.call { callee:=.builtin .append,args:=#[x,y],argTypes:=#[t,t] }) (ht:P.underlying t=some (.slice e)) (he:EO P e sz bt z)
    {q:Bool} (hx:ev Γ x=.sl true q xs) (hne:xs=[]\/ys≠[]) (hy:rd σ (ev Γ y)=some ys) (hxs:∀x∈xs,x.length=sz) (hys:∀y∈ys,y.length=sz) (hb:(xs.length+ys.length)*bt<=140737488355328) (h63:xs.length+ys.length<=maxLen)
    (hK:K (.row σ.length 0) (σ++[.row 0 e sz (xs++ys)])):SOp P N o Γ σ K:=by
  intro ρ w a next Q hf hr hn
  obtain⟨ay,cy,vy,ey,ly,my,ny,sy,ry,oy,Vy⟩:=zct hr (hf.ev y) hy
  have hlx:=yQ hxs
  have hly:=yQ hys
  have hlv:=z1 _ _ Vy
  have all:∀q∈xs++ys,q.length=sz:=by intro q hq;simp only[List.mem_append]at hq;exact hq.elim (hxs q) (hys q)
  have X:∃ax cx,∃vx:List Value,a.eval x=.slice ax xs.length cx/\xs.length<=cx/\(ax=none->cx=0)/\(∀ad,ax=some ad->∀j u,vx[j]?=some u->w.cell? (ad.add j)=some u)/\(∀u∈vx,u.oneCell'=true)/\VRl σ ρ w xs.flatten vx/\(ys≠[]->cx<xs.length+ys.length)/\(ys=[]->∃ad,a.eval x=.slice ad 0 0/\xs=[]):=by
    have hX:=hf.ev x
    rw[hx]at hX
    obtain⟨ax,cx,vx,h1,h2,h3,h4,h5,h6,h7,h8⟩:=zct hr hX (ys:=xs) rfl
    simp only[VR]at hX
    obtain⟨a',cap',sz',k1,_,_,k4,_⟩:=hX
    rw[h1]at k1
    simp at k1
    obtain⟨_,rfl⟩:=k1
    have k4:=k4 trivial
    refine⟨ax,cx,vx,h1,h2,h4,h6,h7,h8,fun hy=>?_,fun e=>?_⟩
    · have : 0 < ys.length := by simpa [List.length_pos_iff] using hy
      omega
    · have hx0 : xs = [] := hne.elim id (fun h => absurd e h)
      subst hx0
      exact⟨ax,by rw[h1,k4];rfl,rfl⟩
  obtain⟨ax,cx,vx,ex,lx,nx,rx,ox,Vx,gx,zx⟩:=X
  have hlvx:=z1 _ _ Vx
  unfold Oper.wp
  by_cases hyz:ys=[]
  · obtain⟨ad,h1,rfl⟩:=zx hyz
    subst hyz
    obtain⟨ρ',h2,h3,h4⟩:=kc (w':=w) (e:=e) hr rfl rfl rfl (Nat.le_refl _) (fun _ _=>rfl) he.2.2 ad
    have hrun:=vK (w:=w) (ty:=o.type) ht he ad 0 0 (Nat.le_refl _) ay cy
    rw[jB ho (by rw[h1,ey];exact hrun),Oper.upon_value]
    exact hn _ _ _ _ _ (by simpa using hK) h2 h3 h4
  · obtain⟨b,o',hay,_⟩:=sy hyz
    subst hay
    have hpos:0<ys.length:=by simpa[List.length_pos_iff]using hyz
    obtain⟨cap,sp,hrun,hc1,hc2,hc3⟩:=jj (w:=w) (ty:=o.type) ht he ax xs.length cx vx (by omega) nx lx rx ⟨b,o',none⟩ ys.length cy vy (by omega) (ry _ rfl) hpos (gx hyz) h63 hb
    have hk:∀c,c<w.heap.size->(w.drew.alloc (.cells (vx++vy++sp).toArray e)).heap[c]?=w.heap[c]?:=fun c hc=>heap_alloc_old w.drew _ c hc
    obtain ⟨ρ', h2, h3, h4⟩ := zeU (w' := w.drew.alloc (.cells (vx ++ vy ++ sp).toArray e)) (xs := xs ++ ys) (sz := sz) (e := e) (vs := vx ++ vy) (sp := sp) (b := w.heap.size) (cap := cap) hr rfl rfl rfl (by simp) hk (Nat.le_refl _) (heap_alloc_new w.drew _) all he.2.2 (by simpa using hc1) ⟨by omega, hc2⟩ hc3
      (by intro u hu;simp only[List.mem_append]at hu;exact hu.elim (ox u) (oy u)) (by rw[List.flatten_append];exact vv _ _ _ _ Vx Vy)
    rw[jB ho (by rw[ex,ey];exact hrun),Oper.upon_value]
    exact hn _ _ _ _ _ hK h2 (by simpa using h3) h4
theorem zcc{P:Program}{N:Nat}{o:Oper}{Γ:Env}{σ:Sto}{K:AV->Sto->Prop}{x y:Operand}{t e sz bt oo s:Nat}{z:Value}{xs ys:List (List AV)}
    (ho:o.op=.call { callee:=.builtin .append,args:=#[x,y],argTypes:=#[t,t] }) (ht:P.underlying t=some (.slice e)) (he:EO P e sz bt z)
    (hx:ev Γ x=.row oo s) (hs:σ[oo]?=some (.row s e sz xs)) (hy:rd σ (ev Γ y)=some ys) (hys:∀y∈ys,y.length=sz) (hb:(xs.length+ys.length)*bt<=140737488355328) (h63:xs.length+ys.length<=maxLen)
    (hK:K (.row oo (s+1)) (σ.set oo (.row (s+1) e sz (xs++ys)))):SOp P N o Γ σ K:=by
  intro ρ w a next Q hf hr hn
  obtain⟨ay,cy,vy,ey,ly,my,ny,sy,ry,oy,Vy⟩:=zct hr (hf.ev y) hy
  have hly:=yQ hys
  have hlv:=z1 _ _ Vy
  have hX:=hf.ev x
  rw[hx]at hX
  simp only[VR]at hX
  have hv:=(hX.2 _ _ _ _ hs).2 rfl
  have hlt:=hX.1
  obtain⟨h0,h00,hO⟩:=hr.obj _ _ hs
  have hlx:=yQ h0
  have all:∀q∈xs++ys,q.length=sz:=by intro q hq;simp only[List.mem_append]at hq;exact hq.elim (h0 q) (hys q)
  obtain⟨i,hi,hz,hi1,hi2⟩:=he.parts
  -- what is common to all ways
  have fin:∀(v':Value) (w':World),(Builtin.append_ #[t,t] o.type #[a.eval x,a.eval y]).run P w=.ok v' w'->w'.os=w.os->w'.tape=w.tape->w'.output=w.output->w.heap.size<=w'.heap.size ->
      (∀b,b<w.heap.size->blk (ρ oo)≠some b->w'.heap[b]?=w.heap[b]?)->(∀b,blk v'=some b->blk (ρ oo)=some b\/w.heap.size<=b) ->
      (((∃ad,v'=.slice ad 0 0)/\xs++ys=[])\/∃b cap,∃vs sp:List Value,v'=.slice (some ⟨b,0,none⟩) (xs++ys).length cap/\w'.heap[b]?=some (.cells (vs++sp).toArray e (0,0))/\(xs++ys).length<=cap/\(0<cap/\cap<=maxLen)/\(vs++sp).length=cap*sz/\(∀v∈vs,v.oneCell'=true)/\VRl σ ρ w (xs++ys).flatten vs) ->
      (execOp a.eval o).run P w=.ok (.value v') w'/\∃ρ',Rel (σ.set oo (.row (s+1) e sz (xs++ys))) ρ' w'/\VR (σ.set oo (.row (s+1) e sz (xs++ys))) ρ' w' (.row oo (s+1)) v'/\Step σ.length σ ρ w (σ.set oo (.row (s+1) e sz (xs++ys))) ρ' w':=by
    intro v' w' hrun os tp ou hsz hk hbl hrow
    refine⟨jB ho hrun,upd ρ oo v',?_⟩
    have hobj:ObjStep (some (.row s e sz xs)) (some (.row (s+1) e sz (xs++ys))) (ρ oo) v':=by simp only[ObjStep,true_and];omega
    have st:=v9 (σ:=σ) (ρ:=ρ) (w:=w) (w':=w') (r:=v') hs rfl hobj os tp ou hsz hk (fun b _=>hbl b)
    refine⟨zaf hr hs rfl hobj os tp ou hsz hk (fun b _=>hbl b) ⟨all,h00,?_⟩,?_,st⟩
    · rcases hrow with h | ⟨b,cap,vs,sp,k1,k2,k3,k4,k5,k6,k7⟩
      · exact .inl h
      · exact .inr ⟨b,cap,vs,sp,k1,k2,k3,k4,k5,k6,VRl.carry st _ _ k7⟩
    · simp only[VR,List.length_set]
      refine⟨hlt,fun s' e' sz' xs' hs'=>?_⟩
      rw[List.getElem?_set_self hlt]at hs'
      simp at hs'
      obtain⟨rfl,_⟩:=hs'
      exact⟨Nat.le_refl _,fun _=>by rw[yh]⟩
  have done:∀v' w',((execOp a.eval o).run P w=.ok (.value v') w'/\∃ρ',Rel (σ.set oo (.row (s+1) e sz (xs++ys))) ρ' w'/\VR (σ.set oo (.row (s+1) e sz (xs++ys))) ρ' w' (.row oo (s+1)) v'/\Step σ.length σ ρ w (σ.set oo (.row (s+1) e sz (xs++ys))) ρ' w')->o.wp P a w next Q:=by
    rintro v' w' ⟨h1,ρ',h2,h3,h4⟩
    unfold Oper.wp
    rw[h1,Oper.upon_value]
    exact hn _ _ _ _ _ hK h2 h3 h4
  by_cases hyz:ys=[]
  · subst hyz
    rcases hO with⟨⟨ad,hO⟩,rfl⟩|⟨b,cap,vs,sp,hb',hh,hle,hm,hc,hone,hl⟩
    · refine done _ _ (fin (.slice ad 0 0) w ?_ rfl rfl rfl (Nat.le_refl _) (fun _ _ _ => rfl) (by cases ad <;> simp [blk]) (.inl ⟨⟨ad, rfl⟩, rfl⟩))
      rw[hv,hO,ey]
      exact vK ht he ad 0 0 (Nat.le_refl _) ay cy
    · refine done _ _ (fin (.slice (some ⟨b, 0, none⟩) xs.length cap) w ?_ rfl rfl rfl (Nat.le_refl _) (fun _ _ _ => rfl) (fun c hc => .inl (by rw [hb']; exact hc)) (.inr ⟨b, cap, vs, sp, by simp, hh, by simpa using hle, hm, hc, hone, by simpa using hl⟩))
      rw[hv,hb',ey]
      exact vK ht he _ _ _ hle ay cy
  · obtain⟨by',oy',hay,_⟩:=sy hyz
    subst hay
    have hpos:0<ys.length:=by simpa[List.length_pos_iff]using hyz
    have grow:∀ax cx (vx:List Value),a.eval x=.slice ax xs.length cx->xs.length<=cx->(ax=none->cx=0)->(∀ad,ax=some ad->∀j u,vx[j]?=some u->w.cell? (ad.add j)=some u)->(∀u∈vx,u.oneCell'=true)->VRl σ ρ w xs.flatten vx->cx<xs.length+ys.length->o.wp P a w next Q:=by
      intro ax cx vx ex lx nx rx ox Vx gx
      have hlvx:=z1 _ _ Vx
      obtain⟨cap,sp,hrun,hc1,hc2,hc3⟩:=jj (w:=w) (ty:=o.type) ht he ax xs.length cx vx (by omega) nx lx rx ⟨by',oy',none⟩ ys.length cy vy (by omega) (ry _ rfl) hpos gx h63 hb
      refine done _ _ (fin (.slice (some ⟨w.heap.size, 0, none⟩) (xs.length + ys.length) cap) (w.drew.alloc (.cells (vx ++ vy ++ sp).toArray e)) (by rw [ex, ey]; exact hrun) rfl rfl rfl (by simp) (fun c hc _ => heap_alloc_old w.drew _ c hc) (fun c hc => .inr (by simp [blk] at hc; omega))
        (.inr ⟨w.heap.size,cap,vx++vy,sp,by simp,heap_alloc_new w.drew _,by simpa using hc1,⟨by omega,hc2⟩,hc3,(by intro u hu;simp only[List.mem_append]at hu;exact hu.elim (ox u) (oy u)),by rw[List.flatten_append];exact vv _ _ _ _ Vx Vy⟩))
    rcases hO with⟨⟨ad,hO⟩,rfl⟩|⟨b,cap,vs,sp,hb',hh,hle,hm,hc,hone,hl⟩
    · exact grow ad 0 [] (by rw[hv,hO];rfl) (by simp) (by simp) (by simp) (by simp) (by simp[VRl]) (by simpa using hpos)
    · by_cases hroom:xs.length+ys.length<=cap
      · have hlvs:=z1 _ _ hl
        have hfit:xs.length*i.size+vy.length<=(vs++sp).toArray.size:=by
          rw[hi1]
          simp only[List.size_toArray,hc]
          rw[<-hlv,hly,<-Nat.add_mul]
          exact Nat.mul_le_mul_right _ hroom
        have hrun:=run_append_room (P:=P) w t o.type e i ht hi b xs.length cap (vs++sp).toArray hh ⟨by',oy',none⟩ ys.length cy vy (by rw[hi1];omega) (ry _ rfl) oy hroom hfit
        refine done _ _ (fin (.slice (some ⟨b, 0, none⟩) (xs.length + ys.length) cap) (w.setRow b ((vs ++ sp).toArray.toList.take (xs.length * i.size) ++ vy ++ (vs ++ sp).toArray.toList.drop (xs.length * i.size + vy.length)).toArray) (by rw [hv, hb', ey]; exact hrun) rfl rfl rfl (by simp) (fun c hc hne => setRow_other w b c _ (fun e => hne (by rw [hb', e]; simp [blk]; omega))) (fun c hc => .inl (by rw [hb']; simp [blk] at hc ⊢; omega))
          (.inr ⟨b,cap,vs++vy,(sp.drop vy.length),by simp,?_,by simpa using hroom,hm,?_,(by intro u hu;simp only[List.mem_append]at hu;exact hu.elim (hone u) (oy u)),by rw[List.flatten_append];exact vv _ _ _ _ hl Vy⟩))
        · rw[setRow_heap w b _ _ e _ hh]
          have e1:xs.length*i.size=vs.length:=by rw[hi1];omega
          simp only[e1,List.take_left]
          congr 3
          rw[List.drop_append]
          simp
        · have:=hc
          simp only[List.length_append,List.length_drop]at this ⊢
          have:ys.length*sz+vs.length<=cap*sz:=by
            rw[<-hlvs,hlx,<-Nat.add_mul];exact Nat.mul_le_mul_right _ (by omega)
          omega
      · refine grow (some ⟨b, 0, none⟩) cap vs (by rw [hv, hb']) hle (by simp) (fun ad had j u hj => ?_) hone hl (by omega)
        simp at had
        subst had
        exact zU hh j u (by rw[List.getElem?_append_left (List.getElem?_eq_some_iff.1 hj).1];exact hj)
end Go.Lf
namespace Go.Lf
theorem zfU{M:Nat->Prop}{w:World}{sz:Nat}: ∀(xs:List (List AV)) (b o:Nat),(∀x∈xs,x.length=sz)->PVss M w xs b o->∀(i:Nat) (x:List AV),xs[i]?=some x->PVs M w x b (o+i*sz)
 | [],_,_,_,_,i,x,hi=>by simp at hi
 | y::ys,b,o,h,hp,0,x,hi=>by simp only[PVss]at hp;simp at hi;subst hi;simpa using hp.1
 | y::ys,b,o,h,hp,i+1,x,hi=>by
  simp only[PVss]at hp
  have:=zfU ys b (o+y.length) (fun x hx=>h x (by simp[hx])) hp.2 i x (by simpa using hi)
  rw[h y (by simp)]at this
  rw[show o+(i+1)*sz=o+sz+i*sz from by rw[Nat.add_mul];omega]
  exact this
theorem zd9{M:Nat->Prop}{w:World}{sz:Nat}: ∀(k:Nat) (xs:List (List AV)) (b o:Nat),(∀x∈xs,x.length=sz)->PVss M w xs b o->PVss M w (xs.drop k) b (o+k*sz)
 | 0,_,_,_,_,h=>by simpa using h
 | k+1,[],_,_,_,_=>by simp[PVss]
 | k+1,y::ys,b,o,h,hp=>by
  simp only[PVss]at hp
  have:=zd9 k ys b (o+y.length) (fun x hx=>h x (by simp[hx])) hp.2
  rw[h y (by simp)]at this
  rw[show o+(k+1)*sz=o+sz+k*sz from by rw[Nat.add_mul];omega]
  simpa using this
theorem zbp{M:Nat->Prop}{w:World}: ∀(k:Nat) (xs:List (List AV)) (b o:Nat),PVss M w xs b o->PVss M w (xs.take k) b o
 | 0,_,_,_,_=>by simp[PVss]
 | k+1,[],_,_,_=>by simp[PVss]
 | k+1,y::ys,b,o,hp=>by
  simp only[PVss]at hp
  simp only[List.take_succ_cons,PVss]
  exact⟨hp.1,zbp k ys b _ hp.2⟩
theorem zis{P:Program}{N:Nat}{o:Oper}{Γ:Env}{σ:Sto}{K:AV->Sto->Prop}{t e:TypeId}{x i:Operand}(ho:o.op=.indexAddr t x i)(ht:P.underlying t=some (.slice e))(he:(P.underlying e).isSome=true)
    {f q:Bool} {xs:List (List AV)} {k:IntKind} {j:Int} {y:List AV} (hx:ev Γ x=.sl f q xs) (hi:ev Γ i=.lit (.int k j)) (h0:0<=j) (hy:xs[j.toNat]?=some y) (hsz:y.length=P.cellsOf e) (hK:K (.ip q y) σ):SOp P N o Γ σ K:=by
  refine SOp.pure _ (fun ρ w a hf hr=>?_) hK
  have hX:=hf.ev x
  rw[hx]at hX
  simp only[VR,PV]at hX
  obtain⟨ad,cap,sz,h1,h2,h3,h4,h5,h6,h7⟩:=hX
  have hlt:=(List.getElem?_eq_some_iff.1 hy).1
  obtain⟨b,oo,rfl,hb,hm,hp⟩:=h7 (by intro e;rw[e]at hlt;simp at hlt)
  obtain⟨d,hd⟩:=z2 he
  have hszs:sz=P.cellsOf e:=by rw[<-hsz];exact(h6 y (List.mem_of_getElem? hy)).symm
  have hj:(0<=j/\j<(xs.length:Int)):=⟨h0,by omega⟩
  refine⟨.pointer (some ⟨b,oo+j.toNat*P.cellsOf e,none⟩),?_,?_⟩
  · simp[execOp,ho,h1,hf.lit hi,Instr.indexAt,asIntOf,zn ht,hj,zE hd,zQ]
  · simp only[VR,PV]
    exact⟨b,_,rfl,hb,hm,by rw[<-hszs];exact zfU xs b oo h6 hp _ _ hy⟩
theorem zcW{P:Program}{N:Nat}{o:Oper}{Γ:Env}{σ:Sto}{K:AV->Sto->Prop}{t e:TypeId}{x i:Operand}(ho:o.op=.indexAddr t x i)(ht:P.underlying t=some (.slice e))(he:(P.underlying e).isSome=true)
    {oo s e':Nat} {xs:List (List AV)} {k:IntKind} {j:Int} (hx:ev Γ x=.row oo s) (hs:σ[oo]?=some (.row s e' (P.cellsOf e) xs)) (hi:ev Γ i=.lit (.int k j)) (h0:0<=j) (hy:j<xs.length) (hK:K (.ep oo s j.toNat 0) σ):SOp P N o Γ σ K:=by
  refine SOp.pure _ (fun ρ w a hf hr=>?_) hK
  have hX:=hf.ev x
  rw[hx]at hX
  simp only[VR]at hX
  have hv:=(hX.2 _ _ _ _ hs).2 rfl
  obtain⟨d,hd⟩:=z2 he
  obtain⟨h00,h01,hO⟩:=hr.obj _ _ hs
  rcases hO with⟨⟨ad,hO⟩,rfl⟩|⟨b,cap,vs,sp,hb,hh,hle,hm,hc,hone,hl⟩
  · simp at hy;omega
  · refine⟨.pointer (some ⟨b,j.toNat*P.cellsOf e,none⟩),?_,?_⟩
    · simp[execOp,ho,hv,hb,hf.lit hi,Instr.indexAt,asIntOf,zn ht,h0,hy,zE hd,zQ]
    · simp only[VR]
      refine⟨hX.1,fun s' e2 sz2 xs2 hs2=>?_⟩
      rw[hs]at hs2
      simp at hs2
      obtain⟨rfl,rfl,rfl,rfl⟩:=hs2
      exact⟨Nat.le_refl _,fun _=>⟨b,_,cap,hb,by simp⟩⟩
theorem zfV{sz l cap:Nat}{q:Bool}{σ:Sto}{ρ:Rz}{w:World}{xs:List (List AV)}{h:Nat}(hl:l<=h)(hh:h<=xs.length)(hc:xs.length<=cap)(hm:cap<=maxLen)(h6:∀x∈xs,x.length=sz){a:Option Addr}(h5:a=none->cap=0)
    (h7:xs≠[]->∃b o,a=some ⟨b,o,none⟩/\b<w.heap.size/\¬Bset q σ ρ b/\PVss (jN σ ρ) w xs b o) {f:Bool} (hf:f=true->cap-l=h-l) :
    VR σ ρ w (.sl f q ((xs.take h).drop l)) (.slice (if cap=l then a else a.map (·.add (l*sz))) (h-l) (cap-l)):=by
  simp only[VR]
  have hlen:((xs.take h).drop l).length=h-l:=by simp;omega
  refine⟨_,cap-l,sz,by rw[hlen],by rw[hlen];omega,by omega,fun e=>by rw[hlen];exact hf e,fun e=>?_,fun x hx=>h6 x (List.mem_of_mem_take (List.mem_of_mem_drop hx)),fun hne=>?_⟩
  · split at e
    · omega
    · cases a with
      | none=>rw[h5 rfl];omega
      | some a=>simp at e
  · have hlt:l<h:=by
      rcases Nat.lt_or_ge l h with h|h
      · exact h
      · exfalso;apply hne;apply List.eq_nil_of_length_eq_zero;omega
    obtain⟨b,o,ha,hb,hM,hp⟩:=h7 (by intro e;rw[e]at hh;simp at hh;omega)
    subst ha
    rw[if_neg (by omega)]
    refine⟨b,o+l*sz,by simp[zQ],hb,hM,?_⟩
    exact zd9 l _ b o (fun x hx=>h6 x (List.mem_of_mem_take hx)) (zbp h xs b o hp)
theorem zit{P:Program}{N:Nat}{o:Oper}{Γ:Env}{σ:Sto}{K:AV->Sto->Prop}{t e:TypeId}{x:Operand}{lo hi:Option Operand}(ho:o.op=.slice t x lo hi none)(ht:P.underlying t=some (.slice e))(he:(P.underlying e).isSome=true)
    {f q:Bool} {xs:List (List AV)} {l h:Int} (hx:ev Γ x=.sl f q xs) (hsz:xs=[]\/∃y∈xs,y.length=P.cellsOf e)
    (hlo:(lo=none/\l=0)\/∃y k,lo=some y/\ev Γ y=.lit (.int k l)) (hhi:(hi=none/\h=xs.length)\/∃y k,hi=some y/\ev Γ y=.lit (.int k h))
    (h0:0<=l) (h1:l<=h) (h2:h<=xs.length) (hK:K (.sl (f && decide (h=xs.length)) q ((xs.take h.toNat).drop l.toNat)) σ):SOp P N o Γ σ K:=by
  refine SOp.pure _ (fun ρ w a hf hr=>?_) hK
  have hX:=hf.ev x
  rw[hx]at hX
  simp only[VR,PV]at hX
  obtain⟨ad,cap,sz,k1,k2,k3,k4,k5,k6,k7⟩:=hX
  obtain⟨d,hd⟩:=z2 he
  have hszs:xs=[]\/sz=P.cellsOf e:=by
    rcases hsz with h|⟨y,hy,hl⟩
    · exact .inl h
    · exact .inr (by rw[<-k6 y hy];exact hl)
  have hbl:∀(q:Option Operand) (v:Int) (top:Nat) (c:BoundsCode),(∃y k,q=some y/\ev Γ y=.lit (.int k v))->0<=v->v<=top->∃y,q=some y/\(Instr.sliceBound (a.eval y) top c).run P w=.ok v.toNat w:=by
    rintro q v top c ⟨y,k,rfl,hy⟩ p0 p1
    exact⟨y,rfl,by simp[Instr.sliceBound,hf.lit hy,asIntOf,p0,p1]⟩
  have hrun:(Instr.sliceAt t (a.eval x) (lo.map a.eval) (hi.map a.eval) none).run P w=.ok (.slice (if cap=l.toNat then ad else ad.map (·.add (l.toNat*P.cellsOf e))) (h.toNat-l.toNat) (cap-l.toNat)) w:=by
    have hhb:(match hi with|some y=>Instr.sliceBound (a.eval y) cap .sliceAcap|none=>pure xs.length:Sem Nat).run P w=.ok h.toNat w:=by
      rcases hhi with⟨rfl,rfl⟩|hh
      · simp
      · obtain ⟨y, rfl, hy⟩ := hbl hi h cap .sliceAcap hh (by omega) (by omega)
        exact hy
    have hlb:(match lo with|some y=>Instr.sliceBound (a.eval y) h.toNat .sliceB|none=>pure 0:Sem Nat).run P w=.ok l.toNat w:=by
      rcases hlo with⟨rfl,rfl⟩|hh
      · simp
      · obtain ⟨y, rfl, hy⟩ := hbl lo l h.toNat .sliceB hh (by omega) (by omega)
        exact hy
    rw[k1]
    cases hi<;>cases lo<;>simp at hhb hlb<;>simp[Instr.sliceAt,Instr.slice,zn ht,Instr.sliceBounds,hhb,hlb,zE hd]
  refine⟨_,by simp[execOp,ho,hrun];rfl,?_⟩
  have hF:(f && decide (h=xs.length))=true->cap-l.toNat=h.toNat-l.toNat:=by
    intro e
    simp only[Bool.and_eq_true,decide_eq_true_eq]at e
    have:=k4 e.1
    omega
  rcases hszs with rfl|hs
  · simp at h2
    obtain rfl:l=0:=by omega
    obtain rfl:h=0:=by omega
    have:=zfV (sz:=sz) (l:=0) (h:=0) (q:=q) (σ:=σ) (ρ:=ρ) (w:=w) (xs:=[]) (Nat.le_refl _) (Nat.le_refl _) k2 k3 k6 k5 k7 (f:=f && decide ((0:Int)=(0:Nat))) (by simpa using hF)
    simpa[zQ]using this
  · rw[<-hs]
    exact zfV (by omega) (by omega) k2 k3 k6 k5 k7 hF
theorem zcX{P:Program}{N:Nat}{o:Oper}{Γ:Env}{σ:Sto}{K:AV->Sto->Prop}{t e:TypeId}{x:Operand}{lo hi:Option Operand}(ho:o.op=.slice t x lo hi none)(ht:P.underlying t=some (.slice e))(he:(P.underlying e).isSome=true)
    {oo s e' i0 n0:Nat} {xs:List (List AV)} {l h:Int} (hx:(ev Γ x=.row oo s/\i0=0/\n0=xs.length)\/(ev Γ x=.vw oo s i0 n0)) (hs:σ[oo]?=some (.row s e' (P.cellsOf e) xs))
    (hlo:(lo=none/\l=0)\/∃y k,lo=some y/\ev Γ y=.lit (.int k l)) (hhi:(hi=none/\h=n0)\/∃y k,hi=some y/\ev Γ y=.lit (.int k h))
    (h0:0<=l) (h1:l<=h) (h2:h<=n0) (hK:K (.vw oo s (i0+l.toNat) (h.toNat-l.toNat)) σ):SOp P N o Γ σ K:=by
  refine SOp.pure _ (fun ρ w a hf hr=>?_) hK
  have hX:=hf.ev x
  obtain⟨d,hd⟩:=z2 he
  obtain⟨h00,h01,hO⟩:=hr.obj _ _ hs
  have X:oo<σ.length/\∃ad c,a.eval x=.slice ad n0 c/\n0<=c/\c<=maxLen/\(ad=none->c=0)/\(n0≠0->∃b N C,ρ oo=.slice (some ⟨b,0,none⟩) N C/\i0+n0<=N/\ad=some ⟨b,i0*P.cellsOf e,none⟩):=by
    rcases hx with⟨hx,rfl,rfl⟩|hx
    · rw[hx]at hX
      simp only[VR]at hX
      have hv:=(hX.2 _ _ _ _ hs).2 rfl
      refine⟨hX.1,?_⟩
      rcases hO with⟨⟨ad,hO⟩,rfl⟩|⟨b,cap,vs,sp,hb,hh,hle,hm,hc,hone,hl⟩
      · exact⟨ad,0,by rw[hv,hO];rfl,by simp,by simp,by simp,by simp⟩
      · exact⟨_,cap,by rw[hv,hb],hle,hm.2,by simp,fun _=>⟨b,_,cap,hb,by omega,by simp⟩⟩
    · rw[hx]at hX
      simp only[VR]at hX
      obtain⟨ad,c,k1,k2,k3,k4,k5⟩:=(hX.2 _ _ _ _ hs).2 rfl
      exact⟨hX.1,ad,c,k1,k2,k3,k4,k5⟩
  obtain⟨hlt,ad,cap,k1,k2,k3,k4,k5⟩:=X
  have hbl:∀(q:Option Operand) (v:Int) (top:Nat) (c:BoundsCode),(∃y k,q=some y/\ev Γ y=.lit (.int k v))->0<=v->v<=top->∃y,q=some y/\(Instr.sliceBound (a.eval y) top c).run P w=.ok v.toNat w:=by
    rintro q v top c ⟨y,k,rfl,hy⟩ p0 p1
    exact⟨y,rfl,by simp[Instr.sliceBound,hf.lit hy,asIntOf,p0,p1]⟩
  have hrun:(Instr.sliceAt t (a.eval x) (lo.map a.eval) (hi.map a.eval) none).run P w=.ok (.slice (if cap=l.toNat then ad else ad.map (·.add (l.toNat*P.cellsOf e))) (h.toNat-l.toNat) (cap-l.toNat)) w:=by
    have hhb:(match hi with|some y=>Instr.sliceBound (a.eval y) cap .sliceAcap|none=>pure n0:Sem Nat).run P w=.ok h.toNat w:=by
      rcases hhi with⟨rfl,rfl⟩|hh
      · simp
      · obtain ⟨y, rfl, hy⟩ := hbl hi h cap .sliceAcap hh (by omega) (by omega)
        exact hy
    have hlb:(match lo with|some y=>Instr.sliceBound (a.eval y) h.toNat .sliceB|none=>pure 0:Sem Nat).run P w=.ok l.toNat w:=by
      rcases hlo with⟨rfl,rfl⟩|hh
      · simp
      · obtain ⟨y, rfl, hy⟩ := hbl lo l h.toNat .sliceB hh (by omega) (by omega)
        exact hy
    rw[k1]
    cases hi<;>cases lo<;>simp at hhb hlb<;>simp[Instr.sliceAt,Instr.slice,zn ht,Instr.sliceBounds,hhb,hlb,zE hd]
  refine⟨_,by simp[execOp,ho,hrun];rfl,?_⟩
  simp only[VR]
  refine⟨hlt,fun s' e2 sz2 xs2 hs2=>?_⟩
  rw[hs]at hs2
  simp at hs2
  obtain⟨rfl,rfl,rfl,rfl⟩:=hs2
  refine⟨Nat.le_refl _,fun _=>⟨_,_,rfl,by omega,by omega,fun e=>?_,fun hne=>?_⟩⟩
  · split at e
    · omega
    · cases ad with
      | none=>rw[k4 rfl];omega
      | some a=>simp at e
  · obtain ⟨b, N, C, hb, hle, ha⟩ := k5 (by omega)
    refine⟨b,N,C,hb,by omega,?_⟩
    rw[if_neg (by omega),ha]
    simp only[Option.map_some,zQ,Nat.add_mul]
theorem zea{P:Program}{N:Nat}{o:Oper}{Γ:Env}{σ:Sto}{K:AV->Sto->Prop}{t e:TypeId}{x i:Operand}(ho:o.op=.indexAddr t x i)(ht:P.underlying t=some (.slice e))(he:(P.underlying e).isSome=true)
    {oo s e' i0 n0:Nat} {xs:List (List AV)} {k:IntKind} {j:Int} (hx:ev Γ x=.vw oo s i0 n0) (hs:σ[oo]?=some (.row s e' (P.cellsOf e) xs)) (hi:ev Γ i=.lit (.int k j)) (h0:0<=j) (hy:j<n0) (hK:K (.ep oo s (i0+j.toNat) 0) σ):SOp P N o Γ σ K:=by
  refine SOp.pure _ (fun ρ w a hf hr=>?_) hK
  have hX:=hf.ev x
  rw[hx]at hX
  simp only[VR]at hX
  obtain⟨ad,c,k1,k2,k3,k4,k5⟩:=(hX.2 _ _ _ _ hs).2 rfl
  obtain⟨d,hd⟩:=z2 he
  obtain⟨b,NN,C,hb,hle,rfl⟩:=k5 (by omega)
  refine⟨.pointer (some ⟨b,(i0+j.toNat)*P.cellsOf e,none⟩),?_,?_⟩
  · simp[execOp,ho,k1,hf.lit hi,Instr.indexAt,asIntOf,zn ht,h0,hy,zE hd,zQ,Nat.add_mul]
  · simp only[VR]
    refine⟨hX.1,fun s' e2 sz2 xs2 hs2=>?_⟩
    rw[hs]at hs2
    simp at hs2
    obtain⟨rfl,rfl,rfl,rfl⟩:=hs2
    exact⟨Nat.le_refl _,fun _=>⟨b,NN,C,hb,by simp⟩⟩
def jl(l:List UInt8): List (List AV):=l.map fun x=>[.lit (.int .u8 x.toNat)]
theorem zeb {σ : Sto} {ρ : Rz} {w : World} : ∀ (l : List UInt8) (vs : List Value), VRl σ ρ w (jl l).flatten vs -> vs = l.map fun x => .int .u8 x.toNat
 | [],[],_=>rfl
 | [],_::_,h=>by simp[jl,VRl]at h
 | x::l,[],h=>by simp[jl,VRl]at h
 | x::l,v::vs,h=>by
  simp only[jl,List.map_cons,List.flatten_cons,List.cons_append,List.nil_append,VRl,VR]at h
  rw[h.1,zeb l vs h.2]
  rfl
theorem zhv{P:Program}{N:Nat}{o:Oper}{Γ:Env}{σ:Sto}{K:AV->Sto->Prop}{s d e:TypeId}{x:Operand}(ho:o.op=.convert s d x)(hs:P.underlying s=some (.slice e))(he:P.underlying e=some (.int .u8))(hd:P.underlying d=some .string)
    {l:List UInt8} (hx:rd σ (ev Γ x)=some (jl l)) (hK:K (.lit (.string ⟨l.toArray⟩)) σ):SOp P N o Γ σ K:=by
  refine SOp.pure _ (fun ρ w a hf hr=>?_) hK
  obtain⟨ad,cap,vs,h1,h2,h3,h4,h5,h6,h7,h8⟩:=zct hr (hf.ev x) hx
  have hvs:=zeb l vs h8
  refine⟨_,?_,by simp only[VR];rfl⟩
  have hlen:(jl l).length=l.length:=by simp[jl]
  rw[hlen]at h1
  have hrun:(convert s d (a.eval x)).run P w=.ok (.string ⟨l.toArray⟩) w:=by
    rw[h1]
    cases ad with
    | none=>
      have:l=[]:=by
        have:=h4 rfl
        rw[hlen]at h2
        exact List.eq_nil_of_length_eq_zero (by omega)
      subst this
      rw[run_convert_bytes_string w s d e _ _ _ hs he hd]
      simp[Conv.bytesToString]
      rfl
    | some ad=>
      refine run_convert_bytes_back w s d e ad cap l hs he hd (fun j hj=>?_)
      refine h6 ad rfl j _ ?_
      rw[hvs]
      simp[hj]
  simp[execOp,ho,hrun]
end Go.Lf
namespace Go.Lf
theorem jU (z : List Value) (hz : 0 < z.length) : ∀ n, (List.range (n * z.length)).map (fun i => (z.toArray)[i % z.length]!) = (List.replicate n z).flatten
 | 0=>by simp
 | n+1=>by
  rw[Nat.add_mul,Nat.one_mul,List.range_add,List.map_append,jU z hz n,List.replicate_succ']
  rw[List.flatten_append]
  congr 1
  simp only[List.map_map,List.flatten_cons,List.flatten_nil,List.append_nil]
  apply List.ext_getElem
  ·simp
  ·intro i h1 h2
   simp at h1
   simp only[List.getElem_map,List.getElem_range,Function.comp]
   have:(n*z.length+i) % z.length=i:=by rw[Nat.mul_comm,Nat.mul_add_mod,Nat.mod_eq_of_lt h1]
   rw[this]
   simp[h1]
theorem vk(z:Array Value)(hz:0<z.size)(n:Nat): (madeCells z (n*z.size)).toList=(List.replicate n z.toList).flatten:=by
 have:=jU z.toList (by simpa using hz) n
 rw[<-this]
 simp[madeCells]
theorem zbq{σ:Sto}{ρ:Rz}{w:World}(z:List Value): ∀n,VRl σ ρ w (List.replicate n (z.map alit)).flatten (List.replicate n z).flatten
 | 0=>by simp[VRl]
 | n+1=>by
  simp only[List.replicate_succ,List.flatten_cons]
  exact vv _ _ _ _ (jP _ _ _ _) (zbq z n)
theorem vo(z:List Value): ∀n,(List.replicate n z).flatten.length=n*z.length
 | 0=>by simp
 | n+1=>by simp[List.replicate_succ,vo z n,Nat.add_mul];omega
theorem zlC{P:Program}{N:Nat}{o:Oper}{Γ:Env}{σ:Sto}{K:AV->Sto->Prop}{t e sz bt:Nat}{z:Value}{x y:Operand}(ho:o.op=.makeSlice t x y)(ht:P.underlying t=some (.slice e))(he:EO P e sz bt z)
    {k k':IntKind} {l c:Int} (hx:ev Γ x=.lit (.int k l)) (hy:ev Γ y=.lit (.int k' c)) (h0:0<=l) (hlc:l<=c) (hb:bt*c<=281474976710656) (h63:c<=9223372036854775807)
    (h1:z.cells.toList.all (fun v=>v.oneCell')=true) (hK:K (.row σ.length 0) (σ++[.row 0 e sz (List.replicate l.toNat (z.cells.toList.map alit))])):SOp P N o Γ σ K:=by
  intro ρ w a next Q hf hr hn
  obtain⟨i,hi,hz,hi1,hi2⟩:=he.parts
  have hzs:=he.2.1
  have hpos:=he.2.2
  have hrun:=run_make (P:=P) w t e i z ht hi hz k k' l c h0 hlc (by rw[hi2];exact hb) h63
  have hm:(madeCells z.cells (c.toNat*i.size)).toList=(List.replicate c.toNat z.cells.toList).flatten:=by
    rw[hi1,<-hzs];exact vk _ (by omega) _
  have hex:(execOp a.eval o).run P w=.ok (.value (.slice (some ⟨w.heap.size,0,none⟩) l.toNat c.toNat)) (w.alloc (.cells (madeCells z.cells (c.toNat*i.size)) e)):=by
    simp[execOp,ho,hf.lit hx,hf.lit hy,hrun]
  have hsplit:(List.replicate c.toNat z.cells.toList).flatten=(List.replicate l.toNat z.cells.toList).flatten++(List.replicate (c.toNat-l.toNat) z.cells.toList).flatten:=by
    rw[<-List.flatten_append,List.replicate_append_replicate]
    congr 2;omega
  have hcells:madeCells z.cells (c.toNat*i.size)=((List.replicate l.toNat z.cells.toList).flatten++(List.replicate (c.toNat-l.toNat) z.cells.toList).flatten).toArray:=by
    rw[<-hsplit,<-hm]
  have hzl:z.cells.toList.length=sz:=by simpa using hzs
  rw[hcells]at hex
  by_cases hc0:c.toNat=0
  · have hl0 : l.toNat = 0 := by omega
    rw[hc0,hl0]at hex
    rw[hl0]at hK
    obtain⟨ρ',h2,h3,h4⟩:=kc (w':=w.alloc (.cells ((List.replicate 0 z.cells.toList).flatten++(List.replicate (0-0) z.cells.toList).flatten).toArray e)) (e:=e) hr rfl rfl rfl (by simp) (fun c hc=>heap_alloc_old w _ c hc) hpos (some ⟨w.heap.size,0,none⟩)
    unfold Oper.wp
    rw[hex,Oper.upon_value]
    exact hn _ _ _ _ _ (by simpa using hK) h2 h3 h4
  · obtain⟨ρ',h2,h3,h4⟩:=zeU (w':=w.alloc (.cells ((List.replicate l.toNat z.cells.toList).flatten++(List.replicate (c.toNat-l.toNat) z.cells.toList).flatten).toArray e)) (xs:=List.replicate l.toNat (z.cells.toList.map alit)) (sz:=sz) (e:=e)
      (vs:=(List.replicate l.toNat z.cells.toList).flatten) (sp:=(List.replicate (c.toNat-l.toNat) z.cells.toList).flatten) (b:=w.heap.size) (cap:=c.toNat) hr rfl rfl rfl (by simp) (fun c hc=>heap_alloc_old w _ c hc) (Nat.le_refl _) (heap_alloc_new w _)
      (by intro x hx;rw[List.mem_replicate]at hx;rw[hx.2];simpa using hzs) hpos (by simp;omega) ⟨by omega,by simp only[maxLen];omega⟩ (by rw[List.length_append,vo,vo,hzl,<-Nat.add_mul];congr 1;omega)
      (by
        intro v hv
        simp only[List.mem_flatten,List.mem_replicate]at hv
        obtain⟨q,⟨_,rfl⟩,hv⟩:=hv
        exact(List.all_eq_true.1 h1) v hv) (zbq _ _)
    unfold Oper.wp
    rw[hex,Oper.upon_value]
    exact hn _ _ _ _ _ hK h2 (by simpa using h3) h4
theorem zfW{σ:Sto}{ρ:Rz}{w:World}(hr:Rel σ ρ w){oo s e sz b cap:Nat}{xs xs':List (List AV)}{vs sp nw:List Value}(hs:σ[oo]?=some (.row s e sz xs))(hb:ρ oo=.slice (some ⟨b,0,none⟩) xs.length cap)
    (hh:w.heap[b]?=some (.cells (vs++sp).toArray e (0,0))) (hlen:xs'.length=xs.length) (h0:∀x∈xs',x.length=sz) (h00:0<sz) (hle:xs.length<=cap) (hm:0<cap/\cap<=maxLen) (hc:(nw++sp).length=cap*sz) (hone:∀v∈nw,v.oneCell'=true) (hl:VRl σ ρ w xs'.flatten nw) :
    Rel (σ.set oo (.row s e sz xs')) (upd ρ oo (ρ oo)) (w.setRow b (nw++sp).toArray)/\Step σ.length σ ρ w (σ.set oo (.row s e sz xs')) (upd ρ oo (ρ oo)) (w.setRow b (nw++sp).toArray):=by
  have hk:∀c,c<w.heap.size->blk (ρ oo)≠some c->(w.setRow b (nw++sp).toArray).heap[c]?=w.heap[c]?:=fun c _ hne=>setRow_other w b c _ (fun e=>hne (by rw[hb,e];simp[blk];omega))
  have hobj:ObjStep (some (.row s e sz xs)) (some (.row s e sz xs')) (ρ oo) (ρ oo):=by simp[ObjStep]
  have st:=v9 (w:=w) (w':=w.setRow b (nw++sp).toArray) hs rfl hobj rfl rfl rfl (by simp) hk (fun c _ hc=>.inl hc)
  refine⟨zaf (w:=w) (w':=w.setRow b (nw++sp).toArray) hr hs rfl hobj rfl rfl rfl (by simp) hk (fun c _ hc=>.inl hc) ⟨h0,h00,.inr ⟨b,cap,nw,sp,by rw[hlen];exact hb,setRow_heap w b _ _ e _ hh,by rw[hlen];exact hle,hm,hc,hone,VRl.carry st _ _ hl⟩⟩,st⟩
theorem zlD{P:Program}{N:Nat}{o:Oper}{Γ:Env}{σ:Sto}{K:AV->Sto->Prop}{t t' e:TypeId}{x y:Operand}(ho:o.op=.call { callee:=.builtin .copy,args:=#[x,y],argTypes:=#[t,t'] })(ht:P.underlying t=some (.slice e))(he:(P.underlying e).isSome=true)
    {oo s sz:Nat} {xs ys:List (List AV)} (hx:ev Γ x=.row oo s) (hs:σ[oo]?=some (.row s e sz xs)) (hcs:P.cellsOf e=sz) (hy:rd σ (ev Γ y)=some ys) (hys:∀y∈ys,y.length=sz)
    (hK:K (.lit (.int .i64 (min ys.length xs.length:Nat))) (σ.set oo (.row s e sz (ys.take xs.length++xs.drop ys.length)))):SOp P N o Γ σ K:=by
  intro ρ w a next Q hf hr hn
  obtain⟨d,hd⟩:=z2 he
  have hS:=zE hd w
  rw[hcs]at hS
  obtain⟨ay,cy,vy,ey,ly,my,ny,sy,ry,oy,Vy⟩:=zct hr (hf.ev y) hy
  have hX:=hf.ev x
  rw[hx]at hX
  simp only[VR]at hX
  have hv:=(hX.2 _ _ _ _ hs).2 rfl
  obtain⟨h0,h00,hO⟩:=hr.obj _ _ hs
  have hly:=yQ hys
  have hlv:=z1 _ _ Vy
  have hlx:=yQ h0
  -- what is copied
  have hft:=vY hys (min ys.length xs.length) (Nat.min_le_left _ _)
  have hcells:(Builtin.firstCells sz (min ys.length xs.length) (.slice ay ys.length cy)).run P w=.ok (vy.take (min ys.length xs.length*sz)).toArray w:=by
    cases ay with
    | none=>
      have:ys=[]:=by
        have:=ny rfl
        exact List.eq_nil_of_length_eq_zero (by omega)
      subst this
      simp at hlv
      have:vy=[]:=by cases vy with|nil=>rfl|cons _ _=>simp at hlv
      subst this
      simp[Builtin.firstCells]
    | some ad=>
      have:=run_loadCells_list (P:=P) (w:=w) ad (vy.take (min ys.length xs.length*sz)) (fun j u hj=>by
        rw[List.getElem?_take]at hj
        split at hj
        · exact ry ad rfl j u hj
        · cases hj)
      have hl:(vy.take (min ys.length xs.length*sz)).length=min ys.length xs.length*sz:=by
        rw[List.length_take,<-hlv,hly]
        exact Nat.min_eq_left (Nat.mul_le_mul_right _ (Nat.min_le_left _ _))
      rw[hl]at this
      simpa[Builtin.firstCells]using this
  have base:∀v,a.eval x=v->∀w',(Builtin.copy_ #[t,t'] o.type #[v,.slice ay ys.length cy]).run P w=.ok (goInt (min ys.length xs.length:Nat)) w'->(execOp a.eval o).run P w=.ok (.value (.int .i64 (min ys.length xs.length:Nat))) w':=by
    rintro v rfl w' h
    rw[<-ey]at h
    simp[execOp,ho,resolve,invoke,builtin,h,goInt]
  unfold Oper.wp
  rcases hO with⟨⟨ad,hO⟩,hnil⟩|⟨b,cap,vs,sp,hb,hh,hle,hm,hc,hone,hl⟩
  · subst hnil
    have:=base (.slice ad 0 0) (hv.trans hO) w (by
      simp only[List.length_nil,Nat.min_zero,Nat.zero_mul,List.take_zero]at hcells
      cases ad<;>simp[Builtin.copy_,zn ht,Builtin.lenOf,hS,hcells,storeCells])
    rw[this,Oper.upon_value]
    have e1:σ.set oo (.row s e sz (ys.take ([]:List (List AV)).length++([]:List (List AV)).drop ys.length))=σ:=by
      simp only[List.length_nil,List.take_zero,List.drop_nil,List.append_nil]
      exact List.ext_getElem? (fun i=>by
        by_cases hi:i=oo
        · subst hi;rw[List.getElem?_set_self hX.1,hs]
        · rw[List.getElem?_set_ne (by omega)])
    rw[e1]at hK
    exact hn _ _ _ _ _ hK hr (by simp[VR]) (.refl _ _ _ _ (Nat.le_refl _))
  · have hlvs:=z1 _ _ hl
    generalize hnews:vy.take (min ys.length xs.length*sz)=news at hcells
    have hln:news.length=min ys.length xs.length*sz:=by
      rw[<-hnews,List.length_take,<-hlv,hly]
      exact Nat.min_eq_left (Nat.mul_le_mul_right _ (Nat.min_le_left _ _))
    have hfit:min ys.length xs.length*sz<=vs.length:=by
      rw[<-hlvs,hlx];exact Nat.mul_le_mul_right _ (Nat.min_le_right _ _)
    have honen:∀v∈news,v.oneCell'=true:=by intro v hv;rw[<-hnews]at hv;exact oy v (List.mem_of_mem_take hv)
    have hst:=run_storeCells_at (P:=P) b 0 e news 0 (vs++sp).toArray w hh (by simp;omega) honen
    have hcell:((vs++sp).toArray.toList.take (0+0)++news++(vs++sp).toArray.toList.drop (0+0+news.length))=(news++vs.drop news.length)++sp:=by
      simp only[Nat.zero_add,List.take_zero,List.nil_append]
      rw[List.drop_append_of_le_length (by omega),List.append_assoc]
    rw[hcell]at hst
    have:=base _ (hv.trans hb) (w.setRow b ((news++vs.drop news.length)++sp).toArray) (by
      simp[Builtin.copy_,zn ht,Builtin.lenOf,hS,hcells,hst])
    rw[this,Oper.upon_value]
    have hVn:VRl σ ρ w (ys.take xs.length++xs.drop ys.length).flatten (news++vs.drop news.length):=by
      rw[List.flatten_append]
      refine vv _ _ _ _ ?_ ?_
      · have e1:ys.take xs.length=ys.take (min ys.length xs.length):=by
          rcases Nat.le_total ys.length xs.length with h|h
          · rw[Nat.min_eq_left h,List.take_of_length_le h,List.take_length]
          · rw[Nat.min_eq_right h]
        rw[e1,hft.1,<-hnews]
        exact v8 _ _ _ Vy
      · rcases Nat.le_total ys.length xs.length with h | h
        · have:=(vY h0 ys.length h).2
          rw[this,hln,Nat.min_eq_left h]
          exact vj _ _ _ hl
        · have e1:xs.drop ys.length=[]:=List.drop_eq_nil_of_le h
          have e2:vs.drop news.length=[]:=List.drop_eq_nil_of_le (by rw[hln,Nat.min_eq_right h,<-hlvs,hlx];exact Nat.le_refl _)
          rw[e1,e2];simp[VRl]
    obtain ⟨k1, k2⟩ := zfW (xs' := ys.take xs.length ++ xs.drop ys.length) (nw := news ++ vs.drop news.length) hr hs hb hh (by simp; omega)
      (by intro q hq;simp only[List.mem_append]at hq;exact hq.elim (fun h=>hys q (List.mem_of_mem_take h)) (fun h=>h0 q (List.mem_of_mem_drop h))) h00 hle hm
      (by simp only[List.length_append,List.length_drop]at hc ⊢;omega) (by intro v hv;simp only[List.mem_append]at hv;exact hv.elim (honen v) (fun h=>hone v (List.mem_of_mem_drop h))) hVn
    exact hn _ _ _ _ _ hK k1 (by simp[VR]) k2
theorem zec{P:Program}{N:Nat}{o:Oper}{Γ:Env}{σ:Sto}{K:AV->Sto->Prop}{t:TypeId}{x y:Operand}(ho:o.op=.store t x y){oo s i k e sz:Nat}{xs:List (List AV)}{q:List AV}(hx:ev Γ x=.ep oo s i k)(hs:σ[oo]?=some (.row s e sz xs))(hq:xs[i]?=some q)
    (hu:(P.underlying t).isSome=true) (hk:(acells (ev Γ y)).all (okc σ)=true) (hsz:(acells (ev Γ y)).length=P.cellsOf t) (hle:k+(acells (ev Γ y)).length<=sz)
    (hK:K .junk (σ.set oo (.row s e sz (xs.set i (putCells q k (acells (ev Γ y))))))):SOp P N o Γ σ K:=by
  intro ρ w a next Q hf hr hn
  obtain⟨d,hd⟩:=z2 hu
  obtain⟨h1,h2⟩:=vX hr (hf.ev y) hk
  have hX:=hf.ev x
  rw[hx]at hX
  simp only[VR]at hX
  obtain⟨b,n,c,hb,he⟩:=(hX.2 _ _ _ _ hs).2 rfl
  obtain⟨h0,h00,hO⟩:=hr.obj _ _ hs
  have hil:=(List.getElem?_eq_some_iff.1 hq).1
  rcases hO with⟨⟨ad,hO⟩,hnil⟩|⟨b',cap,vs,sp,hb',hh,hle',hm,hc,hone,hl⟩
  · rw[hnil]at hil;simp at hil
  · rw[hb]at hb'
    simp at hb'
    obtain⟨rfl,rfl,rfl⟩:=hb'
    have hql:=h0 q (List.mem_of_getElem? hq)
    have hl1:=z1 _ _ h1
    have hl2:=z1 _ _ hl
    have hlx:=yQ h0
    generalize hU:(a.eval y).cells.toList=us at h1 h2 hl1
    have hspace:i*sz+sz<=vs.length:=by
      rw[<-hl2,hlx,<-Nat.succ_mul];exact Nat.mul_le_mul_right _ hil
    have hst:=run_storeCells_at (P:=P) b (i*sz+k) e us 0 (vs++sp).toArray w hh (by simp;omega) h2
    have hcell:((vs++sp).toArray.toList.take (i*sz+k+0)++us++(vs++sp).toArray.toList.drop (i*sz+k+0+us.length))=(vs.take (i*sz+k)++us++vs.drop (i*sz+k+us.length))++sp:=by
      simp only[Nat.add_zero]
      rw[List.take_append_of_le_length (by omega),List.drop_append_of_le_length (by omega)]
      simp
    rw[hcell]at hst
    have hrun:(execOp a.eval o).run P w=.ok .skip (w.setRow b ((vs.take (i*sz+k)++us++vs.drop (i*sz+k+us.length))++sp).toArray):=by
      have hcz:(a.eval y).cells.size=us.length:=by rw[<-hU];simp
      have:¬(a.eval y).cells.size≠P.cellsOf t:=by omega
      simp only[execOp,ho,Instr.storeAt,Instr.sureAddr,he,storeVar,Sem.run_bind,zE hd,Result.andThen_ok,Sem.run_pure,if_neg this,hU]
      simp[hst]
    have hVn:VRl σ ρ w (xs.set i (putCells q k (acells (ev Γ y)))).flatten (vs.take (i*sz+k)++us++vs.drop (i*sz+k+us.length)):=by
      have e1:xs.set i (putCells q k (acells (ev Γ y)))=xs.take i++[putCells q k (acells (ev Γ y))]++xs.drop (i+1):=by
        rw[List.set_eq_take_append_cons_drop];simp[hil]
      have e2:=(vY h0 i (by omega)).1
      have e3:=(vY h0 (i+1) (by omega)).2
      have e4:=zbk h0 hq
      have e5:vs.take (i*sz+k)++us++vs.drop (i*sz+k+us.length)=vs.take (i*sz)++(((vs.drop (i*sz)).take sz).take k++us++((vs.drop (i*sz)).take sz).drop (k+us.length))++vs.drop ((i+1)*sz):=by
        have hA:vs.take (i*sz+k)=vs.take (i*sz)++((vs.drop (i*sz)).take sz).take k:=by
          rw[List.take_take,Nat.min_eq_left (by omega),<-List.take_add]
        have hB:vs.drop (i*sz+k+us.length)=((vs.drop (i*sz)).take sz).drop (k+us.length)++vs.drop ((i+1)*sz):=by
          have:vs.drop ((i+1)*sz)=(vs.drop (i*sz)).drop sz:=by rw[List.drop_drop];congr 1;rw[Nat.add_mul];omega
          rw[this]
          have e:vs.drop (i*sz+k+us.length)=(vs.drop (i*sz)).drop (k+us.length):=by rw[List.drop_drop];congr 1;omega
          rw[e]
          conv=>lhs;rw[<-List.take_append_drop sz (vs.drop (i*sz))]
          rw[List.drop_append_of_le_length (by simp;omega)]
        rw[hA,hB];simp
      rw[e1,e5,List.flatten_append,List.flatten_append]
      simp only[List.flatten_cons,List.flatten_nil,List.append_nil]
      refine vv _ _ _ _ (vv _ _ _ _ ?_ ?_) ?_
      · rw[e2];exact v8 _ _ _ hl
      · refine zeO _ _ _ _ k ?_ h1
        have:=vj (i*sz) _ _ hl
        rw[e4]at this
        have:=zeM _ _ _ this
        rwa [hql]at this
      · rw[e3];exact vj _ _ _ hl
    obtain ⟨k1, k2⟩ := zfW (xs' := xs.set i (putCells q k (acells (ev Γ y)))) (nw := vs.take (i * sz + k) ++ us ++ vs.drop (i * sz + k + us.length)) hr hs hb hh (by simp)
      (by
        intro q' hq'
        rcases List.mem_or_eq_of_mem_set hq' with h|h
        · exact h0 q' h
        · rw[h];simp[putCells];omega) h00 hle' hm
      (by simp only[List.length_append,List.length_drop,List.length_take]at hc ⊢;omega)
      (by
        intro v hv
        simp only[List.mem_append]at hv
        rcases hv with(hv|hv)|hv
        · exact hone v (List.mem_of_mem_take hv)
        · exact h2 v hv
        · exact hone v (List.mem_of_mem_drop hv)) hVn
    unfold Oper.wp
    rw[hrun,Oper.upon_skip]
    exact hn _ _ _ _ _ hK k1 (by simp[VR]) k2
end Go.Lf
namespace Go.Lf
theorem zed(off:Nat): ∀(l:List Value) (k:Nat) (cells:Array Value),off+k+l.length<=cells.size ->
    ((l.zipIdx k).foldl (fun cs p=>cs.setIfInBounds (off+p.2) p.1) cells).toList=cells.toList.take (off+k)++l++cells.toList.drop (off+k+l.length)
  | [],k,cells,h=>by simp
  | v::l,k,cells,h=>by
    simp only[List.length_cons]at h
    simp only[List.zipIdx_cons,List.foldl_cons]
    rw[zed off l (k+1) _ (by simp;omega)]
    simp only[Array.toList_setIfInBounds,List.length_cons]
    have hlt:off+k<cells.toList.length:=by simp;omega
    rw[List.set_eq_take_append_cons_drop,if_pos hlt]
    have e1:List.take (off+(k+1)) (List.take (off+k) cells.toList++v::List.drop (off+k+1) cells.toList)=List.take (off+k) cells.toList++[v]:=by
      rw[List.take_append]
      simp only[List.length_take,Nat.min_eq_left (Nat.le_of_lt hlt)]
      rw[List.take_of_length_le (by simp;omega),show off+(k+1)-(off+k)=1 from by omega]
      simp
    have e2:List.drop (off+(k+1)+l.length) (List.take (off+k) cells.toList++v::List.drop (off+k+1) cells.toList)=List.drop (off+k+(l.length+1)) cells.toList:=by
      rw[List.drop_append]
      simp only[List.length_take,Nat.min_eq_left (Nat.le_of_lt hlt)]
      rw[List.drop_eq_nil_of_le (by simp;omega),show off+(k+1)+l.length-(off+k)=l.length+1 from by omega]
      simp only[List.nil_append,List.drop_succ_cons,List.drop_drop]
      congr 1;omega
    rw[e1,e2]
    simp
def ke(place:Nat->Option (Nat×Nat)): List AV->List (Nat×AV)->Option (List AV)
 | cells,[]=>some cells
 | cells,(i,x)::rest=>
  match place i with
  | some (off,size)=>if(acells x).length=size/\off+size<=cells.length then ke place (putCells cells off (acells x)) rest else none
  | none=>none
def PVp(σ:Sto)(ρ:Rz)(w:World): List (Nat×AV)->List (Nat×Value)->Prop
 | [],[]=>True
 | p::ps,q::qs=>(p.1=q.1/\VR σ ρ w p.2 q.2/\(acells p.2).all (okc σ)=true)/\PVp σ ρ w ps qs
 | _,_=>False
theorem za0{σ:Sto}{ρ:Rz}{w:World}(hr:Rel σ ρ w){place:Nat->Option (Nat×Nat)}: ∀(ps:List (Nat×AV)) (pv:List (Nat×Value)) (cs:List AV) (vs:Array Value) (out:List AV),ke place cs ps=some out->VRl σ ρ w cs vs.toList ->
    (∀v∈vs.toList,v.oneCell'=true)->PVp σ ρ w ps pv->∃us,Instr.fill place vs pv=some us/\VRl σ ρ w out us.toList/\∀v∈us.toList,v.oneCell'=true
  | [],_::_,cs,vs,out,h,hv,h1,hp=>by simp[PVp]at hp
  | _::_,[],cs,vs,out,h,hv,h1,hp=>by simp[PVp]at hp
  | [],[],cs,vs,out,h,hv,h1,hp=>by
    simp only[ke,Option.some.injEq]at h
    subst h
    exact⟨vs,rfl,hv,h1⟩
  | (i,x)::ps,(j,v)::pv,cs,vs,out,h,hv,h1,hp=>by
      simp only[PVp]at hp
      obtain⟨⟨rfl,hx,hk⟩,hp⟩:=hp
      simp only[ke]at h
      split at h
      · rename_i off size hpl
        split at h
        · rename_i hc
          obtain⟨hV,hone⟩:=vX hr hx hk
          have hl1:=z1 _ _ hV
          have hl2:=z1 _ _ hv
          have hz:v.cells.size=size:=by simp at hl1;omega
          have hle:off+v.cells.size<=vs.size:=by simp at hl2;omega
          have hf:=zed off v.cells.toList 0 vs (by simp;omega)
          generalize hnew:(v.cells.toList.zipIdx 0).foldl (fun cs p=>cs.setIfInBounds (off+p.2) p.1) vs=nw at hf
          have hput:=zeO _ _ _ _ off hv hV
          have hnl:nw.toList=vs.toList.take off++v.cells.toList++vs.toList.drop (off+v.cells.toList.length):=by simpa using hf
          rw[<-hnl]at hput
          obtain⟨us,k1,k2,k3⟩:=za0 hr ps pv _ nw out h hput (by
            intro u hu
            rw[hnl]at hu
            simp only[List.mem_append]at hu
            rcases hu with(hu|hu)|hu
            · exact h1 u (List.mem_of_mem_take hu)
            · exact hone u hu
            · exact h1 u (List.mem_of_mem_drop hu)) hp
          refine⟨us,?_,k2,k3⟩
          simp only[Instr.fill,hpl]
          have hcond:(decide (v.cells.size≠size) || decide (off+v.cells.size>vs.size))=false:=by simp;omega
          rw[if_neg (by simpa using hcond)]
          rw[<-k1,<-hnew]
          congr 1
          rw[<-Array.foldl_toList]
          simp
        · cases h
      · cases h
def ziu(P:Program)(t:TypeId): Option (Nat->Option (Nat×Nat)):=
 match P.underlying t with
 | some (.struct fs)=>if fs.all (fun f=>(P.underlying f.type).isSome)=true then some (fun i=>(fs[i]?).map fun f=>(f.offset,P.cellsOf f.type))else none
 | some (.array _ e)=>if(P.underlying e).isSome=true then some (fun i=>some (i*P.cellsOf e,P.cellsOf e))else none
 | _=>none
theorem zcu {P : Program} {w : World} : ∀ (fs : List Field), fs.all (fun f => (P.underlying f.type).isSome) = true ->
    (fs.mapM (m:=Sem) fun f=>do pure (f.offset,<-sizeOf f.type)).run P w=.ok (fs.map fun f=>(f.offset,P.cellsOf f.type)) w
  | [],_=>by simp
  | f::fs,h=>by
    simp only[List.all_cons,Bool.and_eq_true]at h
    obtain⟨d,hd⟩:=z2 h.1
    simp only[List.mapM_cons,Sem.run_bind,zE hd,Result.andThen_ok,Sem.run_pure,zcu fs h.2,List.map_cons]
theorem ziv {P : Program} {N : Nat} {o : Oper} {Γ : Env} {σ : Sto} {K : AV -> Sto -> Prop} {t : TypeId} {parts : Array (Nat × Operand)} (ho : o.op = .build t parts) {zs : List Value} {z : Value} (hz : (P.info? t).bind (·.zero) = some z) (hzs : z.cells.toList = zs) (h1 : zs.all (fun v => v.oneCell') = true)
    {place:Nat->Option (Nat×Nat)} (hp:ziu P t=some place) {out:List AV} (hf:ke place (zs.map alit) (parts.toList.map fun p=>(p.1,ev Γ p.2))=some out) (hk:parts.toList.all (fun p=>(acells (ev Γ p.2)).all (okc σ))=true)
    (hK:K (.ag out) σ):SOp P N o Γ σ K:=by
  refine SOp.pure _ (fun ρ w a hF hr=>?_) hK
  have hforall:∀l:List (Nat×Operand),l.all (fun p=>(acells (ev Γ p.2)).all (okc σ))=true->PVp σ ρ w (l.map fun p=>(p.1,ev Γ p.2)) (l.map fun p=>(p.1,a.eval p.2)):=by
    intro l
    induction l with
    | nil=>intro _;simp[PVp]
    | cons p l ih=>intro h;simp only[List.all_cons,Bool.and_eq_true]at h;simp only[List.map_cons,PVp];exact⟨⟨trivial,hF.ev p.2,h.1⟩,ih h.2⟩
  obtain⟨us,k1,k2,_⟩:=za0 hr _ _ (zs.map alit) z.cells out hf (by rw[hzs];exact jP _ _ _ _) (by rw[hzs];simpa using h1) (hforall _ hk)
  have hzv:(zeroValue t).run P w=.ok z w:=by
    cases hi:P.info? t with
    | none=>rw[hi]at hz;simp at hz
    | some i=>rw[hi]at hz;simp at hz;simp[zeroValue,typeInfo,hi,hz]
  refine⟨.agg us,?_,by simp only[VR];exact⟨us.toList,by simp,k2⟩⟩
  have hpl:(parts.map fun p=>(p.1,a.eval p.2)).toList=parts.toList.map fun p=>(p.1,a.eval p.2):=by simp
  unfold ziu at hp
  split at hp
  · rename_i fs hu
    split at hp
    · rename_i hall
      simp only[Option.some.injEq]at hp
      subst hp
      have hm:=zcu (P:=P) (w:=w) fs.toList (by simpa using hall)
      have hm2:(fs.mapM (m:=Sem) fun f=>do pure (f.offset,<-sizeOf f.type)).run P w=.ok (fs.map fun f=>(f.offset,P.cellsOf f.type)) w:=by
        rw[Array.mapM_eq_mapM_toList,Sem.run_map,hm]
        simp only[Result.andThen_ok]
        congr 1
        exact Array.ext' (by simp)
      have hpe:(fun(i:Nat)=>(fs.map fun(f:Field)=>(f.offset,P.cellsOf f.type))[i]?)=(fun(i:Nat)=>(fs[i]?).map fun(f:Field)=>(f.offset,P.cellsOf f.type)):=by
        funext i;simp
      have hfl:Instr.fill (fun(i:Nat)=>(fs.map fun(f:Field)=>(f.offset,P.cellsOf f.type))[i]?) z.cells (parts.map fun p=>(p.1,a.eval p.2)).toList=some us:=by rw[hpe,hpl];exact k1
      simp only[execOp,ho,Instr.build,Sem.run_bind,hzv,Result.andThen_ok,zn hu,hm2,hfl,Sem.run_pure]
    · cases hp
  · rename_i n e hu
    split at hp
    · rename_i he
      simp only[Option.some.injEq]at hp
      subst hp
      obtain⟨d,hd⟩:=z2 he
      have hfl:Instr.fill (fun i=>some (i*P.cellsOf e,P.cellsOf e)) z.cells (parts.map fun p=>(p.1,a.eval p.2)).toList=some us:=by rw[hpl];exact k1
      simp only[execOp,ho,Instr.build,Sem.run_bind,hzv,Result.andThen_ok,zn hu,zE hd,hfl,Sem.run_pure]
    · cases hp
  · cases hp
def cutE(sz:Nat): Nat->List AV->List (List AV)
 | 0,_=>[]
 | n+1,cs=>cs.take sz::cutE sz n (cs.drop sz)
theorem zbr(sz:Nat): ∀n cs,cs.length=n*sz->(cutE sz n cs).flatten=cs
 | 0,cs,h=>by simp at h;subst h;rfl
 | n+1,cs,h=>by
  simp only[cutE,List.flatten_cons]
  rw[zbr sz n _ (by simp[h,Nat.add_mul]),List.take_append_drop]
theorem kV(sz:Nat): ∀n cs,(cutE sz n cs).length=n
 | 0,_=>rfl
 | n+1,cs=>by simp[cutE,kV sz n]
theorem zbs(sz:Nat): ∀n cs,cs.length=n*sz->∀x∈cutE sz n cs,x.length=sz
 | 0,_,_,x,hx=>by simp[cutE]at hx
 | n+1,cs,h,x,hx=>by
  simp only[cutE,List.mem_cons]at hx
  rcases hx with rfl|hx
  ·simp[h,Nat.add_mul]
  ·exact zbs sz n _ (by simp[h,Nat.add_mul]) x hx
theorem zcd{P:Program}{N:Nat}{o:Oper}{Γ:Env}{σ:Sto}{K:AV->Sto->Prop}{t e sz bt n:Nat}{z:Value}{parts:Array (Nat×Operand)}(ho:o.op=.buildSlice t n parts)(ht:P.underlying t=some (.slice e))(he:EO P e sz bt z)
    (h1:z.cells.toList.all (fun v=>v.oneCell')=true) (hn:n*sz<=16777216) {out:List AV} (hf:ke (fun i=>some (i*sz,sz)) (List.replicate n (z.cells.toList.map alit)).flatten (parts.toList.map fun p=>(p.1,ev Γ p.2))=some out)
    (hk:parts.toList.all (fun p=>(acells (ev Γ p.2)).all (okc σ))=true) (hp:y9 out=true) (hK:K (.sl true false (cutE sz n out)) σ):SOp P N o Γ σ K:=by
  intro ρ w a next Q hF hr hn'
  obtain⟨i,hi,hz,hi1,hi2⟩:=he.parts
  have hzs:=he.2.1
  have hpos:=he.2.2
  have hforall:∀l:List (Nat×Operand),l.all (fun p=>(acells (ev Γ p.2)).all (okc σ))=true->PVp σ ρ w (l.map fun p=>(p.1,ev Γ p.2)) (l.map fun p=>(p.1,a.eval p.2)):=by
    intro l
    induction l with
    | nil=>intro _;simp[PVp]
    | cons p l ih=>intro h;simp only[List.all_cons,Bool.and_eq_true]at h;simp only[List.map_cons,PVp];exact⟨⟨trivial,hF.ev p.2,h.1⟩,ih h.2⟩
  have hmade:(madeCells z.cells (n*sz)).toList=(List.replicate n z.cells.toList).flatten:=by rw[<-hzs];exact vk _ (by omega) n
  obtain⟨us,k1,k2,k3⟩:=za0 hr _ _ _ (madeCells z.cells (n*sz)) out hf (by rw[hmade];exact zbq _ _) (by
    intro v hv
    rw[hmade]at hv
    simp only[List.mem_flatten,List.mem_replicate]at hv
    obtain⟨q,⟨_,rfl⟩,hv⟩:=hv
    exact(List.all_eq_true.1 h1) v hv) (hforall _ hk)
  have hfl:∀(l:List (Nat×AV)) (cs out:List AV) (pl:Nat->Option (Nat×Nat)),ke pl cs l=some out->out.length=cs.length:=by
    intro l
    induction l with
    | nil=>intro cs out pl h;simp[ke]at h;rw[h]
    | cons p l ih=>
      intro cs out pl h
      simp only[ke]at h
      split at h
      · split at h
        · rename_i hc
          rw[ih _ _ _ h]
          simp[putCells];omega
        · cases h
      · cases h
  have hol:out.length=n*sz:=by
    rw[hfl _ _ _ _ hf]
    have:=vo z.cells.toList n
    have hzl:z.cells.toList.length=sz:=by simpa using hzs
    simp only[List.length_flatten,List.map_replicate,List.length_map,List.sum_replicate_nat,hzl]
  have hpl:(parts.map fun p=>(p.1,a.eval p.2)).toList=parts.toList.map fun p=>(p.1,a.eval p.2):=by simp
  have hrun:(execOp a.eval o).run P w=.ok (.value (.slice (some ⟨w.heap.size,0,none⟩) n n)) (w.alloc (.cells us e)):=by
    have hS:=zE ht w
    have hse:(sizeOf e).run P w=.ok sz w:=by simp[sizeOf,typeInfo,hi,hi1]
    have hno:¬(n*sz>16777216):=by omega
    simp only[execOp,ho,Instr.buildSlice,Sem.run_bind,zn ht,Result.andThen_ok,hse]
    rw[show(2:Nat) ^ 24=16777216 from rfl,if_neg hno]
    by_cases hz0:n*sz=0
    · rw[if_pos hz0]
      have e1:Array.map (fun x=>(#[]:Array Value)[x % (#[]:Array Value).size]!) (Array.range (n*sz))=madeCells z.cells (n*sz):=by simp[madeCells,hz0]
      simp only[Sem.run_bind,Sem.run_pure,Result.andThen_ok,e1,hpl,k1]
      simp[newRow]
    · rw[if_neg hz0]
      have e0:(zeroValue e).run P w=.ok z w:=by simp[zeroValue,typeInfo,hi,hz]
      have e1:Array.map (fun x=>z.cells[x % z.cells.size]!) (Array.range (n*sz))=madeCells z.cells (n*sz):=rfl
      simp only[Sem.run_bind,Sem.run_pure,Result.andThen_ok,e0,e1,hpl,k1]
      simp[newRow]
  have hkk:∀b,b<w.heap.size->(w.alloc (.cells us e)).heap[b]?=w.heap[b]?:=fun b hb=>heap_alloc_old w _ b hb
  have st:Step σ.length σ ρ w σ ρ (w.alloc (.cells us e)):=⟨rfl,rfl,rfl,by simp,fun b hb _=>hkk b hb,fun b hb=>.inl hb,Nat.le_refl _,Nat.le_refl _,fun o ho=>.refl _ _ (by simp;omega),rfl⟩
  have hr':Rel σ ρ (w.alloc (.cells us e)):=by
    refine⟨fun o ob h=>?_,hr.inj,fun b hb=>Nat.lt_of_lt_of_le (hr.fol b hb) (by simp),hr.dis⟩
    have hO:=hr.obj _ _ h
    cases hl:ob.live with
    | false=>cases ob<;>simp[Ob.live]at hl;trivial
    | true=>exact hO.carry st (fun b hb'=>hkk b (hr.blk_lt _ _ _ h hl hb'))
  unfold Oper.wp
  rw[hrun,Oper.upon_value]
  refine hn' _ _ _ _ _ hK hr' ?_ st
  simp only[VR,PV]
  refine⟨some ⟨w.heap.size,0,none⟩,n,sz,by rw[kV],by rw[kV];exact Nat.le_refl _,by
    have:n<=n*sz:=Nat.le_mul_of_pos_right _ hpos
    simp only[maxLen];omega,fun _=>by rw[kV],by simp,zbs sz n out hol,fun _=>⟨w.heap.size,0,rfl,by simp,?_,?_⟩⟩
  · rintro(⟨o2,ob2,q1,q2,q3⟩ | q)
    · have:=hr.blk_lt _ _ _ q1 q2 q3
      omega
    · have:=hr.fol _ q
      omega
  · refine zag _ _ _ ?_
    rw[zbr sz n out hol]
    have hpv:=VRl.pv _ _ (VRl.carry st _ _ k2) hp
    refine zaD _ us.toList _ _ hpv k3 (fun j u hj=>?_)
    rw[Nat.zero_add,World.cell?_alloc_new]
    simpa using hj
end Go.Lf
