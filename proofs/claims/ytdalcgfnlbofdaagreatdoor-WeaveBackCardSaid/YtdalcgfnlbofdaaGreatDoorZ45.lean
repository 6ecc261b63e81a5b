import Derived.Test.YtdalcgfnlbofdaaGreatDoorZ38
import Derived.Test.YtdalcgfnlbofdaaGreatDoorZ42
set_option linter.unusedVariables false
set_option linter.unusedSimpArgs false
namespace Go.Proofs.YtdalcgfnlbofdaaGreatDoor
open Go Go.Lf Go.Proofs
attribute [local irreducible] Lf.rg Lf.ro Lf.PWp Lf.SOp Lf.ACall Lf.Scoped Lf.dg
set_option maxRecDepth 20000
set_option maxHeartbeats 4000000
/-! the program's Unweave is the plain one -/
theorem zvH(t g s:Int)(b:List UInt8): (rfM t g s b).t=t/\((t=1\/t=5\/t=9)->(rfM t g s b).st=[]):=by
 unfold rfM
 repeat' split
 all_goals(try subst_vars)
 all_goals refine⟨rfl,fun h=>?_⟩
 all_goals first|rfl|(exfalso;omega)
theorem zdX{x:Fr}(h:okQ (rqF x)): zkH (rqF x)=some (gm (vu x))/\(vu x).t=x.t/\(vu x).g=x.g/\((x.t=1\/x.t=5\/x.t=9)->(vu x).st=[])/\(vu x).d.length<=x.b.length/\0<=x.g/\x.g<=255:=by
 have h1:zcj ⟨x.b.length,x.t,x.g,x.s,x.r⟩:=h.1
 have h2:kM x.t x.g x.s x.b=(0,0):=h.2
 obtain⟨_,e⟩:=zbX h2
 obtain⟨e1,e2⟩:=zvH x.t x.g x.s x.b
 obtain⟨_,e3⟩:=zyS x.t x.g x.s x.b
 have hl:=zdM x.t x.g x.s x.b
 refine⟨?_,?_,?_,fun ht=>?_,hl.1,h1.2.2.2.2.1,h1.2.2.2.2.2.1⟩
 ·unfold zkH
  rw[if_pos h]
  exact congrArg some e.symm
 ·exact(congrArg Gm.t e).trans e1
 ·exact(congrArg Gm.g e).trans e3
 ·exact(congrArg Gm.st e).trans (e2 ht)
structure AR(a:Am)(b:Asm): Prop where
 on:a.on=b.on
 x:a.x=b.b
 f:a.on=true->gm a.f=b.f/\a.f.st=[]
structure CR(c:Cm)(u:Us): Prop where
 a0:AR c.a0 u.a0
 a1:AR c.a1 u.a1
 t0:c.t0=u.d0
 t1:c.t1=u.d1
 o:c.o.map itG=u.o
theorem CR.a{c:Cm}{u:Us}(h:CR c u)(w:Int): AR (aC c w) (aU u w):=by
 unfold aC aU;split
 ·exact h.a0
 ·exact h.a1
theorem CR.t{c:Cm}{u:Us}(h:CR c u)(w:Int): tC c w=tU u w:=by
 unfold tC tU;split
 ·exact h.t0
 ·exact h.t1
theorem CR.sA{c:Cm}{u:Us}(h:CR c u)(w:Int){a:Am}{b:Asm}(hab:AR a b): CR (sA c w a) (paU u w b):=by
 unfold Go.Proofs.YtdalcgfnlbofdaaGreatDoor.sA paU;split
 ·exact⟨hab,h.a1,h.t0,h.t1,h.o⟩
 ·exact⟨h.a0,hab,h.t0,h.t1,h.o⟩
theorem CR.sT{c:Cm}{u:Us}(h:CR c u)(w:Int)(t:DT): CR (sTd c w t) (ptU u w t):=by
 unfold Go.Proofs.YtdalcgfnlbofdaaGreatDoor.sTd ptU;split
 ·exact⟨h.a0,h.a1,rfl,h.t1,h.o⟩
 ·exact⟨h.a0,h.a1,h.t0,rfl,h.o⟩
theorem CR.sO{c:Cm}{u:Us}(h:CR c u){x:ItF}{o:List Itm}(ho:o=u.o++[itG x]): CR (sO c x) { u with o:=o }:=by
 refine⟨h.a0,h.a1,h.t0,h.t1,?_⟩
 show(c.o++[x]).map itG=o
 rw[List.map_append,h.o,ho];rfl
theorem zvI{c:Cm}{w:Int}{a:Am}: (sA c w a).o=c.o:=by unfold sA;split<;>rfl
theorem zzQ{c:Cm}{w:Int}{t:DT}: (sTd c w t).o=c.o:=by unfold sTd;split<;>rfl
theorem zcO{a:Am}{b:Asm}(h:AR a b)(y:Fm): tkP a.on a.f.s y.t y.s↔(if b.on=true then(gm y).t=9/\(gm y).s=b.f.s else ¬(gm y).t=9):=by
 unfold tkP
 rw[h.on]
 cases hb:b.on with
 | false=>rfl
 | true=>
  have:=(h.f (by rw[h.on,hb])).1
  rw[show b.f.s=a.f.s from(congrArg Gm.s this).symm]
  rfl
theorem zle{a:Am}{b:Asm}(h:AR a b){y:Fm}(hst:y.st=[]): gm (amF a y)=(if b.on=true then b.f else gm y)/\(amF a y).st=[]:=by
 refine⟨?_,rfl⟩
 rw[<-h.on]
 cases ha:a.on with
 | false=>
  rw[if_neg (by decide)]
  unfold amF gm
  rw[ha,hst];rfl
 | true=>
  obtain⟨h1,h2⟩:=h.f ha
  rw[if_pos rfl,<-h1]
  unfold amF gm
  rw[ha,h2];rfl
theorem zoO(b:List UInt8)(t:DT): rdU b t=if(dcC b t).2=0 then some ((dcC b t).1.F,(dcC b t).1.t)else none:=rfl
theorem zoP{c:Cm}{u:Us}(h:CR c u)(w:Int){y:Fm}(hst:(y.t=1\/y.t=5\/y.t=9)->y.st=[]):
    (oneC c w y=none/\zaM u w (gm y)=none)\/∃c' u',oneC c w y=some c'/\zaM u w (gm y)=some u'/\CR c' u':=by
  have hA:=h.a w
  have hT:=h.t w
  have hp:zaz (gm y)=decide (y.t=1\/y.t=5\/y.t=9):=rfl
  rcases zaA c w y with⟨k1,e⟩|⟨k1,k2,e⟩|⟨k1,k2,k3,e⟩|⟨k1,k2,k3,k4,e⟩|⟨k1,k2,k3,k4,k5,e⟩|⟨k1,k2,k3,k4,k5,e⟩
  · left
    refine⟨e,?_⟩
    have:zcK (aU u w) (gm y)=none:=by
      unfold zcK
      rw[if_neg (fun h'=>k1 ((zcO hA y).2 h'))]
    unfold zaM
    rw[this]
  · right
    have:zcK (aU u w) (gm y)=some (aU u w,none):=by
      unfold zcK
      rw[if_pos ((zcO hA y).1 k1),if_pos (by rw[hp];exact decide_eq_false k2)]
    refine⟨_,{ paU u w (aU u w)with o:=u.o++[⟨w,ji (gm y),false,[]⟩] },e,?_,?_⟩
    · unfold zaM
      rw[this]
      dsimp only
      rw[if_neg (by
        intro h'
        rcases h' with h'|h'
        · rcases h' with h' | h'
          · exact k2 (.inl h')
          · exact k2 (.inr (.inl h'))
        · exact k2 (.inr (.inr h')))]
    · rw[zri]
      refine h.sO ?_
      congr 2
      unfold itG itP ji gm bgF bpF
      dsimp only
      split<;>rfl
  · left
    refine⟨e,?_⟩
    have:zcK (aU u w) (gm y)=none:=by
      unfold zcK
      rw[if_pos ((zcO hA y).1 k1),if_neg (by rw[hp];simp[k2]),if_pos (by rw[<-hA.x];exact k3)]
    unfold zaM
    rw[this]
  · right
    obtain⟨g1,g2⟩:=zle hA (hst k2)
    have:zcK (aU u w) (gm y)=some (⟨true,gm (amF (aC c w) y),(aC c w).x++y.d⟩,none):=by
      unfold zcK
      rw[if_pos ((zcO hA y).1 k1),if_neg (by rw[hp];simp[k2]),if_neg (by rw[<-hA.x];show ¬1048576<(aC c w).x.length+y.d.length;omega),if_neg (by show ¬yM y.t y.g 4=true;rw[k4];decide),g1,<-hA.x]
      rfl
    refine⟨_,{ paU u w ⟨true,gm (amF (aC c w) y),(aC c w).x++y.d⟩with o:=u.o },e,?_,?_⟩
    · unfold zaM
      rw[this]
      dsimp only
      rw[if_pos (by
        rcases k2 with h'|h'|h'
        · exact .inl (.inl h')
        · exact .inl (.inr h')
        · exact .inr h')]
    · have := h.sA w (a := ⟨true, amF (aC c w) y, (aC c w).k + 1, (aC c w).x ++ y.d⟩) (b := ⟨true, gm (amF (aC c w) y), (aC c w).x ++ y.d⟩) ⟨rfl, rfl, fun _ => ⟨rfl, g2⟩⟩
      rw[show({ paU u w ⟨true,gm (amF (aC c w) y),(aC c w).x++y.d⟩with o:=u.o }:Us)=paU u w ⟨true,gm (amF (aC c w) y),(aC c w).x++y.d⟩from by
        unfold paU;split<;>rfl]
      exact this
  · right
    obtain⟨g1,g2⟩:=zle hA (hst k2)
    have:zcK (aU u w) (gm y)=some (asm0,some { gm (amF (aC c w) y)with d:=(aC c w).x++y.d }):=by
      unfold zcK
      rw[if_pos ((zcO hA y).1 k1),if_neg (by rw[hp];simp[k2]),if_neg (by rw[<-hA.x];show ¬1048576<(aC c w).x.length+y.d.length;omega),if_pos (show yM (gm y).t (gm y).g 4=true from k4),g1,<-hA.x]
      rfl
    have hit:(⟨w,{ ji { gm (amF (aC c w) y)with d:=(aC c w).x++y.d }with d:=[],g:=kS (ji { gm (amF (aC c w) y)with d:=(aC c w).x++y.d }).g 4 },true,(dcC ((aC c w).x++y.d) (tC c w)).1.F⟩:Itm)=itG (itE w (amF (aC c w) y) (dcC ((aC c w).x++y.d) (tC c w)).1.F):=by
      have hs:(amF (aC c w) y).st=[]:=rfl
      unfold itG itE ji bgF bpF
      dsimp only
      unfold gm
      dsimp only
      rw[hs]
      split<;>rfl
    refine⟨_,{ ptU (paU u w asm0) w (dcC ((aC c w).x++y.d) (tC c w)).1.t with o:=u.o++[itG (itE w (amF (aC c w) y) (dcC ((aC c w).x++y.d) (tC c w)).1.F)] },e,?_,?_⟩
    · unfold zaM
      rw[this]
      dsimp only
      unfold zb1
      rw[zzL,zoO,<-hT,if_pos k5]
      dsimp only
      rw[hit,zni]
    · have h1 := (h.sA w (a := amZ) (b := asm0) ⟨rfl, rfl, fun e => by cases e⟩).sT w (dcC ((aC c w).x ++ y.d) (tC c w)).1.t
      have e1:(ptU (paU u w asm0) w (dcC ((aC c w).x++y.d) (tC c w)).1.t).o=u.o:=by unfold ptU;split<;>exact zni
      exact h1.sO (by rw[e1])
  · left
    obtain⟨g1,g2⟩:=zle hA (hst k2)
    have:zcK (aU u w) (gm y)=some (asm0,some { gm (amF (aC c w) y)with d:=(aC c w).x++y.d }):=by
      unfold zcK
      rw[if_pos ((zcO hA y).1 k1),if_neg (by rw[hp];simp[k2]),if_neg (by rw[<-hA.x];show ¬1048576<(aC c w).x.length+y.d.length;omega),if_pos (show yM (gm y).t (gm y).g 4=true from k4),g1,<-hA.x]
      rfl
    refine⟨e,?_⟩
    unfold zaM
    rw[this]
    dsimp only
    unfold zb1
    rw[zzL,zoO,<-hT,if_neg k5]
theorem zoQ: ∀(l:List Fr) (c:Cm) (u:Us),CR c u ->
    ((uwX zaM (l.map rqF) u).2≠0->(unw l c).2=(uwX zaM (l.map rqF) u).2) /\
    ((uwX zaM (l.map rqF) u).2=0->∃c',CR c' (uwX zaM (l.map rqF) u).1/\unw l c=(c',if c'.a0.on=true\/c'.a1.on=true then 4 else 0))
  | [],c,u,h=>⟨fun e=>absurd rfl e,fun _=>⟨c,h,rfl⟩⟩
  | x::l,c,u,h=>by
    rw[List.map_cons,uwX]
    by_cases hw:x.w=0\/x.w=1
    · rw[if_pos (show(rqF x).w=0\/(rqF x).w=1 from hw)]
      by_cases hq:okQ (rqF x)
      · obtain⟨p1,p2,p3,p4,p5,p6,p7⟩:=zdX hq
        rw[p1]
        dsimp only
        rcases zoP h x.w (y:=vu x) (by rw[p2];exact p4)with⟨e1,e2⟩|⟨c',u',e1,e2,e3⟩
        · rw[show zaM u (rqF x).w (gm (vu x))=none from e2]
          rw[zk7 hw hq e1]
          exact⟨fun _=>rfl,fun e=>by simp at e⟩
        · rw[show zaM u (rqF x).w (gm (vu x))=some u' from e2]
          rw[zfM hw hq e1]
          exact zoQ l c' u' e3
      · rw[zvs hw hq]
        have:zkH (rqF x)=none:=if_neg hq
        rw[this]
        exact⟨fun _=>rfl,fun e=>by simp at e⟩
    · rw[if_neg (show ¬((rqF x).w=0\/(rqF x).w=1)from hw),zvr hw]
      exact⟨fun _=>rfl,fun e=>by simp at e⟩
def us0: Us:=⟨asm0,asm0,dt0,dt0,[]⟩
theorem cr0: CR cm0 us0:=⟨⟨rfl,rfl,fun e=>by cases e⟩,⟨rfl,rfl,fun e=>by cases e⟩,rfl,rfl,rfl⟩
/-! what is woven -/
theorem zvJ{x:Itm}{y:Wy}{t t':DT}{L:List Gm}(h:itM x y t=(L,true,t')): zvg x y t/\L=(wvI x y t).1/\t'=(wvI x y t).2:=by
 unfold itM at h
 by_cases h1:¬yD x\/255<y.p
 ·rw[if_pos h1]at h;simp at h
 ·rw[if_neg h1]at h
  have hr:yD x:=Classical.byContradiction fun h=>h1 (.inl h)
  have hp:y.p<=255:=by have:¬255<y.p:=fun h=>h1 (.inr h);omega
  by_cases h2:x.bk=true/\zaV y.z=true
  ·rw[if_pos h2]at h;simp at h
  ·rw[if_neg h2]at h
   simp only[Prod.mk.injEq]at h
   obtain⟨e1,e2,e3⟩:=h
   have hall:=zoH e2
   refine⟨⟨hr,hp,fun hb=>?_,hall⟩,?_,e3.symm⟩
   ·cases hz:zaV y.z with
    | false=>rfl
    | true=>exact absurd ⟨hb,hz⟩ h2
   ·rw[<-e1,zrs hall]
theorem zrF(ys:List Wy): ∀(l:List Itm) (i:Nat) (a b:DT) (o O:List Fr),wvM ys i l a b o=some O->O.map rqF=wvL ys i l a b (o.map rqF)/\zwn ys i l a b
 | [],i,a,b,o,O,h=>by
  obtain rfl:o=O:=by simpa[wvM]using h
  exact⟨rfl,trivial⟩
 | x::l,i,a,b,o,O,h=>by
  rw[wvM]at h
  rw[wvL,zwn]
  have key:∀t,(∃L t',itM x (kx ys i) t=(L,true,t'))->(itM x (kx ys i) t).1=(wvI x (kx ys i) t).1/\(itM x (kx ys i) t).2.2=(wvI x (kx ys i) t).2/\zvg x (kx ys i) t:=by
   rintro t ⟨L,t',e⟩
   obtain⟨k1,k2,k3⟩:=zvJ e
   rw[e];exact⟨k2,k3,k1⟩
  have hmap:∀(w:Int) (F:List Gm),(o++F.map (rwF w)).map rqF=o.map rqF++F.map (rawG w):=by
   intro w F
   rw[List.map_append,List.map_map];rfl
  by_cases h0:x.w=0
  ·rw[if_pos h0]at h
   by_cases hy:(itM x (kx ys i) a).2.1=true
   ·rw[if_pos hy]at h
    obtain⟨k1,k2,k3⟩:=key a ⟨_,_,by rw[<-hy]⟩
    have:=zrF ys l (i+1) _ _ _ _ h
    rw[k1,k2,hmap]at this
    have htw:tW a b x.w=a:=if_pos h0
    rw[if_pos h0,if_pos h0,htw]
    rw[h0]
    exact⟨this.1,k3,this.2⟩
   ·rw[if_neg hy]at h;cases h
  ·rw[if_neg h0]at h
   by_cases h1:x.w=1
   ·rw[if_pos h1]at h
    by_cases hy:(itM x (kx ys i) b).2.1=true
    ·rw[if_pos hy]at h
     obtain⟨k1,k2,k3⟩:=key b ⟨_,_,by rw[<-hy]⟩
     have:=zrF ys l (i+1) _ _ _ _ h
     rw[k1,k2,hmap]at this
     have htw:tW a b x.w=b:=if_neg h0
     rw[if_neg h0,if_neg h0,htw]
     rw[h1]
     exact⟨this.1,k3,this.2⟩
    ·rw[if_neg hy]at h;cases h
   ·rw[if_neg h1]at h;cases h
theorem znD{q q':DQ}{r:Rp}(h:vQ q r=(q',0)): q'.t.xs.length+q.F.length<=q.t.xs.length+q'.F.length:=by
 obtain⟨F,S,t⟩:=q
 by_cases h5:r.k=5
 ·by_cases h0:0<F.length
  ·rw[zbV h5 h0]at h
   have h9:(13:Int)=0:=congrArg Prod.snd h
   exact absurd h9 (by decide)
  ·rw[j8 h5 h0]at h
   obtain rfl:=(Prod.mk.inj h).1
   have hk:=yS r.sz t.xs
   dsimp only;omega
 ·cases hg:fG t.xs r with
  | none=>
   rw[zdA h5 hg]at h
   have h9:(12:Int)=0:=congrArg Prod.snd h
   exact absurd h9 (by decide)
  | some g=>
   by_cases h2:r.k=2
   ·rw[zdB h2 hg]at h
    obtain rfl:=(Prod.mk.inj h).1
    dsimp only
    rw[kO]
    have:(zbU t (fV r g)).xs.length<=t.xs.length+1:=by
     unfold zbU
     split
     ·have:=yS (t.m-wt (fV r g)) t.xs
      unfold addX
      simp only[List.length_append,List.length_cons,List.length_nil]
      omega
     ·simp[xsE]
    omega
   ·rw[jK h5 h2 hg]at h
    obtain rfl:=(Prod.mk.inj h).1
    dsimp only
    rw[kO]
    omega
theorem zlf: ∀(n:Nat) (b:List UInt8) (q Q:DQ),b.length<=n->kP n b q=(Q,0)->Q.t.xs.length+q.F.length<=q.t.xs.length+Q.F.length
 | n,b,q,Q,hn,h=>by
  by_cases hlt:b.length=0
  ·rw[zbc hlt]at h
   obtain rfl:=(Prod.mk.inj h).1
   omega
  cases n with
  | zero=>omega
  | succ n=>
   by_cases he0:(rgM b).e≠0
   ·rw[zkg hlt he0]at h;exact absurd (congrArg Prod.snd h) he0
   have he:(rgM b).e=0:=by omega
   rcases zdq b with⟨h1,_⟩|⟨_,hP,hM0,hM1⟩
   ·exact absurd he h1
   obtain⟨⟨q',e⟩,hs⟩:∃p,vQ q (rgM b)=p:=⟨_,rfl⟩
   by_cases hee:e=0
   ·subst hee
    obtain⟨a,ha⟩:∃j:Nat,(rgM b).n=j:=⟨(rgM b).n.toNat,by omega⟩
    rw[jv hlt he ha hs]at h
    have hdl:(b.drop a).length=b.length-a:=List.length_drop
    have i1:=znD hs
    have i2:=zlf n (b.drop a) q' Q (by omega) h
    omega
   ·rw[zgQ hlt he hs hee]at h;exact absurd (congrArg Prod.snd h) hee
structure C0(c:Cm)(i:Nat): Prop where
 a0:zoI c.a0
 a1:zoI c.a1
 g0:0<=c.a0.f.g/\c.a0.f.g<256
 g1:0<=c.a1.f.g/\c.a1.f.g<256
 t0:TOk c.t0
 t1:TOk c.t1
 o:c.o.length<=i
theorem C0.st{c:Cm}{i w:Nat}{x:Fr}(h:C0 c i)(hq:okQ (rqF x))(hb:(aC c x.w).x.length+(vu x).d.length<=50000)(ht:(tC c x.w).xs.length<=30000)(hi:i<=1000000): StOk c x.w (vu x):=by
 obtain⟨p1,p2,p3,p4,p5,p6,p7⟩:=zdX hq
 have hg:zoI (aC c x.w)/\(0<=(aC c x.w).f.g/\(aC c x.w).f.g<256):=by
  unfold aC;split
  ·exact⟨h.a0,h.g0⟩
  ·exact⟨h.a1,h.g1⟩
 have hT:TOk (tC c x.w):=by
  unfold tC;split
  ·exact h.t0
  ·exact h.t1
 have ho:=h.o
 exact⟨hg.1,by omega,hg.2,by rw[p3];omega,by omega,by rw[p2];exact p4,hT,ht,hb,by omega⟩
def zEP(c c':Cm)(w:Int)(y:Fm): Prop:=∃a t,(w=0->c'.a0=a/\c'.t0=t/\c'.a1=c.a1/\c'.t1=c.t1)/\(w=1->c'.a1=a/\c'.t1=t/\c'.a0=c.a0/\c'.t0=c.t0) /\
  ((¬(y.t=1\/y.t=5\/y.t=9)/\a=aC c w/\t=tC c w/\∃it:ItF,c'.o=c.o++[it]/\it.fl=[]) \/
   ((y.t=1\/y.t=5\/y.t=9)/\yM y.t y.g 4=false/\a.x.length=(aC c w).x.length+y.d.length/\t=tC c w/\c'.o=c.o) \/
   ((y.t=1\/y.t=5\/y.t=9)/\yM y.t y.g 4=true/\a.x.length=0/\t.xs.length<=(tC c w).xs.length+((aC c w).x.length+y.d.length)/\∃it:ItF,c'.o=c.o++[it]/\t.xs.length<=(tC c w).xs.length+it.fl.length))
theorem C0.step{c c':Cm}{i:Nat}{w:Int}{y:Fm}(h:C0 c i)(hw:w=0\/w=1)(hyg:0<=y.g/\y.g<256)(e:oneC c w y=some c')(hb:(aC c w).x.length+y.d.length<=50000): C0 c' (i+1)/\zEP c c' w y:=by
  have hT:TOk (tC c w):=by
    unfold tC;split
    · exact h.t0
    · exact h.t1
  have hG:0<=(aC c w).f.g/\(aC c w).f.g<256:=by
    unfold aC;split
    · exact h.g0
    · exact h.g1
  have hO:=h.o
  rcases zaA c w y with⟨k1,e'⟩|⟨k1,k2,e'⟩|⟨k1,k2,k3,e'⟩|⟨k1,k2,k3,k4,e'⟩|⟨k1,k2,k3,k4,k5,e'⟩|⟨k1,k2,k3,k4,k5,e'⟩
  · rw[e']at e;cases e
  · rw[e']at e
    obtain rfl:=Option.some.inj e
    refine⟨⟨h.a0,h.a1,h.g0,h.g1,h.t0,h.t1,by show(c.o++[itP w y]).length<=_;rw[List.length_append];simp only[List.length_cons,List.length_nil];omega⟩,aC c w,tC c w,?_,?_,.inl ⟨k2,rfl,rfl,_,rfl,rfl⟩⟩
    · rintro rfl;exact⟨rfl,rfl,rfl,rfl⟩
    · rintro rfl;exact⟨rfl,rfl,rfl,rfl⟩
  · rw[e']at e;cases e
  · rw[e']at e
    obtain rfl:=Option.some.inj e
    have ha:zoI ⟨true,amF (aC c w) y,(aC c w).k+1,(aC c w).x++y.d⟩:=.inl rfl
    have hg:0<=(amF (aC c w) y).g/\(amF (aC c w) y).g<256:=by
      show 0<=sI (aC c w).on (aC c w).f.g y.g/\sI (aC c w).on (aC c w).f.g y.g<256
      unfold sI
      cases(aC c w).on
      · exact hyg
      · exact hG
    refine⟨?_,⟨true,amF (aC c w) y,(aC c w).k+1,(aC c w).x++y.d⟩,tC c w,?_,?_,.inr (.inl ⟨k2,k4,by rw[List.length_append],rfl,zvI⟩)⟩
    · rcases hw with rfl | rfl
      · exact⟨ha,h.a1,hg,h.g1,h.t0,h.t1,by rw[zvI];omega⟩
      · exact⟨h.a0,ha,h.g0,hg,h.t0,h.t1,by rw[zvI];omega⟩
    · rintro rfl;exact⟨rfl,rfl,rfl,rfl⟩
    · rintro rfl;exact⟨rfl,rfl,rfl,rfl⟩
  · rw[e']at e
    obtain rfl:=Option.some.inj e
    have hbl:((aC c w).x++y.d).length<=50000:=by rw[List.length_append];exact hb
    obtain⟨Q,hQ⟩:∃Q,kP ((aC c w).x++y.d).length ((aC c w).x++y.d) ⟨xs0,ss0,⟨(tC c w).xs,0,(tC c w).m⟩⟩=(Q,0):=⟨_,Prod.ext rfl k5⟩
    obtain⟨d1,d2,d3,d4⟩:=zgS _ _ _ _ (Nat.le_refl _) hbl (show TOk (⟨(tC c w).xs,0,(tC c w).m⟩:DT)from hT) hQ
    have d5:=zlf _ _ _ _ (Nat.le_refl _) hQ
    have hQ1:(dcC ((aC c w).x++y.d) (tC c w)).1=Q:=congrArg Prod.fst hQ
    rw[hQ1]
    have d5':Q.t.xs.length<=(tC c w).xs.length+Q.F.length:=by
      have:(⟨xs0,ss0,⟨(tC c w).xs,0,(tC c w).m⟩⟩:DQ).F.length=0:=rfl
      dsimp only at d5;omega
    have d2':Q.t.xs.length<=(tC c w).xs.length+((aC c w).x.length+y.d.length):=by
      rw[List.length_append]at d2
      exact d2
    refine⟨?_,amZ,Q.t,?_,?_,.inr (.inr ⟨k2,k4,rfl,d2',itE w (amF (aC c w) y) Q.F,by show(Go.Proofs.YtdalcgfnlbofdaaGreatDoor.sTd (sA c w amZ) w Q.t).o++[_]=_;rw[zzQ,zvI],d5'⟩)⟩
    · have hol:(sO (sTd (sA c w amZ) w Q.t) (itE w (amF (aC c w) y) Q.F)).o.length<=i+1:=by
        show((Go.Proofs.YtdalcgfnlbofdaaGreatDoor.sTd (sA c w amZ) w Q.t).o++[_]).length<=_
        rw[zzQ,zvI,List.length_append]
        simp only[List.length_cons,List.length_nil];omega
      rcases hw with rfl|rfl
      · exact⟨zhh,h.a1,by show(0:Int)<=0/\(0:Int)<256;omega,h.g1,d1,h.t1,hol⟩
      · exact⟨h.a0,zhh,h.g0,by show(0:Int)<=0/\(0:Int)<256;omega,h.t0,d1,hol⟩
    · rintro rfl;exact⟨rfl,rfl,rfl,rfl⟩
    · rintro rfl;exact⟨rfl,rfl,rfl,rfl⟩
  · rw[e']at e;cases e
theorem zlg(I:List Fr->Cm->Prop)(hI:∀x l c,I (x::l) c->x.b.length<=100000/\((x.w=0\/x.w=1)->okQ (rqF x)->StOk c x.w (vu x)/\∀c',oneC c x.w (vu x)=some c'->I l c')): ∀l c,I l c->UOk l c
 | [],_,_=>trivial
 | x::l,c,h=>by
  obtain⟨h1,h2⟩:=hI x l c h
  exact⟨h1,fun hw hq=>⟨(h2 hw hq).1,fun c' e=>zlg I hI l c' ((h2 hw hq).2 c' e)⟩⟩
theorem c00: C0 cm0 0:=⟨zhh,zhh,by show(0:Int)<=0/\(0:Int)<256;omega,by show(0:Int)<=0/\(0:Int)<256;omega,zqY (by decide) (by decide),zqY (by decide) (by decide),Nat.le_refl _⟩
/-! frames that are short together -/
/-! what is woven is unwoven -/
def bbL: List Fr->Nat->Nat->Prop
  | [],_,_=>True
  | x :: l, a, b => (if x.w = 0 then a else b) + (vu x).d.length <= 50000 /\
      (if x.t=1\/x.t=5\/x.t=9 then
        (if yM x.t x.g 4=true then bbL l (if x.w=0 then 0 else a) (if x.w=0 then b else 0)
         else bbL l (if x.w=0 then a+(vu x).d.length else a) (if x.w=0 then b else b+(vu x).d.length))
      else bbL l a b)
def fI: List Itm->Nat
 | []=>0
 | x::l=>x.fl.length+fI l
theorem zhn: ∀(a b:List Itm),fI (a++b)=fI a+fI b
 | [],b=>by simp[fI]
 | x::a,b=>by rw[List.cons_append,fI,fI,zhn a b];omega
theorem zho{u u':Us}{w:Int}{f:Gm}(h:zaM u w f=some u'): ∃s,u'.o=u.o++s:=by
 unfold zaM at h
 split at h
 ·cases h
 ·unfold zb1 at h
  split at h
  ·cases h
  ·obtain rfl:=Option.some.inj h
   exact⟨_,by dsimp only;rw[zni]⟩
 ·obtain rfl:=Option.some.inj h
  dsimp only
  split
  ·exact⟨[],by simp⟩
  ·exact⟨_,rfl⟩
theorem zlh: ∀(l:List Rq) (u v:Us),uwL l u=some v->∃s,v.o=u.o++s
  | [], u, v, h => ⟨[], by obtain rfl : u = v := by simpa [uwL] using h
                           simp⟩
  | r::l,u,v,h=>by
    rw[uwL]at h
    split at h
    · split at h
      · cases h
      · split at h
        · cases h
        · rename_i f hf u' hu
          obtain⟨s1,e1⟩:=zho hu
          obtain⟨s2,e2⟩:=zlh l u' v h
          exact⟨s1++s2,by rw[e2,e1,List.append_assoc]⟩
    · cases h
def IB(l:List Fr)(c:Cm): Prop:=∃u v i,C0 c i/\CR c u/\uwL (l.map rqF) u=some v/\bbL l c.a0.x.length c.a1.x.length/\c.t0.xs.length<=fI (c.o.map itG)/\c.t1.xs.length<=fI (c.o.map itG)/\fI v.o<=30000/\(∀x∈l,x.b.length<=100000)/\i+l.length<=1000000
theorem znE{l:List Fr}{v:Us}(h:uwL (l.map rqF) us0=some v)(hb:bbL l 0 0)(hf:fI v.o<=30000)(hs:∀x∈l,x.b.length<=100000)(hl:l.length<=1000000): UOk l cm0:=by
 refine zlg IB ?_ l cm0 ⟨us0,v,0,c00,cr0,h,hb,Nat.zero_le _,Nat.zero_le _,hf,hs,by omega⟩
 rintro x l c ⟨u,v,i,h0,hcr,hu,hbb,ht0,ht1,hfv,hss,hi⟩
 rw[List.length_cons]at hi
 refine⟨hss x List.mem_cons_self,fun hw hq=>?_⟩
 obtain⟨p1,p2,p3,p4,p5,p6,p7⟩:=zdX hq
 rw[List.map_cons,uwL,if_pos (show(rqF x).w=0\/(rqF x).w=1 from hw),p1]at hu
 dsimp only at hu
 obtain⟨s0,hpre⟩:∃s,v.o=u.o++s:=by
  split at hu
  ·cases hu
  ·rename_i u' hu'
   obtain⟨s1,e1⟩:=zho hu'
   obtain⟨s2,e2⟩:=zlh _ _ _ hu
   exact⟨s1++s2,by rw[e2,e1,List.append_assoc]⟩
 have hfu:fI (c.o.map itG)<=30000:=by
  have:=zhn u.o s0
  rw[<-hpre]at this
  rw[hcr.o];omega
 have hT:(tC c x.w).xs.length<=fI (c.o.map itG):=by
  unfold tC;split
  ·exact ht0
  ·exact ht1
 have hax:(aC c x.w).x.length=if x.w=0 then c.a0.x.length else c.a1.x.length:=by
  unfold aC;split<;>rfl
 rw[bbL]at hbb
 obtain⟨hbd,hbb⟩:=hbb
 rw[<-hax]at hbd
 refine⟨h0.st (w:=0) hq hbd (by omega) (by omega),fun c' e=>?_⟩
 obtain⟨h1,a,t,e0,e1,hc⟩:=h0.step hw (by rw[p3];omega) e hbd
 rcases zoP hcr x.w (y:=vu x) (by rw[p2];exact p4)with⟨e1',_⟩|⟨c2,u',e1',e2',e3'⟩
 ·rw[e1']at e;cases e
 rw[e1']at e
 obtain rfl:=Option.some.inj e
 rw[show zaM u (rqF x).w (gm (vu x))=some u' from e2']at hu
 dsimp only at hu
 rw[p2,p3]at hc
 have fin:t.xs.length<=fI (c2.o.map itG)/\fI (c.o.map itG)<=fI (c2.o.map itG):=by
  rcases hc with⟨_,_,rfl,it,ho,_⟩|⟨_,_,_,rfl,ho⟩|⟨_,_,_,_,it,ho,hk⟩
  ·rw[ho,List.map_append,zhn];omega
  ·rw[ho];exact⟨hT,Nat.le_refl _⟩
  ·rw[ho,List.map_append,zhn]
   have:fI ([it].map itG)=it.fl.length:=by show it.fl.length+0=_;omega
   omega
 have hbb2:bbL l c2.a0.x.length c2.a1.x.length:=by
  rcases hc with⟨hp,rfl,rfl,it,ho,_⟩|⟨hp,hz,hx,rfl,ho⟩|⟨hp,hz,hx,_,it,ho,hk⟩
  ·rw[if_neg hp]at hbb
   rcases hw with hw|hw
   ·obtain⟨q1,q2,q3,q4⟩:=e0 hw
    rw[q1,q3,hw];exact hbb
   ·obtain⟨q1,q2,q3,q4⟩:=e1 hw
    rw[q1,q3,hw];exact hbb
  ·rw [if_pos hp, if_neg (by rw [hz]; decide)] at hbb
   rcases hw with hw|hw
   ·obtain⟨q1,q2,q3,q4⟩:=e0 hw
    rw[if_pos hw,if_pos hw]at hbb
    rw[q1,q3,hx,hax,if_pos hw];exact hbb
   ·obtain⟨q1,q2,q3,q4⟩:=e1 hw
    have hn:¬x.w=0:=by omega
    rw[if_neg hn,if_neg hn]at hbb
    rw[q1,q3,hx,hax,if_neg hn];exact hbb
  ·rw[if_pos hp,if_pos hz]at hbb
   rcases hw with hw|hw
   ·obtain⟨q1,q2,q3,q4⟩:=e0 hw
    rw[if_pos hw,if_pos hw]at hbb
    rw[q1,q3,hx];exact hbb
   ·obtain⟨q1,q2,q3,q4⟩:=e1 hw
    have hn:¬x.w=0:=by omega
    rw[if_neg hn,if_neg hn]at hbb
    rw[q1,q3,hx];exact hbb
 refine⟨u',v,i+1,h1,e3',hu,hbb2,?_,?_,hfv,fun y hy=>hss y (List.mem_cons_of_mem _ hy),by omega⟩
 ·rcases hw with hw | hw
  ·obtain⟨q1,q2,q3,q4⟩:=e0 hw
   rw[q2];exact fin.1
  ·obtain⟨q1,q2,q3,q4⟩:=e1 hw
   rw[q4];omega
 ·rcases hw with hw | hw
  ·obtain⟨q1,q2,q3,q4⟩:=e0 hw
   rw[q4];omega
  ·obtain⟨q1,q2,q3,q4⟩:=e1 hw
   rw[q2];exact fin.1
/-! the frames that are woven are short -/
theorem zfN{w:Int}{y:Gm}(h:emG w y): okQ (rqF (rwF w y))/\gm (vu (rwF w y))=y:=by
 have h1:zkH (rqF (rwF w y))=some y:=zkI h
 have hq:okQ (rqF (rwF w y)):=by
  unfold zkH at h1
  split at h1
  ·assumption
  ·cases h1
 refine⟨hq,?_⟩
 have h2:=(zdX hq).1
 rw[h1]at h2
 exact(Option.some.inj h2).symm
theorem zrG{t g:Int}(h:(t=9/\g=0)\/(z9 t/\0<=g)): yM t (onF g 4) 4=true:=by
 rcases h with⟨rfl,rfl⟩|⟨ht,hg⟩
 ·decide
 ·have h1 : 0 <= onF g 4 := by unfold onF; split <;> omega
  rw[znl ht h1,decide_eq_true_eq]
  unfold onF;split<;>omega
theorem zli{t g:Int}(h:(t=9/\g=0)\/(z9 t/\0<=g)): t=1\/t=5\/t=9:=by
 rcases h with⟨h,_⟩|⟨h|h,_⟩
 ·exact .inr (.inr h)
 ·exact .inl h
 ·exact .inr (.inl h)
theorem zoR{w:Int}{s:Int}: ∀(ps:List Int) (f:Gm) (b:List UInt8) (a0 a1:Nat) (rest:List Fr),(∀y∈frsG s ps f b,emG w y)->((f.t=9/\f.g=0)\/(z9 f.t/\0<=f.g))->(if w=0 then a0 else a1)+b.length<=50000 ->
    bbL rest (if w=0 then 0 else a0) (if w=0 then a1 else 0)->bbL ((frsG s ps f b).map (rwF w)++rest) a0 a1
  | [],f,b,a0,a1,rest,hem,hf,hb,hr=>by
    have hy:emG w { f with d:=b,g:=onF f.g 4 }:=hem _ List.mem_cons_self
    obtain⟨hq,he⟩:=zfN hy
    have hd:(vu (rwF w { f with d:=b,g:=onF f.g 4 })).d=b:=congrArg Gm.d he
    show bbL (rwF w { f with d:=b,g:=onF f.g 4 }::rest) a0 a1
    rw[bbL,hd]
    refine⟨hb,?_⟩
    rw[if_pos (show(rwF w { f with d:=b,g:=onF f.g 4 }).t=1\/_ from zli hf),if_pos (show yM (rwF w { f with d:=b,g:=onF f.g 4 }).t (rwF w { f with d:=b,g:=onF f.g 4 }).g 4=true from zrG hf)]
    exact hr
  | n::ps,f,b,a0,a1,rest,hem,hf,hb,hr=>by
    rw[zk8]at hem ⊢
    obtain⟨k,hk⟩:∃k,(cuK n b).toNat=k:=⟨_,rfl⟩
    rw[hk]at hem ⊢
    have hkl:k<=b.length:=by rw[<-hk];unfold cuK;omega
    have hy:emG w (fdG f (b.take k)):=hem _ List.mem_cons_self
    obtain⟨hq,he⟩:=zfN hy
    have hd:(vu (rwF w (fdG f (b.take k)))).d=b.take k:=congrArg Gm.d he
    have hdl:(b.take k).length=k:=by rw[List.length_take];omega
    have hrl:(b.drop k).length=b.length-k:=List.length_drop
    have ih:=fun x0 x1 h1 h2=>zoR (w:=w) (s:=s) ps (zh0 s) (b.drop k) x0 x1 rest (fun y hy=>hem y (List.mem_cons_of_mem _ hy)) (.inl ⟨rfl,rfl⟩) h1 h2
    rw[List.map_cons,List.cons_append,bbL,hd,hdl]
    refine⟨by show(if w=0 then a0 else a1)+k<=50000;omega,?_⟩
    rw[if_pos (show(rwF w (fdG f (b.take k))).t=1\/_ from zli hf)]
    show if yM _ _ 4=true then bbL _ (if w=0 then 0 else a0) (if w=0 then a1 else 0)else bbL _ (if w=0 then a0+k else a0) (if w=0 then a1 else a1+k)
    by_cases hw:w=0
    · rw[if_pos hw]at hb
      rw[if_pos hw,if_pos hw]at hr
      rw[if_pos hw,if_pos hw,if_pos hw,if_pos hw]
      split
      · exact ih 0 a1 (by rw[if_pos hw];omega) (by rw[if_pos hw,if_pos hw];exact hr)
      · exact ih (a0+k) a1 (by rw[if_pos hw];omega) (by rw[if_pos hw,if_pos hw];exact hr)
    · rw[if_neg hw]at hb
      rw[if_neg hw,if_neg hw]at hr
      rw[if_neg hw,if_neg hw,if_neg hw,if_neg hw]
      split
      · exact ih a0 0 (by rw[if_neg hw];omega) (by rw[if_neg hw,if_neg hw];exact hr)
      · exact ih a0 (a1+k) (by rw[if_neg hw];omega) (by rw[if_neg hw,if_neg hw];exact hr)
theorem zvK{s:Int}: ∀(ps:List Int) (f:Gm) (b:List UInt8),∀y∈frsG s ps f b,y.d.length<=b.length
 | [],f,b,y,hy=>by
  obtain rfl:=List.mem_singleton.1 hy
  exact Nat.le_refl _
 | n::ps,f,b,y,hy=>by
  rw[zk8]at hy
  rcases List.mem_cons.1 hy with rfl|hy
  ·show(b.take _).length<=_
   rw[List.length_take];omega
  ·have:=zvK ps _ _ y hy
   rw[List.length_drop]at this
   omega
theorem zhp{w:Int}{y:Gm}(h:emG w y)(hd:y.d.length<=50000)(hs:y.st.length<=1000\/y.t=1\/y.t=5\/y.t=9): (rwF w y).b.length<=100000:=by
 have h1:=zfE y.t y.g y.p y.d y.st y.wt y.pa y.al y.pr y.la y.co y.sp h.1
 have h2:y.st.length<=1000:=by
  rcases hs with hs|hs
  ·exact hs
  ·have h5:=h.2.2.2.2
   have e:y.st=(rfM y.t y.g y.s (wrB y.t y.g y.p y.d y.st y.wt y.pa y.al y.pr y.la y.co y.sp)).st:=congrArg Gm.st h5
   rw[e,(zvH _ _ _ _).2 hs];simp
 show(wrB _ _ _ _ _ _ _ _ _ _ _ _).length<=_
 omega
structure ItS(x:ItF): Prop where
 k:ItK x
 b:∀f∈x.fl,(f.n.size:Int)<=300/\(f.v.size:Int)<=300
theorem zlj{x:ItF}{y:WyF}{t t':DT}{L:List Gm}{rest:List Fr}(h:itM (itG x) (wyG y) t=(L,true,t'))(hx:ItS x)(hy:WyK y)(ht:TOk t)(hn:t.xs.length<=30000)(hr:bbL rest 0 0):
    bbL (L.map (rwF x.w)++rest) 0 0/\∀z∈L.map (rwF x.w),z.b.length<=100000:=by
  obtain⟨⟨hR,hp,hz,hem⟩,hL,_⟩:=zvJ h
  have hR':yD (itG x):=hR
  have hd:=hx.k.d
  have he:=hx.k.e
  rw[<-hL]at hem
  cases hb:x.bk with
  | true=>
    have hz':=hz hb
    have eL:L=frsG x.f.s y.ps (kA (gm x.f) y.p) (jL y.z x.fl y.y t).o:=by
      rw[hL]
      have:itG x=⟨x.w,gm x.f,true,x.fl⟩:=by rw[<-hb];rfl
      rw[this,znk];rfl
    have hsz:=zku (Q:=jL y.z x.fl y.y t) rfl ht hn hz' hy.za hx.k.n hx.b
    obtain⟨hst,hd0,h4,he4⟩:=hR'.2.2.2 hb
    have hst':z9 (gm x.f).t:=hst
    have hg0:0<=(gm x.f).g:=zkL (.inl rfl) (zhZ he4).1
    have hpt:(kA (gm x.f) y.p).t=(gm x.f).t:=by unfold kA;split<;>rfl
    have hpg:0<=(kA (gm x.f) y.p).g:=by
      unfold kA;split
      · show 0<=onF (gm x.f).g 8
        unfold onF;split<;>omega
      · exact hg0
    have hpf:z9 (kA (gm x.f) y.p).t/\0<=(kA (gm x.f) y.p).g:=⟨by rw[hpt];exact hst',hpg⟩
    rw[eL]at hem ⊢
    refine⟨zoR y.ps _ _ 0 0 rest hem (.inr hpf) (by split<;>omega) (by split<;>exact hr),fun z hz=>?_⟩
    obtain⟨q,hq,rfl⟩:=List.mem_map.1 hz
    have h1:=zvK _ _ _ q hq
    have h2:zaz q=true:=zdQ _ _ _ _ (decide_eq_true (by rcases hpf.1 with h|h<;>omega)) q hq
    exact zhp (hem q hq) (by omega) (.inr (of_decide_eq_true h2))
  | false=>
    obtain⟨_,_,hns,hn9⟩:=hR'.2.2.1 hb
    have eL:L=[if(gm x.f).t=0 then kA (gm x.f) y.p else gm x.f]:=by
      rw[hL]
      have:itG x=⟨x.w,gm x.f,false,x.fl⟩:=by rw[<-hb];rfl
      rw[this,zrj];rfl
    obtain⟨F,hF⟩:∃F,(if(gm x.f).t=0 then kA (gm x.f) y.p else gm x.f)=F:=⟨_,rfl⟩
    rw[hF]at eL
    have hFt:F.t=(gm x.f).t/\F.d=(gm x.f).d/\F.st=(gm x.f).st:=by
      rw[<-hF]
      split
      · unfold kA;split<;>exact⟨rfl,rfl,rfl⟩
      · exact⟨rfl,rfl,rfl⟩
    subst eL
    have hf:=hem F List.mem_cons_self
    obtain⟨hq,hgm⟩:=zfN hf
    have hdl:(vu (rwF x.w F)).d.length<=1000:=by
      rw[show(vu (rwF x.w F)).d=F.d from congrArg Gm.d hgm,hFt.2.1];exact hd
    refine⟨?_,fun z hz=>?_⟩
    · show bbL (rwF x.w F::rest) 0 0
      rw[bbL]
      refine⟨by split<;>omega,?_⟩
      rw[if_neg (by
        show ¬(F.t=1\/F.t=5\/F.t=9)
        rw[hFt.1]
        rintro(h|h|h)
        · exact hns (.inl h)
        · exact hns (.inr h)
        · exact hn9 h)]
      exact hr
    · obtain⟨q,hq,rfl⟩:=List.mem_map.1 hz
      obtain rfl:=List.mem_singleton.1 hq
      exact zhp hf (by rw[hFt.2.1];show x.f.d.length<=_;omega) (.inl (by rw[hFt.2.2];exact he))
theorem zrH(ws:List WyF)(hws:∀y∈ws,WyK y): ∀(l:List ItF) (i n:Nat) (a b:DT) (o O:List Fr),wvM (ws.map wyG) i (l.map itG) a b o=some O->(∀x∈l,ItS x)->TOk a->TOk b->a.xs.length<=n->b.xs.length<=n->n+12*l.length<=30000 ->
    ∃rs,O=o++rs/\bbL rs 0 0/\(∀x∈rs,x.b.length<=100000)/\rs.length<=101*l.length
  | [], i, n, a, b, o, O, h, _, _, _, _, _, _ => ⟨[], by obtain rfl : o = O := by simpa [wvM] using h
                                                         simp,trivial,by simp,by simp⟩
  | x::l,i,n,a,b,o,O,h,hl,ta,tb,na,nb,hn=>by
    rw[List.length_cons]at hn
    have hx:=hl x List.mem_cons_self
    have hl':∀z∈l,ItS z:=fun z hz=>hl z (List.mem_cons_of_mem _ hz)
    obtain⟨y,hy,hyk⟩:∃y:WyF,kx (ws.map wyG) i=wyG y/\WyK y:=by
      unfold kx
      cases e:(ws.map wyG)[i % (ws.map wyG).length]? with
      | none=>exact⟨⟨true,[],true,[],true,[],-1⟩,rfl,⟨by simp,by simp,by simp⟩⟩
      | some q=>
        rw[List.getElem?_map]at e
        obtain⟨z,hz,rfl⟩:=Option.map_eq_some_iff.1 e
        exact⟨z,rfl,hws z (List.mem_of_getElem? hz)⟩
    rw[List.map_cons,wvM,hy]at h
    by_cases h0:x.w=0
    · rw[if_pos (show(itG x).w=0 from h0)]at h
      obtain⟨⟨L,ok,t'⟩,hM⟩:∃Q,itM (itG x) (wyG y) a=Q:=⟨_,rfl⟩
      rw[hM]at h
      cases ok with
      | false=>simp at h
      | true=>
        rw[if_pos rfl]at h
        obtain⟨k1,k2,k3⟩:=zcN hM hx.k hyk ta na (by omega)
        obtain⟨rs,e1,e2,e3,e4⟩:=zrH ws hws l (i+1) (n+12) _ _ _ _ h hl' k1 tb k2 (by omega) (by omega)
        obtain⟨b1,b2⟩:=zlj hM hx hyk ta (by omega) e2
        rw[h0]at b1 b2
        refine⟨L.map (rwF 0)++rs,by rw[e1,List.append_assoc],b1,fun z hz=>?_,by rw[List.length_append,List.length_map,List.length_cons];omega⟩
        rcases List.mem_append.1 hz with hz|hz
        · exact b2 z hz
        · exact e3 z hz
    · rw[if_neg (show ¬(itG x).w=0 from h0)]at h
      by_cases h1:x.w=1
      · rw[if_pos (show(itG x).w=1 from h1)]at h
        obtain⟨⟨L,ok,t'⟩,hM⟩:∃Q,itM (itG x) (wyG y) b=Q:=⟨_,rfl⟩
        rw[hM]at h
        cases ok with
        | false=>simp at h
        | true=>
          rw[if_pos rfl]at h
          obtain⟨k1,k2,k3⟩:=zcN hM hx.k hyk tb nb (by omega)
          obtain⟨rs,e1,e2,e3,e4⟩:=zrH ws hws l (i+1) (n+12) _ _ _ _ h hl' ta k1 (by omega) k2 (by omega)
          obtain⟨b1,b2⟩:=zlj hM hx hyk tb (by omega) e2
          rw[h1]at b1 b2
          refine⟨L.map (rwF 1)++rs,by rw[e1,List.append_assoc],b1,fun z hz=>?_,by rw[List.length_append,List.length_map,List.length_cons];omega⟩
          rcases List.mem_append.1 hz with hz|hz
          · exact b2 z hz
          · exact e3 z hz
      · rw[if_neg (show ¬(itG x).w=1 from h1)]at h;cases h
theorem zh6(ws:List WyF)(hws:∀y∈ws,WyK y)(l:List ItF)(hl:∀x∈l,ItS x)(hll:l.length<=1000){O:List Fr}(h:wvM (ws.map wyG) 0 (l.map itG) dt0 dt0 frE=some O):
    UOk O cm0/\O.length<=1000000/\∃c,unw O cm0=(c,0)/\c.o.map itG=l.map itG:=by
  obtain⟨h1,h2⟩:=zrF _ _ _ _ _ _ _ h
  have hy:∀i,(kx (ws.map wyG) i).z.length<=12:=by
    intro i
    unfold kx
    cases e:(ws.map wyG)[i % (ws.map wyG).length]? with
    | none=>simp
    | some q=>
      rw[List.getElem?_map]at e
      obtain⟨z,hz,rfl⟩:=Option.map_eq_some_iff.1 e
      exact(hws z (List.mem_of_getElem? hz)).za
  have hT:zrl dt0 us0.d0 0:=⟨⟨rfl,rfl⟩,zu7,zb5,Nat.le_refl _⟩
  obtain⟨rs,u',w1,w2,w3,w4,w5⟩:=zkO (ws.map wyG) hy (l.map itG) 0 dt0 dt0 [] us0 0 h2 (by
    intro x hx
    obtain⟨z,hz,rfl⟩:=List.mem_map.1 hx
    exact⟨(hl z hz).k.n,(hl z hz).b⟩) rfl rfl hT hT (by rw[List.length_map];omega)
  have hO:O.map rqF=rs:=by rw[h1];exact w1.trans (by simp)
  rw[<-hO]at w2
  obtain⟨rs2,b1,b2,b3,b4⟩:=zrH ws hws l 0 0 _ _ _ _ h hl zb5 zb5 (Nat.le_refl _) (Nat.le_refl _) (by omega)
  have hOr:O=rs2:=by rw[b1];rfl
  subst hOr
  have hfI:fI u'.o<=30000:=by
    rw[w5]
    have:∀l:List ItF,(∀x∈l,ItS x)->fI (l.map itG)<=12*l.length:=by
      intro l
      induction l with
      | nil=>intro _;exact Nat.le_refl _
      | cons x l ih=>
        intro hl
        have h1:=(hl x List.mem_cons_self).k.n
        have h2:=ih (fun z hz=>hl z (List.mem_cons_of_mem _ hz))
        rw[List.map_cons,fI,List.length_cons]
        show x.fl.length+_<=_
        omega
    have:=this l hl
    show fI ([]++l.map itG)<=_
    rw[List.nil_append];omega
  refine⟨znE w2 b2 hfI b3 (by omega),by omega,?_⟩
  have hX:=zvi _ _ _ w2
  obtain⟨_,k2⟩:=zoQ O cm0 us0 cr0
  rw[hX]at k2
  obtain⟨c,hc,e⟩:=k2 rfl
  have e0:c.a0.on=false:=by rw[hc.a0.on];dsimp only;rw[w3];rfl
  have e1:c.a1.on=false:=by rw[hc.a1.on];dsimp only;rw[w4];rfl
  rw[e0,e1,if_neg (by simp)]at e
  refine⟨c,e,?_⟩
  rw[hc.o];dsimp only;rw[w5];rfl
end Go.Proofs.YtdalcgfnlbofdaaGreatDoor
