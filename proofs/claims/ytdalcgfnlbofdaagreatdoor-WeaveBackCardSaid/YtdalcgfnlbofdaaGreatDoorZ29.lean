import Derived.Test.YtdalcgfnlbofdaaGreatDoorZ27
import Derived.Test.YtdalcgfnlbofdaaGreatDoorZ28
import Derived.Test.YtdalcgfnlbofdaaGreatDoorZ23
set_option linter.unusedVariables false
set_option linter.unusedSimpArgs false
namespace Go.Proofs.YtdalcgfnlbofdaaGreatDoor
open Go Go.Lf Go.Proofs
attribute [local irreducible] Lf.rg Lf.ro Lf.PWp Lf.SOp Lf.ACall Lf.Scoped Lf.dg
set_option maxRecDepth 20000
set_option maxHeartbeats 4000000
def rawG(w:Int)(f:Gm): Rq:=⟨w,f.t,f.g,f.s,false,wrB f.t f.g f.p f.d f.st f.wt f.pa f.al f.pr f.la f.co f.sp⟩
def emG(w:Int)(f:Gm): Prop:=zkG w f.t f.g f.s f.p f.d f.st f.wt f.pa f.al f.pr f.la f.co f.sp
def zkH(r:Rq): Option Gm:=if okQ r then some (gm (rfM r.t r.g r.s r.b))else none
theorem zkI{w:Int}{f:Gm}(h:emG w f): zkH (rawG w f)=some f:=by
 obtain⟨_,_,h1,h2,h3⟩:=h
 unfold zkH
 rw[if_pos (show okQ (rawG w f)from⟨h1,h2⟩)]
 exact congrArg some h3.symm
theorem zrf{w:Int}{f:Gm}(h:emG w f): w=0\/w=1:=h.2.1
theorem zhZ{w:Int}{f:Gm}(h:emG w f): 0<=f.g/\f.g<=255:=by
 have:=h.2.2.1
 unfold zcj at this
 dsimp only at this
 omega
theorem zoA{w:Int}{f:Gm}(h:emG w f)(hp:f.p = -1): z6 f.t f.g 8=false:=by
 have hw:=h.1
 cases hb:z6 f.t f.g 8 with
 | false=>rfl
 | true=>
  unfold wrW at hw
  rw[zkA (zhZ h).1,hb,hp]at hw
  simp only[Bool.or_eq_false_iff,Bool.and_eq_false_iff,Bool.not_eq_false',Bool.true_eq_false,false_or]at hw
  exact absurd hw.1 (by decide)
def onF(g k:Int): Int:=if g / k % 2=1 then g else g+k
def kS(g k:Int): Int:=if g / k % 2=1 then g-k else g
theorem zrg{g:Int}(h0:0<=g)(h:¬g / 8 % 2=1): kS (onF g 8) 8=g:=by
 unfold onF
 rw[if_neg h]
 unfold kS
 rw[if_pos (by omega)];omega
def kA(f:Gm)(n:Int): Gm:=if 0<=n then{ f with p:=n,g:=onF f.g 8 }else f
def ji(f:Gm): Gm:=if 0<=f.p then{ f with p:=-1,g:=kS f.g 8 }else f
theorem znh{f:Gm}{n:Int}(h0:0<=f.g)(hp:f.p = -1)(h:¬f.g / 8 % 2=1): ji (kA f n)=f:=by
 unfold kA
 split
 ·rename_i hn
  unfold ji
  rw[if_pos hn]
  show(⟨f.t,kS (onF f.g 8) 8,f.s,-1,f.d,f.st,f.wt,f.pa,f.al,f.pr,f.la,f.co,f.sp⟩:Gm)=f
  rw[zrg h0 h,<-hp]
 ·unfold ji
  rw[if_neg (by rw[hp];decide)]
structure Asm where
 (on:Bool) (f:Gm) (b:List UInt8)
def gm0: Gm:=⟨0,0,0,0,[],[],0,0,false,0,0,0,0⟩
def asm0: Asm:=⟨false,gm0,[]⟩
def zaz(f:Gm): Bool:=decide (f.t=1\/f.t=5\/f.t=9)
def zcK(a:Asm)(f:Gm): Option (Asm×Option Gm):=
 if(if a.on=true then f.t=9/\f.s=a.f.s else ¬f.t=9)then
  if zaz f=false then some (a,none)
  else if 1048576<a.b.length+f.d.length then none
  else if yM f.t f.g 4=true then some (asm0,some { (if a.on=true then a.f else f)with d:=a.b++f.d })
  else some (⟨true,if a.on=true then a.f else f,a.b++f.d⟩,none)
 else none
structure Itm where
 (w:Int) (f:Gm) (bk:Bool) (fl:List Fl)
structure Wy where
 (z:List Int) (y:List Op4) (ps:List Int) (p:Int)
def z9(t:Int): Prop:=t=1\/t=5
instance (t:Int):Decidable (z9 t):=by unfold z9;infer_instance
def yD(x:Itm): Prop:=(x.w=0\/x.w=1)/\x.f.p = -1 /\
 (x.bk=false->emG 0 x.f/\x.fl=[]/\¬z9 x.f.t/\¬x.f.t=9) /\
 (x.bk=true->z9 x.f.t/\x.f.d=[]/\yM x.f.t x.f.g 4=false/\emG 0 { x.f with g:=onF x.f.g 4 })
def zh0(s:Int): Gm:=⟨9,0,s,-1,[],[],0,0,false,0,0,0,0⟩
def frsG(s:Int): List Int->Gm->List UInt8->List Gm
 | [],f,b=>[{ f with d:=b,g:=onF f.g 4 }]
 | n::ps,f,b=>{ f with d:=b.take (min (max n 0) b.length).toNat }::frsG s ps (zh0 s) (b.drop (min (max n 0) b.length).toNat)
theorem zve: yM 9 0 4=false:=by decide
theorem zvf: yM 9 (onF 0 4) 4=true:=by decide
theorem zkJ{f:Gm}(h:f.t=9): zaz f=true:=decide_eq_true (by omega)
def vS: List Gm->Asm->Option Gm
 | [],_=>none
 | f :: l, a => match zcK a f with
  | some (a',none)=>vS l a'
  | some (a',some g)=>if l.isEmpty=true then some g else none
  | none=>none
theorem zdP{a:Asm}{f:Gm}(hs:if a.on=true then f.t=9/\f.s=a.f.s else ¬f.t=9)(hp:zaz f=true)(hl:a.b.length+f.d.length<=1048576):
    zcK a f=if yM f.t f.g 4=true then some (asm0,some { (if a.on=true then a.f else f)with d:=a.b++f.d })else some (⟨true,if a.on=true then a.f else f,a.b++f.d⟩,none):=by
  unfold zcK
  rw[if_pos hs,if_neg (by rw[hp];decide),if_neg (by omega)]
theorem zhd(s:Int): ∀(ps:List Int) (b:List UInt8) (a:Asm),a.on=true->a.f.s=s->a.b.length+b.length<=1048576->vS (frsG s ps (zh0 s) b) a=some { a.f with d:=a.b++b }
 | [],b,a,ho,hs,hl=>by
  show vS [(⟨9,onF 0 4,s,-1,b,[],0,0,false,0,0,0,0⟩:Gm)] a=_
  unfold vS
  rw[zdP (by rw[if_pos ho];exact⟨rfl,hs.symm⟩) (zkJ rfl) hl,if_pos zvf,if_pos ho]
  rfl
 | n::ps,b,a,ho,hs,hl=>by
  obtain⟨k,hk⟩:∃k,(min (max n 0) (b.length:Int)).toNat=k:=⟨_,rfl⟩
  show vS ((⟨9,0,s,-1,b.take (min (max n 0) (b.length:Int)).toNat,[],0,0,false,0,0,0,0⟩:Gm)::frsG s ps (zh0 s) (b.drop (min (max n 0) (b.length:Int)).toNat)) a=_
  rw[hk]
  have h1:(b.take k).length+(b.drop k).length=b.length:=by rw[List.length_take,List.length_drop];omega
  rw[vS,zdP (by rw[if_pos ho];exact⟨rfl,hs.symm⟩) (zkJ rfl) (by dsimp only;omega),if_neg (by rw[zve];decide),if_pos ho]
  dsimp only
  rw[zhd s ps (b.drop k) ⟨true,a.f,a.b++b.take k⟩ rfl hs (by dsimp only;rw[List.length_append];omega)]
  dsimp only
  rw[List.append_assoc,List.take_append_drop]
theorem zrh(ps:List Int)(f:Gm)(b:List UInt8)(ht:z9 f.t)(h4:yM f.t f.g 4=false)(h4':yM f.t (onF f.g 4) 4=true)(hl:b.length<=1048576): ∃g',(g'=f.g\/g'=onF f.g 4)/\vS (frsG f.s ps f b) asm0=some { f with d:=b,g:=g' }:=by
 have h9:¬f.t=9:=by unfold z9 at ht;omega
 have hp:∀(g:Int) (d:List UInt8),zaz { f with d:=d,g:=g }=true:=fun g d=>decide_eq_true (by unfold z9 at ht;dsimp only;omega)
 cases ps with
 | nil=>
  refine⟨_,.inr rfl,?_⟩
  show vS [({ f with d:=b,g:=onF f.g 4 }:Gm)] asm0=_
  unfold vS
  rw[zdP (by rw[if_neg (by decide)];exact h9) (hp _ _) (by show 0+b.length<=_;omega),if_pos h4',if_neg (by decide)]
  rfl
 | cons n ps=>
  refine⟨_,.inl rfl,?_⟩
  obtain⟨k,hk⟩:∃k,(min (max n 0) (b.length:Int)).toNat=k:=⟨_,rfl⟩
  show vS (({ f with d:=b.take (min (max n 0) (b.length:Int)).toNat }:Gm)::frsG f.s ps (zh0 f.s) (b.drop (min (max n 0) (b.length:Int)).toNat)) asm0=_
  rw[hk]
  have h1:(b.take k).length+(b.drop k).length=b.length:=by rw[List.length_take,List.length_drop];omega
  rw[vS,zdP (by rw[if_neg (by decide)];exact h9) (hp f.g _) (by show 0+(b.take k).length<=_;omega),if_neg (by dsimp only;rw[h4];decide),if_neg (by decide)]
  dsimp only
  rw[zhd f.s ps (b.drop k) ⟨true,{ f with d:=b.take k },asm0.b++b.take k⟩ rfl rfl (by show(([]:List UInt8)++b.take k).length+_<=_;rw[List.nil_append];omega)]
  dsimp only
  rw[List.append_assoc,List.take_append_drop]
  rfl
theorem zdQ(s:Int): ∀(ps:List Int) (f:Gm) (b:List UInt8),zaz f=true->∀y∈frsG s ps f b,zaz y=true
 | [],f,b,h,y,hy=>by
  rw[frsG,List.mem_singleton]at hy
  subst hy;exact h
 | n::ps,f,b,h,y,hy=>by
  rw[frsG]at hy
  rcases List.mem_cons.1 hy with rfl|hy
  ·exact h
  ·exact zdQ s ps _ _ (zkJ rfl) y hy
structure Us where
 (a0 a1:Asm) (d0 d1:DT) (o:List Itm)
def aU(u:Us)(w:Int): Asm:=if w=0 then u.a0 else u.a1
def tU(u:Us)(w:Int): DT:=if w=0 then u.d0 else u.d1
def paU(u:Us)(w:Int)(a:Asm): Us:=if w=0 then{ u with a0:=a }else{ u with a1:=a }
def ptU(u:Us)(w:Int)(t:DT): Us:=if w=0 then{ u with d0:=t }else{ u with d1:=t }
def rdU(b:List UInt8)(t:DT): Option (List Fl×DT):=if(kP b.length b ⟨xs0,ss0,⟨t.xs,0,t.m⟩⟩).2=0 then some ((kP b.length b ⟨xs0,ss0,⟨t.xs,0,t.m⟩⟩).1.F,(kP b.length b ⟨xs0,ss0,⟨t.xs,0,t.m⟩⟩).1.t)else none
def zb1(u:Us)(w:Int)(g:Gm): Option Us:=match rdU g.d (tU u w)with
 | none=>none
 | some (l,t)=>some { ptU u w t with o:=u.o++[⟨w,{ ji g with d:=[],g:=kS (ji g).g 4 },true,l⟩] }
def zaM(u:Us)(w:Int)(f:Gm): Option Us:=match zcK (aU u w) f with
 | none=>none
 | some (a,some g)=>zb1 (paU u w a) w g
 | some (a,none)=>some { paU u w a with o:=if z9 f.t\/f.t=9 then u.o else u.o++[⟨w,ji f,false,[]⟩] }
def uwL: List Rq->Us->Option Us
 | [],u=>some u
 | r :: l, u => if r.w = 0 \/ r.w = 1 then (match zkH r with
  | none=>none
  | some f => match zaM u r.w f with
   | none=>none
   | some u'=>uwL l u')else none
theorem zEM{u:Us}{w:Int}{a:Asm}: aU (paU u w a) w=a:=by unfold aU paU;split<;>rfl
theorem zzL{u:Us}{w:Int}{a:Asm}: tU (paU u w a) w=tU u w:=by unfold tU paU;split<;>rfl
theorem zyQ{u:Us}{w:Int}{a b:Asm}: paU (paU u w a) w b=paU u w b:=by unfold paU;split<;>rfl
theorem zri{u:Us}{w:Int}: paU u w (aU u w)=u:=by unfold aU paU;split<;>rfl
theorem zyR{u:Us}{w:Int}: ptU u w (tU u w)=u:=by unfold tU ptU;split<;>rfl
theorem zni{u:Us}{w:Int}{a:Asm}: (paU u w a).o=u.o:=by unfold paU;split<;>rfl
theorem zoB: ∀(a b:List Rq) (u:Us),uwL (a++b) u=(uwL a u).bind (uwL b)
 | [],b,u=>rfl
 | r::a,b,u=>by
  show uwL (r::(a++b)) u=(uwL (r::a) u).bind _
  rw[uwL,uwL]
  split
  ·cases zkH r with
   | none=>rfl
   | some f=>
    dsimp only
    cases zaM u r.w f with
    | none=>rfl
    | some v=>exact zoB a b v
  ·rfl
theorem zoC{w:Int}{f:Gm}(h:emG w f)(l:List Rq)(u:Us): uwL (rawG w f::l) u=(zaM u w f).bind (uwL l):=by
 rw[uwL,if_pos (show(rawG w f).w=0\/(rawG w f).w=1 from zrf h),zkI h]
 show(match zaM u w f with|none=>none|some u'=>uwL l u')=_
 cases zaM u w f<;>rfl
theorem znj{a a':Asm}{f g:Gm}(h:zcK a f=some (a',some g)): a'=asm0:=by
 unfold zcK at h
 by_cases c1:(if a.on=true then f.t=9/\f.s=a.f.s else ¬f.t=9)
 ·rw[if_pos c1]at h
  by_cases c2:zaz f=false
  ·rw[if_pos c2]at h;simp at h
  ·rw[if_neg c2]at h
   by_cases c3:1048576<a.b.length+f.d.length
   ·rw[if_pos c3]at h;simp at h
   ·rw[if_neg c3]at h
    by_cases c4:yM f.t f.g 4=true
    ·rw[if_pos c4]at h;simp at h;exact h.1.symm
    ·rw[if_neg c4]at h;simp at h
 ·rw[if_neg c1]at h;simp at h
theorem zoD{w:Int}{g:Gm}: ∀(fs:List Gm) (u:Us),vS fs (aU u w)=some g->(∀f∈fs,emG w f/\zaz f=true)->uwL (fs.map (rawG w)) u=zb1 (paU u w asm0) w g
 | [],u,h,_=>by simp[vS]at h
 | f::l,u,h,hp=>by
  obtain⟨h1,h2⟩:=hp f List.mem_cons_self
  rw[List.map_cons,zoC h1]
  have h3:z9 f.t\/f.t=9:=by unfold zaz at h2;have:=of_decide_eq_true h2;unfold z9;omega
  rw[vS]at h
  unfold zaM
  split at h
  ·rename_i a' e
   rw[e]
   dsimp only
   rw[if_pos h3]
   show uwL _ { paU u w a' with o:=u.o }=_
   have e2:{ paU u w a' with o:=u.o }=paU u w a':=by rw[<-zni (u:=u) (w:=w) (a:=a')]
   rw[e2,zoD l (paU u w a') (by rw[zEM];exact h) (fun y hy=>hp y (List.mem_cons_of_mem _ hy)),zyQ]
  ·rename_i a' g' e
   rw[e]
   have:=znj e
   subst this
   split at h
   ·rename_i hl
    have hl:=List.isEmpty_iff.1 hl
    subst hl
    simp at h
    subst h
    dsimp only
    cases zb1 (paU u w asm0) w g'<;>rfl
   ·simp at h
  ·simp at h
def wvI(x:Itm)(y:Wy)(t:DT): List Gm×DT:=
 if x.bk=true then(frsG x.f.s y.ps (kA x.f y.p) (jL y.z x.fl y.y t).o,(jL y.z x.fl y.y t).t)
 else([if x.f.t=0 then kA x.f y.p else x.f],t)
theorem zrj{w:Int}{f:Gm}{fl:List Fl}{y:Wy}{t:DT}: wvI ⟨w,f,false,fl⟩ y t=([if f.t=0 then kA f y.p else f],t):=if_neg Bool.false_ne_true
theorem znk{w:Int}{f:Gm}{fl:List Fl}{y:Wy}{t:DT}: wvI ⟨w,f,true,fl⟩ y t=(frsG f.s y.ps (kA f y.p) (jL y.z fl y.y t).o,(jL y.z fl y.y t).t):=if_pos rfl
theorem zkK{f:Gm}(h:f.p = -1): ji f=f:=if_neg (by rw[h];decide)
def zvg(x:Itm)(y:Wy)(t:DT): Prop:=yD x/\y.p<=255/\(x.bk=true->zaV y.z=false)/\∀f∈(wvI x y t).1,emG x.w f
theorem znl{t g:Int}(ht:z9 t)(h:0<=g): yM t g 4=decide (g / 4 % 2=1):=by
 rw[zkA h]
 unfold z6
 have:zck t 4=true:=by
  rcases ht with rfl|rfl<;>decide
 rw[this];rfl
theorem zvh{t g:Int}(ht:t=0\/z9 t): z6 t g 8=decide (g / 8 % 2=1):=by
 unfold z6
 have:zck t 8=true:=by
  rcases ht with rfl|rfl|rfl<;>decide
 rw[this];rfl
theorem zkL{g k:Int}(hk:k=4\/k=8)(h:0<=onF g k): 0<=g:=by
 unfold onF at h
 rcases hk with rfl|rfl
 ·split at h<;>omega
 ·split at h<;>omega
theorem zrk{G g' n:Int}(h0:0<=G)(h4:¬G / 4 % 2=1)(h8:¬G / 8 % 2=1)(hg:g'=onF G 8\/g'=onF (onF G 8) 4): kS (kS g' 8) 4=G:=by
 have a:onF G 8=G+8:=by unfold onF;rw[if_neg h8]
 have b:onF (G+8) 4=G+12:=by unfold onF;rw[if_neg (by omega)];omega
 rw[a,b]at hg
 rcases hg with rfl|rfl
 ·have c : kS (G + 8) 8 = G := by unfold kS; rw [if_pos (by omega)]; omega
  rw[c];unfold kS;rw[if_neg h4]
 ·have c : kS (G + 12) 8 = G + 4 := by unfold kS; rw [if_pos (by omega)]; omega
  rw[c];unfold kS;rw[if_pos (by omega)];omega
theorem zkM{x:Itm}{y:Wy}{t:DT}(h:zvg x y t){u:Us}(ha:aU u x.w=asm0)(he:(tU u x.w).xs=t.xs/\(tU u x.w).m=t.m)(hk:NoK t.xs)(ht:TOk t)(hx:t.xs.length<=30000)(hz:y.z.length<=12)(hl:x.fl.length<=12)(hlb:∀f∈x.fl,(f.n.size:Int)<=300/\(f.v.size:Int)<=300):
    ∃sd,uwL ((wvI x y t).1.map (rawG x.w)) u=some { ptU u x.w ⟨(wvI x y t).2.xs,sd,(wvI x y t).2.m⟩with o:=u.o++[x] }:=by
  obtain⟨hr,hp,hs,hem⟩:=h
  obtain⟨hw,hp1,hn,hb⟩:=hr
  obtain⟨w,⟨ft,fg,fs,fp,fd,fst,fwt,fpa,fal,fpr,fla,fco,fsp⟩,bk,fl⟩:=x
  dsimp only at *
  subst hp1
  cases hbk:bk with
  | false=>
    subst hbk
    obtain⟨h1,rfl,h2,h3⟩:=hn rfl
    rw[zrj]at hem ⊢
    dsimp only at hem h1 h2 h3 ⊢
    have hq:=hem _ List.mem_cons_self
    have hg0:0<=fg:=(zhZ h1).1
    have hbare:ji (if ft=0 then kA (⟨ft,fg,fs,-1,fd,fst,fwt,fpa,fal,fpr,fla,fco,fsp⟩:Gm) y.p else⟨ft,fg,fs,-1,fd,fst,fwt,fpa,fal,fpr,fla,fco,fsp⟩)=⟨ft,fg,fs,-1,fd,fst,fwt,fpa,fal,fpr,fla,fco,fsp⟩:=by
      split
      · rename_i h0
        have h8:=zoA h1 rfl
        dsimp only at h8
        rw[zvh (.inl h0)]at h8
        exact znh hg0 rfl (of_decide_eq_false h8)
      · exact zkK rfl
    obtain⟨F,hF⟩:∃F,(if ft=0 then kA (⟨ft,fg,fs,-1,fd,fst,fwt,fpa,fal,fpr,fla,fco,fsp⟩:Gm) y.p else⟨ft,fg,fs,-1,fd,fst,fwt,fpa,fal,fpr,fla,fco,fsp⟩)=F:=⟨_,rfl⟩
    rw[hF]at hq hbare ⊢
    have hFt:F.t=ft:=by
      rw[<-hF];split
      · unfold kA;split<;>rfl
      · rfl
    refine⟨(tU u w).s,?_⟩
    rw[List.map_cons,List.map_nil,zoC hq]
    have e1:zcK asm0 F=some (asm0,none):=by
      have hpf:zaz F=false:=decide_eq_false (by rw[hFt];unfold z9 at h2;omega)
      unfold zcK
      rw[if_pos (by rw[if_neg (by decide),hFt];exact h3),if_pos hpf]
    unfold zaM
    rw[ha,e1]
    dsimp only
    rw[if_neg (by rw[hFt];rintro(q|q);exact h2 q;exact h3 q),hbare,<-ha,zri,<-he.1,<-he.2]
    have e3:ptU u w ⟨(tU u w).xs,(tU u w).s,(tU u w).m⟩=u:=zyR
    rw[e3]
    rfl
  | true=>
    subst hbk
    obtain⟨h1,rfl,h2,h3⟩:=hb rfl
    rw[znk]at hem ⊢
    dsimp only at hem h1 h2 h3 ⊢
    obtain⟨⟨o,⟨xt,st,mt⟩⟩,hQ⟩:∃Q,jL y.z fl y.y t=Q:=⟨_,rfl⟩
    have hsz:=zku hQ ht hx (hs rfl) hz hl hlb
    dsimp only at hsz
    rw[hQ]at hem ⊢
    dsimp only at hem ⊢
    obtain⟨tx,ts,tm⟩:=t
    obtain⟨_,sd,hd⟩:=zg7 hQ hk hx (by omega) (hs rfl) (fun f hf=>by have:=hlb f hf;omega)
    have hg0:0<=fg:=zkL (.inl rfl) (zhZ h3).1
    have h4:¬fg / 4 % 2=1:=by
      rw[znl h1 hg0]at h2
      exact of_decide_eq_false h2
    have h8:¬fg / 8 % 2=1:=by
      have a:=zoA h3 rfl
      dsimp only at a
      rw[zvh (.inr h1)]at a
      have a:=of_decide_eq_false a
      unfold onF at a
      rw[if_neg h4]at a
      omega
    obtain⟨P,hP⟩:∃P,kA (⟨ft,fg,fs,-1,[],fst,fwt,fpa,fal,fpr,fla,fco,fsp⟩:Gm) y.p=P:=⟨_,rfl⟩
    rw[hP]at hem ⊢
    have hPt:P.t=ft/\P.s=fs:=by
      rw[<-hP];unfold kA;split<;>exact⟨rfl,rfl⟩
    have hPg:0<=P.g/\¬P.g / 4 % 2=1:=by
      rw[<-hP];unfold kA;split
      · dsimp only
        unfold onF
        rw[if_neg h8]
        omega
      · exact⟨hg0,h4⟩
    have hon:onF P.g 4=P.g+4:=by unfold onF;rw[if_neg hPg.2]
    obtain⟨g',hg',hall⟩:=zrh y.ps P o (by rw[hPt.1];exact h1) (by rw[hPt.1,znl h1 hPg.1];exact decide_eq_false hPg.2) (by rw[hPt.1,hon,znl h1 (by omega)];exact decide_eq_true (by omega)) (by omega)
    have hall:vS (frsG fs y.ps P o) asm0=some { P with d:=o,g:=g' }:=by
      rw[<-hPt.2];exact hall
    have hpp:zaz P=true:=decide_eq_true (by rw[hPt.1];unfold z9 at h1;omega)
    refine⟨sd,?_⟩
    rw[zoD _ u (by rw[ha];exact hall) (fun f hf=>⟨hem f hf,zdQ _ _ _ _ hpp f hf⟩),<-ha,zri]
    unfold zb1 rdU
    dsimp only at he ⊢
    rw[he.1,he.2,hd]
    dsimp only
    rw[if_pos rfl]
    dsimp only
    have hfin:({ ji { P with d:=o,g:=g' }with d:=[],g:=kS (ji { P with d:=o,g:=g' }).g 4 }:Gm)=⟨ft,fg,fs,-1,[],fst,fwt,fpa,fal,fpr,fla,fco,fsp⟩:=by
      subst hP
      unfold kA at hg' ⊢
      by_cases hn:0<=y.p
      · rw[if_pos hn]at hg' ⊢
        dsimp only at hg' ⊢
        unfold ji
        rw[if_pos hn]
        dsimp only
        rw[zrk (n:=0) hg0 h4 h8 hg']
      · rw[if_neg hn]at hg' ⊢
        dsimp only at hg' ⊢
        rw[zkK rfl]
        dsimp only
        have:kS g' 4=fg:=by
          unfold kS
          rcases hg' with rfl|rfl
          · rw[if_neg h4]
          · unfold onF
            rw[if_neg h4,if_pos (by omega)];omega
        rw[this]
    exact congrArg (fun z=>some ({ ptU u w ⟨xt,sd,mt⟩with o:=u.o++[⟨w,z,true,fl⟩] }:Us)) hfin
def kx(ys:List Wy)(i:Nat): Wy:=(ys[i % ys.length]?).getD ⟨[],[],[],-1⟩
def tW(a b:DT)(w:Int): DT:=if w=0 then a else b
def wvL(ys:List Wy): Nat->List Itm->DT->DT->List Rq->List Rq
 | _,[],_,_,o=>o
 | i,x::l,a,b,o=>wvL ys (i+1) l (if x.w=0 then(wvI x (kx ys i) (tW a b x.w)).2 else a) (if x.w=0 then b else(wvI x (kx ys i) (tW a b x.w)).2) (o++(wvI x (kx ys i) (tW a b x.w)).1.map (rawG x.w))
def zwn(ys:List Wy): Nat->List Itm->DT->DT->Prop
 | _,[],_,_=>True
 | i,x::l,a,b=>zvg x (kx ys i) (tW a b x.w)/\zwn ys (i+1) l (if x.w=0 then(wvI x (kx ys i) (tW a b x.w)).2 else a) (if x.w=0 then b else(wvI x (kx ys i) (tW a b x.w)).2)
def zrl(t d:DT)(n:Nat): Prop:=(d.xs=t.xs/\d.m=t.m)/\NoK t.xs/\TOk t/\t.xs.length<=n
theorem zkN{t d:DT}{n m:Nat}(h:zrl t d n)(hn:n<=m): zrl t d m:=⟨h.1,h.2.1,h.2.2.1,Nat.le_trans h.2.2.2 hn⟩
theorem zrm{x:Itm}{y:Wy}{t:DT}{n:Nat}(h:zvg x y t)(hk:NoK t.xs)(ht:TOk t)(hx:t.xs.length<=n)(hn:n<=30000)(hz:y.z.length<=12)(hl:x.fl.length<=12)(hlb:∀f∈x.fl,(f.n.size:Int)<=300/\(f.v.size:Int)<=300)(sd:Nat): zrl (wvI x y t).2 ⟨(wvI x y t).2.xs,sd,(wvI x y t).2.m⟩ (n+12):=by
 obtain⟨_,_,hs,_⟩:=h
 obtain⟨w,f,bk,fl⟩:=x
 cases bk with
 | false=>
  rw[zrj]
  exact⟨⟨rfl,rfl⟩,hk,ht,by dsimp only;omega⟩
 | true=>
  rw[znk]
  dsimp only at *
  obtain⟨Q,hQ⟩:∃Q,jL y.z fl y.y t=Q:=⟨_,rfl⟩
  rw[hQ]
  have hlb':∀f∈fl,f.n.size<=1000/\f.v.size<=1000:=fun f hf=>by have:=hlb f hf;omega
  obtain⟨a,b,_⟩:=zdL hQ ht (by omega) (hs rfl) (by omega) (by omega) hlb'
  obtain⟨o,⟨xt,st,mt⟩⟩:=Q
  obtain⟨tx,ts,tm⟩:=t
  obtain⟨c,_⟩:=zg7 hQ hk (by dsimp only at hx;omega) (by omega) (hs rfl) hlb'
  exact⟨⟨rfl,rfl⟩,c,a,by dsimp only at *;omega⟩
theorem zkO(ys:List Wy)(hys:∀i,(kx ys i).z.length<=12): ∀(l:List Itm) (i:Nat) (a b:DT) (o:List Rq) (u:Us) (n:Nat),zwn ys i l a b->(∀x∈l,x.fl.length<=12/\∀f∈x.fl,(f.n.size:Int)<=300/\(f.v.size:Int)<=300)->u.a0=asm0->u.a1=asm0->zrl a u.d0 n->zrl b u.d1 n->n+12*l.length<=30000 ->
    ∃rs u',wvL ys i l a b o=o++rs/\uwL rs u=some u'/\u'.a0=asm0/\u'.a1=asm0/\u'.o=u.o++l
  | [],i,a,b,o,u,n,_,_,h0,h1,_,_,_=>⟨[],u,by simp[wvL],rfl,h0,h1,by simp⟩
  | x::l,i,a,b,o,u,n,hw,hl,h0,h1,ha,hb,hn=>by
    obtain⟨hx,hw⟩:=hw
    obtain⟨hx1,hx2⟩:=hl x List.mem_cons_self
    rw[List.length_cons]at hn
    have hxw:x.w=0\/x.w=1:=hx.1.1
    obtain⟨t,ht⟩:∃t,tW a b x.w=t:=⟨_,rfl⟩
    obtain⟨y,hy⟩:∃y,kx ys i=y:=⟨_,rfl⟩
    have hyz:y.z.length<=12:=by rw[<-hy];exact hys i
    rw[ht,hy]at hw hx
    have hT:zrl t (tU u x.w) n:=by
      rw[<-ht]
      unfold tW tU
      split
      · exact ha
      · exact hb
    have hA:aU u x.w=asm0:=by unfold aU;split<;>assumption
    obtain⟨sd,hsd⟩:=zkM hx hA hT.1 hT.2.1 hT.2.2.1 (by have:=hT.2.2.2;omega) hyz hx1 hx2
    have hN:=zrm hx hT.2.1 hT.2.2.1 hT.2.2.2 (by omega) hyz hx1 hx2 sd
    obtain⟨F,hF⟩:∃F,wvI x y t=F:=⟨_,rfl⟩
    rw[hF]at hsd hN hw
    have go := zkO ys hys l (i + 1) (if x.w = 0 then F.2 else a) (if x.w = 0 then b else F.2) (o ++ F.1.map (rawG x.w)) { ptU u x.w ⟨F.2.xs, sd, F.2.m⟩ with o := u.o ++ [x] } (n + 12) hw (fun z hz => hl z (List.mem_cons_of_mem _ hz)) (by unfold ptU; split <;> exact h0) (by unfold ptU; split <;> exact h1)
      (by
        unfold ptU
        by_cases c:x.w=0
        · rw[if_pos c,if_pos c];exact hN
        · rw[if_neg c,if_neg c];exact zkN ha (by omega))
      (by
        unfold ptU
        by_cases c:x.w=0
        · rw[if_pos c,if_pos c];exact zkN hb (by omega)
        · rw[if_neg c,if_neg c];exact hN) (by omega)
    obtain⟨rs,u',g1,g2,g3,g4,g5⟩:=go
    refine⟨F.1.map (rawG x.w)++rs,u',?_,?_,g3,g4,?_⟩
    · rw[wvL,ht,hy,hF,g1,List.append_assoc]
    · rw[zoB,hsd];exact g2
    · rw[g5];simp
theorem zyS(t g s:Int)(b:List UInt8): ((rfM t g s b).p = -1\/(rfM t g s b).p=kv t g b)/\(rfM t g s b).g=g:=by
 unfold rfM
 split
 ·exact⟨.inl rfl,rfl⟩
 split
 ·exact⟨.inl rfl,rfl⟩
 split
 ·exact⟨.inl rfl,rfl⟩
 split
 ·exact⟨.inl rfl,rfl⟩
 split
 ·rename_i h5
  subst h5
  exact⟨.inr rfl,rfl⟩
 split
 ·exact⟨.inr rfl,rfl⟩
 all_goals first|exact⟨.inr rfl,rfl⟩|exact⟨.inl rfl,rfl⟩
def zzM(l:List Gm)(f:Gm): Prop:=if l.isEmpty=true then ¬f.t=9 else f.t=9/\f.s=(l.headD gm0).s
instance {l:List Gm} {f:Gm}:Decidable (zzM l f):=by unfold zzM;infer_instance
structure Ur where
 (l0 l1:List Gm) (d0 d1:DT) (o:List Itm)
def uwX{α:Type}(st:α->Int->Gm->Option α): List Rq->α->α×Int
 | [],u=>(u,0)
 | r :: l, u => if r.w = 0 \/ r.w = 1 then (match zkH r with
  | none=>(u,4)
  | some f => match st u r.w f with
   | none=>(u,4)
   | some u'=>uwX st l u')else(u,1)
theorem zvi: ∀(l:List Rq) (u v:Us),uwL l u=some v->uwX zaM l u=(v,0)
 | [],u,v,h=>by
  obtain rfl:u=v:=by simpa[uwL]using h
  rfl
 | r::l,u,v,h=>by
  rw[uwL]at h
  rw[uwX]
  by_cases hw:r.w=0\/r.w=1
  ·rw[if_pos hw]at h ⊢
   cases e:zkH r with
   | none=>rw[e]at h;simp at h
   | some f=>
    rw[e]at h
    dsimp only at h ⊢
    cases e2:zaM u r.w f with
    | none=>rw[e2]at h;simp at h
    | some u'=>
     rw[e2]at h
     exact zvi l u' v h
  ·rw[if_neg hw]at h;simp at h
end Go.Proofs.YtdalcgfnlbofdaaGreatDoor
