import Derived.Test.YtdalcgfnlbofdaaGreatDoorZ33
import Derived.Test.YtdalcgfnlbofdaaGreatDoorZ37
set_option linter.unusedVariables false
set_option linter.unusedSimpArgs false
namespace Go.Proofs.YtdalcgfnlbofdaaGreatDoor
open Go Go.Lf Go.Proofs
attribute [local irreducible] Lf.rg Lf.ro Lf.PWp Lf.SOp Lf.ACall Lf.Scoped Lf.dg
set_option maxRecDepth 20000
set_option maxHeartbeats 4000000
structure Am where
 (on:Bool) (f:Fm) (k:Nat) (x:List UInt8)
structure Cm where
 (n:Nat) (o:List ItF) (a0 a1:Am) (t0 t1:DT)
def amF(a:Am)(y:Fm): Fm:=⟨sI a.on a.f.t y.t,sI a.on a.f.g y.g,sI a.on a.f.s y.s,sI a.on a.f.p y.p,sB a.on a.f.fd y.fd,sL a.on a.f.d y.d,sB a.on a.f.fs false,[],sI a.on a.f.wt y.wt,sI a.on a.f.pa y.pa,sB a.on a.f.al y.al,sI a.on a.f.pr y.pr,sI a.on a.f.la y.la,sI a.on a.f.co y.co,sI a.on a.f.sp y.sp⟩
def amZ: Am:=⟨false,fm0,0,[]⟩
def zoI(a:Am): Prop:=zfK a.on a.f.t a.f.g a.f.s a.f.p a.f.fd a.f.d a.f.fs a.f.wt a.f.pa a.f.al a.f.pr a.f.la a.f.co a.f.sp a.x
theorem zhh: zoI amZ:=.inr ⟨rfl,rfl,rfl,rfl,rfl,rfl,rfl,rfl,rfl,rfl,rfl,rfl,rfl,rfl,rfl,rfl⟩
def itP(w:Int)(y:Fm): ItF:=⟨w,⟨y.t,bgF y.g y.p,y.s,bpF y.p,y.fd,y.d,y.fs,y.st,y.wt,y.pa,y.al,y.pr,y.la,y.co,y.sp⟩,false,true,[]⟩
def itE(w:Int)(f:Fm)(fl:List Fl): ItF:=⟨w,⟨f.t,kS (bgF f.g f.p) 4,f.s,bpF f.p,true,[],f.fs,[],f.wt,f.pa,f.al,f.pr,f.la,f.co,f.sp⟩,true,false,fl⟩
def aC(c:Cm)(w:Int): Am:=if w=0 then c.a0 else c.a1
def tC(c:Cm)(w:Int): DT:=if w=0 then c.t0 else c.t1
def sA(c:Cm)(w:Int)(a:Am): Cm:=if w=0 then⟨c.n,c.o,a,c.a1,c.t0,c.t1⟩else⟨c.n,c.o,c.a0,a,c.t0,c.t1⟩
def sTd(c:Cm)(w:Int)(t:DT): Cm:=if w=0 then⟨c.n,c.o,c.a0,c.a1,t,c.t1⟩else⟨c.n,c.o,c.a0,c.a1,c.t0,t⟩
def sO(c:Cm)(x:ItF): Cm:=⟨c.n+1,c.o++[x],c.a0,c.a1,c.t0,c.t1⟩
def dcC(b:List UInt8)(t:DT): DQ×Int:=kP b.length b ⟨xs0,ss0,⟨t.xs,0,t.m⟩⟩
noncomputable def oneC (c:Cm) (w:Int) (y:Fm):Option Cm:=
 open Classical in
 if ¬tkP (aC c w).on (aC c w).f.s y.t y.s then none
 else if ¬(y.t=1\/y.t=5\/y.t=9)then some (sO c (itP w y))
 else if 1048576<(aC c w).x.length+y.d.length then none
 else if yM y.t y.g 4=false then some (sA c w ⟨true,amF (aC c w) y,(aC c w).k+1,(aC c w).x++y.d⟩)
 else if(dcC ((aC c w).x++y.d) (tC c w)).2=0 then some (sO (sTd (sA c w amZ) w (dcC ((aC c w).x++y.d) (tC c w)).1.t) (itE w (amF (aC c w) y) (dcC ((aC c w).x++y.d) (tC c w)).1.F))
 else none
theorem zaA(c:Cm)(w:Int)(y:Fm):
    (¬tkP (aC c w).on (aC c w).f.s y.t y.s/\oneC c w y=none) \/
    (tkP (aC c w).on (aC c w).f.s y.t y.s/\¬(y.t=1\/y.t=5\/y.t=9)/\oneC c w y=some (sO c (itP w y))) \/
    (tkP (aC c w).on (aC c w).f.s y.t y.s/\(y.t=1\/y.t=5\/y.t=9)/\1048576<(aC c w).x.length+y.d.length/\oneC c w y=none) \/
    (tkP (aC c w).on (aC c w).f.s y.t y.s/\(y.t=1\/y.t=5\/y.t=9)/\(aC c w).x.length+y.d.length<=1048576/\yM y.t y.g 4=false/\oneC c w y=some (sA c w ⟨true,amF (aC c w) y,(aC c w).k+1,(aC c w).x++y.d⟩)) \/
    (tkP (aC c w).on (aC c w).f.s y.t y.s/\(y.t=1\/y.t=5\/y.t=9)/\(aC c w).x.length+y.d.length<=1048576/\yM y.t y.g 4=true/\(dcC ((aC c w).x++y.d) (tC c w)).2=0/\oneC c w y=some (sO (sTd (sA c w amZ) w (dcC ((aC c w).x++y.d) (tC c w)).1.t) (itE w (amF (aC c w) y) (dcC ((aC c w).x++y.d) (tC c w)).1.F))) \/
    (tkP (aC c w).on (aC c w).f.s y.t y.s/\(y.t=1\/y.t=5\/y.t=9)/\(aC c w).x.length+y.d.length<=1048576/\yM y.t y.g 4=true/\(dcC ((aC c w).x++y.d) (tC c w)).2≠0/\oneC c w y=none):=by
  unfold oneC
  by_cases h1:tkP (aC c w).on (aC c w).f.s y.t y.s
  · rw [if_neg (fun h => h h1)]
    by_cases h2:y.t=1\/y.t=5\/y.t=9
    · rw [if_neg (fun h => h h2)]
      by_cases h3:1048576<(aC c w).x.length+y.d.length
      · rw[if_pos h3]
        exact .inr (.inr (.inl ⟨h1,h2,h3,rfl⟩))
      · rw[if_neg h3]
        cases h4:yM y.t y.g 4 with
        | false=>
          rw[if_pos rfl]
          exact .inr (.inr (.inr (.inl ⟨h1,h2,by omega,rfl,rfl⟩)))
        | true=>
          rw[if_neg (by decide)]
          by_cases h5:(dcC ((aC c w).x++y.d) (tC c w)).2=0
          · rw[if_pos h5]
            exact .inr (.inr (.inr (.inr (.inl ⟨h1,h2,by omega,rfl,h5,rfl⟩))))
          · rw[if_neg h5]
            exact .inr (.inr (.inr (.inr (.inr ⟨h1,h2,by omega,rfl,h5,rfl⟩))))
    · rw[if_pos h2]
      exact .inr (.inl ⟨h1,h2,rfl⟩)
  · rw[if_pos h1]
    exact .inl ⟨h1,rfl⟩
structure CmOk(c:Cm)(B i:Nat): Prop where
 a0:zoI c.a0
 a1:zoI c.a1
 g0:0<=c.a0.f.g/\c.a0.f.g<256
 g1:0<=c.a1.f.g/\c.a1.f.g<256
 x0:c.a0.x.length<=B
 x1:c.a1.x.length<=B
 t0:TOk c.t0
 t1:TOk c.t1
 l0:c.t0.xs.length<=i*100000
 l1:c.t1.xs.length<=i*100000
 oo:c.o.length<=i
theorem zoJ{on:Bool}{qs t s:Int}(h:tkP on qs t s)(hn:¬(t=1\/t=5\/t=9)): on=false:=by
 cases on with
 | false=>rfl
 | true=>
  unfold tkP at h
  rw[if_pos rfl]at h
  exact absurd (.inr (.inr h.1)) hn
structure StOk(c:Cm)(w:Int)(y:Fm): Prop where
 a:zoI (aC c w)
 xx:(aC c w).x.length<=1048576
 g:0<=(aC c w).f.g/\(aC c w).f.g<256
 yg:0<=y.g/\y.g<256
 yd:y.d.length<=100000
 st:(y.t=1\/y.t=5\/y.t=9)->y.st=[]
 t:TOk (tC c w)
 tl:(tC c w).xs.length<=30000
 b:(aC c w).x.length+y.d.length<=50000
 o:c.o.length<=1000000
def vu(x:Fr): Fm:=(yK x.t x.g x.s x.b).1
def UOk: List Fr->Cm->Prop
 | [],_=>True
 | x::l,c=>x.b.length<=100000/\((x.w=0\/x.w=1)->okQ (rqF x)->StOk c x.w (vu x)/\∀c',oneC c x.w (vu x)=some c'->UOk l c')
noncomputable def unw:List Fr->Cm->Cm×Int
 | [],c=>(c,if c.a0.on=true\/c.a1.on=true then 4 else 0)
 | x :: l, c => open Classical in if x.w = 0 \/ x.w = 1 then (if okQ (rqF x) then (match oneC c x.w (vu x) with
  | none=>(c,4)
  | some c'=>unw l c')else(c,4))else(c,1)
theorem zvr{x:Fr}{l:List Fr}{c:Cm}(h:¬(x.w=0\/x.w=1)): unw (x::l) c=(c,1):=by rw[unw,if_neg h]
theorem zvs{x:Fr}{l:List Fr}{c:Cm}(h:x.w=0\/x.w=1)(hq:¬okQ (rqF x)): unw (x::l) c=(c,4):=by rw[unw,if_pos h,if_neg hq]
theorem zk7{x:Fr}{l:List Fr}{c:Cm}(h:x.w=0\/x.w=1)(hq:okQ (rqF x))(h1:oneC c x.w (vu x)=none): unw (x::l) c=(c,4):=by rw[unw,if_pos h,if_pos hq,h1]
theorem zfM{x:Fr}{l:List Fr}{c c':Cm}(h:x.w=0\/x.w=1)(hq:okQ (rqF x))(h1:oneC c x.w (vu x)=some c'): unw (x::l) c=unw l c':=by rw[unw,if_pos h,if_pos hq,h1]
def zwr(r:Cm×Int): AV:=if r.2=0 then .tu [.sl false false (r.1.o.map itA),i64 0]else .tu [.sl true false [],i64 r.2]
theorem zaO{r:Cm×Int}{c:Cm}{e:Int}(h:r=(c,e))(he:e≠0): zwr r=.tu [.sl true false [],i64 e]:=by rw[h];exact if_neg he
theorem zoK{r:Cm×Int}{c:Cm}(h:r=(c,0)): zwr r=.tu [.sl false false (c.o.map itA),i64 0]:=by rw[h];exact if_pos rfl
def oE: List ItF:=[]
def cm0: Cm:=⟨0,oE,amZ,amZ,⟨xsE,0,4096⟩,⟨xsE,0,4096⟩⟩
theorem zvt{c:Cm}(h:c.a0.on=true\/c.a1.on=true): unw [] c=(c,4):=by rw[unw,if_pos h]
theorem zyX{c:Cm}(h0:c.a0.on=false)(h1:c.a1.on=false): unw [] c=(c,0):=by rw[unw,if_neg (by rw[h0,h1];simp)]
end Go.Proofs.YtdalcgfnlbofdaaGreatDoor
