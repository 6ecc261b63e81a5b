import Derived.Test.YtdalcgfnlbofdaaGreatDoorZ37
set_option linter.unusedVariables false
set_option linter.unusedSimpArgs false
namespace Go.Proofs.YtdalcgfnlbofdaaGreatDoor
open Go Go.Lf Go.Proofs
attribute [local irreducible] Lf.rg Lf.ro Lf.PWp Lf.SOp Lf.ACall Lf.Scoped Lf.dg Lf.dw
set_option maxRecDepth 20000
set_option maxHeartbeats 4000000
/-! the greater of two by vN -/
theorem zdU{P:Program}{N:Nat}{o:Oper}{Γ:Env}{σ:Sto}{K:AV->Sto->Prop}{x y:Operand}{ts:Array TypeId}{k:IntKind}{a b:Int}(ho:o.op=.call { callee:=.builtin .min,args:=#[x,y],argTypes:=ts })(hx:ev Γ x=.lit (.int k a))(hy:ev Γ y=.lit (.int k b))(hK:K (.lit (.int k (min a b))) σ): SOp P N o Γ σ K:=by
 by_cases h:a<=b
 ·rw [show min a b = a from by omega] at hK
  exact zpP ho hx hy h hK
 ·rw [show min a b = b from by omega] at hK
  exact zpQ ho hx hy (by omega) hK
structure BS where
 (i:Nat) (b:List UInt8) (F:Fm) (O:List Fr) (N:Nat)
def fdG(f:Gm)(d:List UInt8): Gm:=⟨f.t,f.g,f.s,f.p,d,f.st,f.wt,f.pa,f.al,f.pr,f.la,f.co,f.sp⟩
def cuK(n:Int)(b:List UInt8): Int:=min (max n 0) b.length
structure BOk(w s:Int)(ps:List Int)(n:Nat)(o:List Fr)(R:List Gm×Bool)(x:BS): Prop where
 i:x.i<=ps.length
 b:x.b.length<=100000
 g:0<=x.F.g/\x.F.g<256
 e:x.F.st.length<=10000
 m:x.N<=n+x.i
 l:x.O.length<=o.length+x.i
 R:∃D,x.O=o++D.map (rwF w)/\x.N=n+D.length/\R=(D++(emP w (frsG s (ps.drop x.i) (gm x.F) x.b)).1,(emP w (frsG s (ps.drop x.i) (gm x.F) x.b)).2)
theorem zk8{s:Int}{n:Int}{ps:List Int}{f:Gm}{b:List UInt8}: frsG s (n::ps) f b=fdG f (b.take (cuK n b).toNat)::frsG s ps (zh0 s) (b.drop (cuK n b).toNat):=rfl
theorem zvu{w s:Int}{ps:List Int}{n:Nat}{o:List Fr}{R:List Gm×Bool}{i N:Nat}{b:List UInt8}{F:Fm}{O:List Fr}(h:BOk w s ps n o R ⟨i,b,F,O,N⟩){x:Int}(hd:ps.drop i=x::ps.drop (i+1))(hem:emG w (fdG (gm F) (b.take (cuK x b).toNat)))(hi:i<ps.length): BOk w s ps n o R ⟨i+1,b.drop (cuK x b).toNat,⟨9,0,s,-1,true,[],true,[],0,0,false,0,0,0,0⟩,O++[rwF w (fdG (gm F) (b.take (cuK x b).toNat))],N+1⟩:=by
 obtain⟨h1,h2,h3,h4,h5,h6,D,hO,hN,hR⟩:=h
 dsimp only at *
 refine⟨hi,by dsimp only;rw[List.length_drop];omega,⟨by dsimp only;omega,by dsimp only;omega⟩,by simp,by dsimp only;omega,by dsimp only;rw[List.length_append];simp only[List.length_cons,List.length_nil];omega,D++[fdG (gm F) (b.take (cuK x b).toNat)],?_,?_,?_⟩
 ·dsimp only
  rw[hO,List.map_append,List.append_assoc];rfl
 ·dsimp only
  rw[hN,List.length_append];rfl
 ·dsimp only
  rw[hR,hd,zk8,zfL hem,List.append_assoc];rfl
theorem zvv{w s:Int}{ps:List Int}{n:Nat}{o:List Fr}{R:List Gm×Bool}{i N:Nat}{b:List UInt8}{F:Fm}{O:List Fr}(h:BOk w s ps n o R ⟨i,b,F,O,N⟩){x:Int}(hd:ps.drop i=x::ps.drop (i+1))(hem:¬emG w (fdG (gm F) (b.take (cuK x b).toNat))): R.2=false/\o++R.1.map (rwF w)=O/\n+R.1.length=N:=by
 obtain⟨h1,h2,h3,h4,h5,h6,D,hO,hN,hR⟩:=h
 dsimp only at *
 rw[hd,zk8,zk6 hem]at hR
 rw[hR,List.append_nil]
 exact⟨rfl,hO.symm,hN.symm⟩
theorem zvw{w s:Int}{ps:List Int}{n:Nat}{o:List Fr}{R:List Gm×Bool}{N:Nat}{b:List UInt8}{F:Fm}{O:List Fr}(h:BOk w s ps n o R ⟨ps.length,b,F,O,N⟩):
    (∀y,y=(⟨F.t,onF F.g 4,F.s,F.p,b,F.st,F.wt,F.pa,F.al,F.pr,F.la,F.co,F.sp⟩:Gm)->(emG w y->R.2=true/\o++R.1.map (rwF w)=O++[rwF w y]/\n+R.1.length=N+1)/\(¬emG w y->R.2=false/\o++R.1.map (rwF w)=O/\n+R.1.length=N)):=by
  obtain⟨h1,h2,h3,h4,h5,h6,D,hO,hN,hR⟩:=h
  dsimp only at *
  rw[List.drop_length]at hR
  intro y hy
  have e:frsG s [] (gm F) b=[y]:=by rw[hy];rfl
  rw[e]at hR
  refine⟨fun hem=>?_,fun hem=>?_⟩
  · rw[zfL hem]at hR
    rw[hR]
    refine⟨rfl,?_,?_⟩
    · rw[hO,List.map_append,<-List.append_assoc];rfl
    · rw[hN,List.length_append];rfl
  · rw[zk6 hem]at hR
    rw[hR,List.append_nil]
    exact⟨rfl,hO.symm,hN.symm⟩
theorem zru(n:Nat)(o:List Fr)(us:Nat)(uxs:List Fl)(um:Int)(vs:Nat)(vxs:List Fl)(vm:Int)(t g s p:Int)(fd:Bool)(d:List UInt8)(fs:Bool)(e:List (Int×Int))(wt pa:Int)(al:Bool)(pr la co sp:Int)(bk ff:Bool)(fl:List Fl)(zf:Bool)(z:List Int)(yf:Bool)(y:List Op4)(pf:Bool)(ps:List Int)(pd:Int)(hsl:z.length<=100)(hll:fl.length<=100)(hol:y.length<=100000)(hlb:∀f∈fl,f.n.size<=1000/\f.v.size<=1000)(hx:uxs.length<=30000)(hz:zaV z=true): AEq Tryz.prog 119 [.ptr 0 0,.ag [i64 0,i64 t,i64 g,i64 s,i64 p,.sl fd false (d.map zk),.sl fs false (e.map z7),i64 wt,i64 pa,bl al,i64 pr,i64 la,i64 co,i64 sp,bl bk,.sl ff false (fl.map flA)],.ag [.sl zf false (z.map yz),.sl yf false (y.map opA),.sl pf false (ps.map yz),i64 pd]] [.box [.ptr 1 0,.ptr 4 0,.row 7 (n)],.box [.ptr 2 0],.box [.row 3 (us),i64 (zC uxs),i64 um],.row (us) 103 3 (uxs.map flA),.box [.ptr 5 0],.box [.row 6 (vs),i64 (zC vxs),i64 vm],.row (vs) 103 3 (vxs.map flA),.row (n) 45 6 ((o).map frA)] (bl false) [.box [.ptr 1 0,.ptr 4 0,.row 7 (n)],.box [.ptr 2 0],.box [.row 3 (us),i64 (zC uxs),i64 um],.row (us) 103 3 (uxs.map flA),.box [.ptr 5 0],.box [.row 6 (vs),i64 (zC vxs),i64 vm],.row (vs) 103 3 (vxs.map flA),.row (n) 45 6 ((o).map frA)]:=by
 refine enT Tryz.func119 Tryz.ntmps119 ?_
 have hU:=And.intro @beqN ( And.intro @eocI (@eocB))
 repeat'(first|refine goR ?_|refine y1n ?_|refine zd fun K hK=>?_|refine zc ?_ ?_<;>intro hcd<;>(try simp only[hcP]at hcd)<;>try exact cdT|((refine zo [0,1,2,3,4,5,6,7] (by rw[Tryz.results119,Lf.zI]) (zw ?_) ?_)<;>(try exact uT))|(guard_target =~ dw _ _ _ _ _ _ _ _ _ _;first|(guard_target =~ dw _ _ _ _ _ (5::_) _ _ _ _;(refine kZ rfl rfl (h:=zH (h:=zz rfl (hK:=zl ⟨rfl,rfl⟩))) (hk:=?_)))|(guard_target =~ dw _ _ _ _ _ (13::_) _ _ _ _;(refine yn rfl rfl (h:=zH (h:=zj (f:=131) rfl Tryz.call131 (h:=AEq.sub' [1,2,3] (by refine⟨?_,?_,?_,?_,trivial⟩<;>(first|exact zD (by rfl) (by rfl)|exact zq id id)) suT (zos _ _ _ _ _ _ z fl y (by omega) uxs us um hz) (by rfl) (hq:=zl ⟨rfl,rfl⟩)))) (hk:=?_))))|refine hK _ _ ?_;clear hK K)
theorem zy1(n:Nat)(o:List Fr)(us:Nat)(uxs:List Fl)(um:Int)(vs:Nat)(vxs:List Fl)(vm:Int)(t g s p:Int)(fd:Bool)(d:List UInt8)(fs:Bool)(e:List (Int×Int))(wt pa:Int)(al:Bool)(pr la co sp:Int)(bk ff:Bool)(fl:List Fl)(zf:Bool)(z:List Int)(yf:Bool)(y:List Op4)(pf:Bool)(ps:List Int)(pd:Int)(b:List UInt8)(xt:List Fl)(st:Nat)(mt:Int)(L:List Gm)(ok:Bool)(N2:Nat)(O2:List Fr)(hsl:z.length<=100)(hll:fl.length<=100)(hol:y.length<=100000)(hlb:∀f∈fl,f.n.size<=1000/\f.v.size<=1000)(hx:uxs.length<=30000)(hok:TOk ⟨uxs,us,um⟩)(hz:zaV z=false)(hQ:jL z fl y ⟨uxs,us,um⟩=⟨b,⟨xt,st,mt⟩⟩)(hb:b.length<=100000)(hg0:0<=g)(hg1:g<256)(hel:e.length<=10000)(hpl:ps.length<=1000)(hno:o.length<=900000)(hR:emP 0 (frsG s ps ⟨t,wgG g pd,s,wpG p pd,d,e,wt,pa,al,pr,la,co,sp⟩ b)=(L,ok))(hN2:n+L.length=N2)(hO2:o++L.map (rwF 0)=O2): AEq Tryz.prog 119 [.ptr 0 0,.ag [i64 0,i64 t,i64 g,i64 s,i64 p,.sl fd false (d.map zk),.sl fs false (e.map z7),i64 wt,i64 pa,bl al,i64 pr,i64 la,i64 co,i64 sp,bl bk,.sl ff false (fl.map flA)],.ag [.sl zf false (z.map yz),.sl yf false (y.map opA),.sl pf false (ps.map yz),i64 pd]] [.box [.ptr 1 0,.ptr 4 0,.row 7 (n)],.box [.ptr 2 0],.box [.row 3 (us),i64 (zC uxs),i64 um],.row (us) 103 3 (uxs.map flA),.box [.ptr 5 0],.box [.row 6 (vs),i64 (zC vxs),i64 vm],.row (vs) 103 3 (vxs.map flA),.row (n) 45 6 ((o).map frA)] (bl ok) [.box [.ptr 1 0,.ptr 4 0,.row 7 (N2)],.box [.ptr 2 0],.box [.row 3 (st),i64 (zC xt),i64 mt],.row (st) 103 3 (xt.map flA),.box [.ptr 5 0],.box [.row 6 (vs),i64 (zC vxs),i64 vm],.row (vs) 103 3 (vxs.map flA),.row (N2) 45 6 ((O2).map frA)]:=by
 refine enT Tryz.func119 Tryz.ntmps119 ?_
 have hU:=And.intro @beqN ( And.intro @eocI (@eocB))
 repeat'(first|refine goR ?_|refine y1n ?_|refine zd fun K hK=>?_|refine zc ?_ ?_<;>intro hcd<;>(try simp only[hcP]at hcd)<;>try exact cdT|refine y2b ?_|(guard_target =~ dw _ _ _ _ _ _ _ _ _ _;first|(guard_target =~ dw _ _ _ _ _ (5::_) _ _ _ _;(refine kZ rfl rfl (h:=zH (h:=zz rfl (hK:=zl ⟨rfl,rfl⟩))) (hk:=?_)))|(guard_target =~ dw _ _ _ _ _ (13::_) _ _ _ _;(refine yn rfl rfl (h:=zH (h:=zj (f:=131) rfl Tryz.call131 (h:=AEq.sub' [1,2,3] (by refine⟨?_,?_,?_,?_,trivial⟩<;>(first|exact zD (by rfl) (by rfl)|exact zq id id)) suT (zot _ _ _ _ _ _ z fl y hsl hll hol hlb uxs us um hx hok hz b xt st mt hQ) (by rfl) (hq:=zl ⟨rfl,rfl⟩)))) (hk:=?_))))|refine hK _ _ ?_;clear hK K)
 have hwg:=(zcL (n:=pd) hg0 hg1)
 refine zN [6,7,11,39,40,41,42,43,44,45,46,47,48,49,50,51,52,53,54,55,56,57,58,59,60,61,62,63,64,65,66] (fun x:BS=>[(39,i64 x.i),(7,.sl false false (x.b.map zk))]) (fun x=>[.box [.ptr 1 0,.ptr 4 0,.row 7 (x.N)],.box [.ptr 2 0],.box [.row 3 (st),i64 (zC xt),i64 mt],.row (st) 103 3 (xt.map flA),.box [.ptr 5 0],.box [.row 6 (vs),i64 (zC vxs),i64 vm],.row (vs) 103 3 (vxs.map flA),.row (x.N) 45 6 ((x.O).map frA),.box [i64 0,i64 t,i64 g,i64 s,i64 p,.sl fd false (d.map zk),.sl fs false (e.map z7),i64 wt,i64 pa,bl al,i64 pr,i64 la,i64 co,i64 sp,bl bk,.sl ff false (fl.map flA)],.box [.sl zf false (z.map yz),.sl yf false (y.map opA),.sl pf false (ps.map yz),i64 pd],.box [i64 x.F.t,i64 x.F.g,i64 x.F.s,i64 x.F.p,.sl x.F.fd false (x.F.d.map zk),.sl x.F.fs false (x.F.st.map z7),i64 x.F.wt,i64 x.F.pa,bl x.F.al,i64 x.F.pr,i64 x.F.la,i64 x.F.co,i64 x.F.sp]]) (BOk 0 s ps n o (L,ok)) (fun x=>ps.length-x.i) ⟨0,b,⟨t,wgG g pd,s,wpG p pd,fd,d,fs,e,wt,pa,al,pr,la,co,sp⟩,o,n⟩ ⟨Nat.zero_le _,hb,hwg,hel,Nat.le_refl _,Nat.le_refl _,[],by simp,rfl,by rw[<-hR];rfl⟩ ?_ rfl ?_
 ·(refine⟨⟨_,sT,?_⟩,⟨_,sT,?_⟩,trivial⟩<;>(try exact zu))
 ·rintro⟨i,b,F,O,N⟩ hs
  simp only[yN,List.map_cons,List.map_nil,List.cons_append,List.nil_append]
  obtain⟨hi,hbl,hFg,hFe,hNN,hOO,_⟩:=id hs
  dsimp only at hi hbl hFg hFe hNN hOO
  by_cases hlt:i<ps.length
  ·obtain⟨x,hd⟩:=vR hlt
   have hdr:=kp hd
   have hcu:0<=cuK x b/\cuK x b<=b.length:=by unfold cuK;omega
   have hcd2:(b.drop (cuK x b).toNat).length<=100000:=by rw[List.length_drop];omega
   have hmm:min (max x 0) (b.length:Int)=cuK x b:=rfl
   have htl:(b.take (cuK x b).toNat).length<=900000:=by rw[List.length_take];omega
   by_cases hem:emG 0 (fdG (gm F) (b.take (cuK x b).toNat))
   ·have hs2:=zvu hs hdr hem hlt
    have hU:=And.intro @hmm ( And.intro @beqN ( And.intro @eocI (@eocB)))
    repeat'(first|refine goR ?_|refine zd fun K hK=>?_|refine zc ?_ ?_<;>intro hcd<;>(try simp only[hcP]at hcd)<;>try exact cdT|(refine zj (f:=120) rfl Tryz.call120 (h:=AEq.sub' [0,1,2,3,4,5,6,7] (by refine⟨?_,?_,?_,trivial⟩<;>(first|exact zD (by rfl) (by rfl)|exact zi|exact zL ⟨zi,zi,zi,zi,zq id id,zq id id,zi,zi,zi,zi,zi,zi,zi,trivial⟩)) suT (zaN 0 N O st xt mt vs vxs vm F.t F.g F.s F.p false (b.take (cuK x b).toNat) F.fs F.st F.wt F.pa F.al F.pr F.la F.co F.sp htl hFe (by omega) (by omega) hem) (by rfl) (hq:=?_)))|(guard_target =~ SOp _ _ ⟨_,.slice _ _ _ _ _,_,_,_,none⟩ _ _ _;refine z8 rfl (hg:=(fun _=>gT)) (hK:=?_))|refine y1o ?_|refine y10 ?_|refine y1p ?_|refine hK _ _ ?_;clear hK K)
    refine⟨_,[0,1,2,3,4,5,6,7,8,9,10],hs2,by(first|omega|(dsimp only;omega)),rfl,?_,arT,?_⟩
    ·(refine⟨⟨_,sT,?_⟩,⟨_,sT,?_⟩,trivial⟩<;>(try exact zu))
    ·first|rfl|(simp(disch:=omega)only[go_sem,seval,↓reduceIte,hmm,beqN,eocI,eocB];done)|(simp(disch:=omega)only[go_sem,seval,↓reduceIte,hmm,beqN,eocI,eocB];rfl)|trace_state
   ·obtain⟨e1,e2,e3⟩:=zvv hs hdr hem
    dsimp only at e1 e2 e3
    obtain rfl:ok=false:=e1
    obtain rfl:O=O2:=by rw[<-e2,hO2]
    obtain rfl:N=N2:=by rw[<-e3,hN2]
    have hU:=And.intro @hmm ( And.intro @beqN ( And.intro @eocI (@eocB)))
    repeat'(first|refine goR ?_|refine zd fun K hK=>?_|refine zc ?_ ?_<;>intro hcd<;>(try simp only[hcP]at hcd)<;>try exact cdT|(refine zj (f:=120) rfl Tryz.call120 (h:=AEq.sub' [0,1,2,3,4,5,6,7] (by refine⟨?_,?_,?_,trivial⟩<;>(first|exact zD (by rfl) (by rfl)|exact zi|exact zL ⟨zi,zi,zi,zi,zq id id,zq id id,zi,zi,zi,zi,zi,zi,zi,trivial⟩)) suT (zcM 0 N O st xt mt vs vxs vm F.t F.g F.s F.p false (b.take (cuK x b).toNat) F.fs F.st F.wt F.pa F.al F.pr F.la F.co F.sp htl hFe (by omega) (by omega) hem) (by rfl) (hq:=?_)))|refine y1o ?_|refine y10 ?_|refine y1p ?_|((refine zo [0,1,2,3,4,5,6,7] (by rw[Tryz.results119,Lf.zI]) (zw ?_) ?_)<;>(try exact uT))|refine hK _ _ ?_;clear hK K)
  ·have hil : i = ps.length := by omega
   subst hil
   obtain⟨hy,hn⟩:=zvw hs _ rfl
   have hio:=znx hFg.1 hFg.2
   have hob:=zny hFg.1 hFg.2 4 (.inl rfl)
   by_cases hem:emG 0 ⟨F.t,onF F.g 4,F.s,F.p,b,F.st,F.wt,F.pa,F.al,F.pr,F.la,F.co,F.sp⟩
   ·obtain⟨e1,e2,e3⟩:=hy hem
    dsimp only at e1 e2 e3
    obtain rfl:ok=true:=e1
    rw[hO2]at e2
    rw[hN2]at e3
    subst e2
    subst e3
    have hU:=And.intro @hio ( And.intro @beqN ( And.intro @eocI (@eocB)))
    repeat'(first|refine goR ?_|refine zd fun K hK=>?_|refine zc ?_ ?_<;>intro hcd<;>(try simp only[hcP]at hcd)<;>try exact cdT|(refine zj (f:=120) rfl Tryz.call120 (h:=AEq.sub' [0,1,2,3,4,5,6,7] (by refine⟨?_,?_,?_,trivial⟩<;>(first|exact zD (by rfl) (by rfl)|exact zi|exact zL ⟨zi,zi,zi,zi,zq id id,zq id id,zi,zi,zi,zi,zi,zi,zi,trivial⟩)) suT (zaN 0 N O st xt mt vs vxs vm F.t (onF F.g 4) F.s F.p false b F.fs F.st F.wt F.pa F.al F.pr F.la F.co F.sp (by omega) hFe (by omega) (by omega) hem) (by rfl) (hq:=?_)))|((refine zo [0,1,2,3,4,5,6,7] (by rw[Tryz.results119,Lf.zI]) (zw ?_) ?_)<;>(try exact uT))|refine hK _ _ ?_;clear hK K|(apply_assumption (exfalso:=false) (symm:=false)))
   ·obtain⟨e1,e2,e3⟩:=hn hem
    dsimp only at e1 e2 e3
    obtain rfl:ok=false:=e1
    obtain rfl:O=O2:=by rw[<-e2,hO2]
    obtain rfl:N=N2:=by rw[<-e3,hN2]
    have hU:=And.intro @hio ( And.intro @beqN ( And.intro @eocI (@eocB)))
    repeat'(first|refine goR ?_|refine zd fun K hK=>?_|refine zc ?_ ?_<;>intro hcd<;>(try simp only[hcP]at hcd)<;>try exact cdT|(refine zj (f:=120) rfl Tryz.call120 (h:=AEq.sub' [0,1,2,3,4,5,6,7] (by refine⟨?_,?_,?_,trivial⟩<;>(first|exact zD (by rfl) (by rfl)|exact zi|exact zL ⟨zi,zi,zi,zi,zq id id,zq id id,zi,zi,zi,zi,zi,zi,zi,trivial⟩)) suT (zcM 0 N O st xt mt vs vxs vm F.t (onF F.g 4) F.s F.p false b F.fs F.st F.wt F.pa F.al F.pr F.la F.co F.sp (by omega) hFe (by omega) (by omega) hem) (by rfl) (hq:=?_)))|((refine zo [0,1,2,3,4,5,6,7] (by rw[Tryz.results119,Lf.zI]) (zw ?_) ?_)<;>(try exact uT))|refine hK _ _ ?_;clear hK K|(apply_assumption (exfalso:=false) (symm:=false)))
theorem zrv(n:Nat)(o:List Fr)(us:Nat)(uxs:List Fl)(um:Int)(vs:Nat)(vxs:List Fl)(vm:Int)(t g s p:Int)(fd:Bool)(d:List UInt8)(fs:Bool)(e:List (Int×Int))(wt pa:Int)(al:Bool)(pr la co sp:Int)(bk ff:Bool)(fl:List Fl)(zf:Bool)(z:List Int)(yf:Bool)(y:List Op4)(pf:Bool)(ps:List Int)(pd:Int)(hsl:z.length<=100)(hll:fl.length<=100)(hol:y.length<=100000)(hlb:∀f∈fl,f.n.size<=1000/\f.v.size<=1000)(hx:vxs.length<=30000)(hz:zaV z=true): AEq Tryz.prog 119 [.ptr 0 0,.ag [i64 1,i64 t,i64 g,i64 s,i64 p,.sl fd false (d.map zk),.sl fs false (e.map z7),i64 wt,i64 pa,bl al,i64 pr,i64 la,i64 co,i64 sp,bl bk,.sl ff false (fl.map flA)],.ag [.sl zf false (z.map yz),.sl yf false (y.map opA),.sl pf false (ps.map yz),i64 pd]] [.box [.ptr 1 0,.ptr 4 0,.row 7 (n)],.box [.ptr 2 0],.box [.row 3 (us),i64 (zC uxs),i64 um],.row (us) 103 3 (uxs.map flA),.box [.ptr 5 0],.box [.row 6 (vs),i64 (zC vxs),i64 vm],.row (vs) 103 3 (vxs.map flA),.row (n) 45 6 ((o).map frA)] (bl false) [.box [.ptr 1 0,.ptr 4 0,.row 7 (n)],.box [.ptr 2 0],.box [.row 3 (us),i64 (zC uxs),i64 um],.row (us) 103 3 (uxs.map flA),.box [.ptr 5 0],.box [.row 6 (vs),i64 (zC vxs),i64 vm],.row (vs) 103 3 (vxs.map flA),.row (n) 45 6 ((o).map frA)]:=by
 refine enT Tryz.func119 Tryz.ntmps119 ?_
 have hU:=And.intro @beqN ( And.intro @eocI (@eocB))
 repeat'(first|refine goR ?_|refine y1n ?_|refine zd fun K hK=>?_|refine zc ?_ ?_<;>intro hcd<;>(try simp only[hcP]at hcd)<;>try exact cdT|((refine zo [0,1,2,3,4,5,6,7] (by rw[Tryz.results119,Lf.zI]) (zw ?_) ?_)<;>(try exact uT))|(guard_target =~ dw _ _ _ _ _ _ _ _ _ _;first|(guard_target =~ dw _ _ _ _ _ (5::_) _ _ _ _;(refine kZ rfl rfl (h:=zH (h:=zz rfl (hK:=zl ⟨rfl,rfl⟩))) (hk:=?_)))|(guard_target =~ dw _ _ _ _ _ (13::_) _ _ _ _;(refine yn rfl rfl (h:=zH (h:=zj (f:=131) rfl Tryz.call131 (h:=AEq.sub' [4,5,6] (by refine⟨?_,?_,?_,?_,trivial⟩<;>(first|exact zD (by rfl) (by rfl)|exact zq id id)) suT (zos _ _ _ _ _ _ z fl y (by omega) vxs vs vm hz) (by rfl) (hq:=zl ⟨rfl,rfl⟩)))) (hk:=?_))))|refine hK _ _ ?_;clear hK K)
theorem zy2(n:Nat)(o:List Fr)(us:Nat)(uxs:List Fl)(um:Int)(vs:Nat)(vxs:List Fl)(vm:Int)(t g s p:Int)(fd:Bool)(d:List UInt8)(fs:Bool)(e:List (Int×Int))(wt pa:Int)(al:Bool)(pr la co sp:Int)(bk ff:Bool)(fl:List Fl)(zf:Bool)(z:List Int)(yf:Bool)(y:List Op4)(pf:Bool)(ps:List Int)(pd:Int)(b:List UInt8)(xt:List Fl)(st:Nat)(mt:Int)(L:List Gm)(ok:Bool)(N2:Nat)(O2:List Fr)(hsl:z.length<=100)(hll:fl.length<=100)(hol:y.length<=100000)(hlb:∀f∈fl,f.n.size<=1000/\f.v.size<=1000)(hx:vxs.length<=30000)(hok:TOk ⟨vxs,vs,vm⟩)(hz:zaV z=false)(hQ:jL z fl y ⟨vxs,vs,vm⟩=⟨b,⟨xt,st,mt⟩⟩)(hb:b.length<=100000)(hg0:0<=g)(hg1:g<256)(hel:e.length<=10000)(hpl:ps.length<=1000)(hno:o.length<=900000)(hR:emP 1 (frsG s ps ⟨t,wgG g pd,s,wpG p pd,d,e,wt,pa,al,pr,la,co,sp⟩ b)=(L,ok))(hN2:n+L.length=N2)(hO2:o++L.map (rwF 1)=O2): AEq Tryz.prog 119 [.ptr 0 0,.ag [i64 1,i64 t,i64 g,i64 s,i64 p,.sl fd false (d.map zk),.sl fs false (e.map z7),i64 wt,i64 pa,bl al,i64 pr,i64 la,i64 co,i64 sp,bl bk,.sl ff false (fl.map flA)],.ag [.sl zf false (z.map yz),.sl yf false (y.map opA),.sl pf false (ps.map yz),i64 pd]] [.box [.ptr 1 0,.ptr 4 0,.row 7 (n)],.box [.ptr 2 0],.box [.row 3 (us),i64 (zC uxs),i64 um],.row (us) 103 3 (uxs.map flA),.box [.ptr 5 0],.box [.row 6 (vs),i64 (zC vxs),i64 vm],.row (vs) 103 3 (vxs.map flA),.row (n) 45 6 ((o).map frA)] (bl ok) [.box [.ptr 1 0,.ptr 4 0,.row 7 (N2)],.box [.ptr 2 0],.box [.row 3 (us),i64 (zC uxs),i64 um],.row (us) 103 3 (uxs.map flA),.box [.ptr 5 0],.box [.row 6 (st),i64 (zC xt),i64 mt],.row (st) 103 3 (xt.map flA),.row (N2) 45 6 ((O2).map frA)]:=by
 refine enT Tryz.func119 Tryz.ntmps119 ?_
 have hU:=And.intro @beqN ( And.intro @eocI (@eocB))
 repeat'(first|refine goR ?_|refine y1n ?_|refine zd fun K hK=>?_|refine zc ?_ ?_<;>intro hcd<;>(try simp only[hcP]at hcd)<;>try exact cdT|refine y2b ?_|(guard_target =~ dw _ _ _ _ _ _ _ _ _ _;first|(guard_target =~ dw _ _ _ _ _ (5::_) _ _ _ _;(refine kZ rfl rfl (h:=zH (h:=zz rfl (hK:=zl ⟨rfl,rfl⟩))) (hk:=?_)))|(guard_target =~ dw _ _ _ _ _ (13::_) _ _ _ _;(refine yn rfl rfl (h:=zH (h:=zj (f:=131) rfl Tryz.call131 (h:=AEq.sub' [4,5,6] (by refine⟨?_,?_,?_,?_,trivial⟩<;>(first|exact zD (by rfl) (by rfl)|exact zq id id)) suT (zot _ _ _ _ _ _ z fl y hsl hll hol hlb vxs vs vm hx hok hz b xt st mt hQ) (by rfl) (hq:=zl ⟨rfl,rfl⟩)))) (hk:=?_))))|refine hK _ _ ?_;clear hK K)
 have hwg:=(zcL (n:=pd) hg0 hg1)
 refine zN [6,7,11,39,40,41,42,43,44,45,46,47,48,49,50,51,52,53,54,55,56,57,58,59,60,61,62,63,64,65,66] (fun x:BS=>[(39,i64 x.i),(7,.sl false false (x.b.map zk))]) (fun x=>[.box [.ptr 1 0,.ptr 4 0,.row 7 (x.N)],.box [.ptr 2 0],.box [.row 3 (us),i64 (zC uxs),i64 um],.row (us) 103 3 (uxs.map flA),.box [.ptr 5 0],.box [.row 6 (st),i64 (zC xt),i64 mt],.row (st) 103 3 (xt.map flA),.row (x.N) 45 6 ((x.O).map frA),.box [i64 1,i64 t,i64 g,i64 s,i64 p,.sl fd false (d.map zk),.sl fs false (e.map z7),i64 wt,i64 pa,bl al,i64 pr,i64 la,i64 co,i64 sp,bl bk,.sl ff false (fl.map flA)],.box [.sl zf false (z.map yz),.sl yf false (y.map opA),.sl pf false (ps.map yz),i64 pd],.box [i64 x.F.t,i64 x.F.g,i64 x.F.s,i64 x.F.p,.sl x.F.fd false (x.F.d.map zk),.sl x.F.fs false (x.F.st.map z7),i64 x.F.wt,i64 x.F.pa,bl x.F.al,i64 x.F.pr,i64 x.F.la,i64 x.F.co,i64 x.F.sp]]) (BOk 1 s ps n o (L,ok)) (fun x=>ps.length-x.i) ⟨0,b,⟨t,wgG g pd,s,wpG p pd,fd,d,fs,e,wt,pa,al,pr,la,co,sp⟩,o,n⟩ ⟨Nat.zero_le _,hb,hwg,hel,Nat.le_refl _,Nat.le_refl _,[],by simp,rfl,by rw[<-hR];rfl⟩ ?_ rfl ?_
 ·(refine⟨⟨_,sT,?_⟩,⟨_,sT,?_⟩,trivial⟩<;>(try exact zu))
 ·rintro⟨i,b,F,O,N⟩ hs
  simp only[yN,List.map_cons,List.map_nil,List.cons_append,List.nil_append]
  obtain⟨hi,hbl,hFg,hFe,hNN,hOO,_⟩:=id hs
  dsimp only at hi hbl hFg hFe hNN hOO
  by_cases hlt:i<ps.length
  ·obtain⟨x,hd⟩:=vR hlt
   have hdr:=kp hd
   have hcu:0<=cuK x b/\cuK x b<=b.length:=by unfold cuK;omega
   have hcd2:(b.drop (cuK x b).toNat).length<=100000:=by rw[List.length_drop];omega
   have hmm:min (max x 0) (b.length:Int)=cuK x b:=rfl
   have htl:(b.take (cuK x b).toNat).length<=900000:=by rw[List.length_take];omega
   by_cases hem:emG 1 (fdG (gm F) (b.take (cuK x b).toNat))
   ·have hs2:=zvu hs hdr hem hlt
    have hU:=And.intro @hmm ( And.intro @beqN ( And.intro @eocI (@eocB)))
    repeat'(first|refine goR ?_|refine zd fun K hK=>?_|refine zc ?_ ?_<;>intro hcd<;>(try simp only[hcP]at hcd)<;>try exact cdT|(refine zj (f:=120) rfl Tryz.call120 (h:=AEq.sub' [0,1,2,3,4,5,6,7] (by refine⟨?_,?_,?_,trivial⟩<;>(first|exact zD (by rfl) (by rfl)|exact zi|exact zL ⟨zi,zi,zi,zi,zq id id,zq id id,zi,zi,zi,zi,zi,zi,zi,trivial⟩)) suT (zaN 1 N O us uxs um st xt mt F.t F.g F.s F.p false (b.take (cuK x b).toNat) F.fs F.st F.wt F.pa F.al F.pr F.la F.co F.sp htl hFe (by omega) (by omega) hem) (by rfl) (hq:=?_)))|(guard_target =~ SOp _ _ ⟨_,.slice _ _ _ _ _,_,_,_,none⟩ _ _ _;refine z8 rfl (hg:=(fun _=>gT)) (hK:=?_))|refine y1o ?_|refine y10 ?_|refine y1p ?_|refine hK _ _ ?_;clear hK K)
    refine⟨_,[0,1,2,3,4,5,6,7,8,9,10],hs2,by(first|omega|(dsimp only;omega)),rfl,?_,arT,?_⟩
    ·(refine⟨⟨_,sT,?_⟩,⟨_,sT,?_⟩,trivial⟩<;>(try exact zu))
    ·first|rfl|(simp(disch:=omega)only[go_sem,seval,↓reduceIte,hmm,beqN,eocI,eocB];done)|(simp(disch:=omega)only[go_sem,seval,↓reduceIte,hmm,beqN,eocI,eocB];rfl)|trace_state
   ·obtain⟨e1,e2,e3⟩:=zvv hs hdr hem
    dsimp only at e1 e2 e3
    obtain rfl:ok=false:=e1
    obtain rfl:O=O2:=by rw[<-e2,hO2]
    obtain rfl:N=N2:=by rw[<-e3,hN2]
    have hU:=And.intro @hmm ( And.intro @beqN ( And.intro @eocI (@eocB)))
    repeat'(first|refine goR ?_|refine zd fun K hK=>?_|refine zc ?_ ?_<;>intro hcd<;>(try simp only[hcP]at hcd)<;>try exact cdT|(refine zj (f:=120) rfl Tryz.call120 (h:=AEq.sub' [0,1,2,3,4,5,6,7] (by refine⟨?_,?_,?_,trivial⟩<;>(first|exact zD (by rfl) (by rfl)|exact zi|exact zL ⟨zi,zi,zi,zi,zq id id,zq id id,zi,zi,zi,zi,zi,zi,zi,trivial⟩)) suT (zcM 1 N O us uxs um st xt mt F.t F.g F.s F.p false (b.take (cuK x b).toNat) F.fs F.st F.wt F.pa F.al F.pr F.la F.co F.sp htl hFe (by omega) (by omega) hem) (by rfl) (hq:=?_)))|refine y1o ?_|refine y10 ?_|refine y1p ?_|((refine zo [0,1,2,3,4,5,6,7] (by rw[Tryz.results119,Lf.zI]) (zw ?_) ?_)<;>(try exact uT))|refine hK _ _ ?_;clear hK K)
  ·have hil : i = ps.length := by omega
   subst hil
   obtain⟨hy,hn⟩:=zvw hs _ rfl
   have hio:=znx hFg.1 hFg.2
   have hob:=zny hFg.1 hFg.2 4 (.inl rfl)
   by_cases hem:emG 1 ⟨F.t,onF F.g 4,F.s,F.p,b,F.st,F.wt,F.pa,F.al,F.pr,F.la,F.co,F.sp⟩
   ·obtain⟨e1,e2,e3⟩:=hy hem
    dsimp only at e1 e2 e3
    obtain rfl:ok=true:=e1
    rw[hO2]at e2
    rw[hN2]at e3
    subst e2
    subst e3
    have hU:=And.intro @hio ( And.intro @beqN ( And.intro @eocI (@eocB)))
    repeat'(first|refine goR ?_|refine zd fun K hK=>?_|refine zc ?_ ?_<;>intro hcd<;>(try simp only[hcP]at hcd)<;>try exact cdT|(refine zj (f:=120) rfl Tryz.call120 (h:=AEq.sub' [0,1,2,3,4,5,6,7] (by refine⟨?_,?_,?_,trivial⟩<;>(first|exact zD (by rfl) (by rfl)|exact zi|exact zL ⟨zi,zi,zi,zi,zq id id,zq id id,zi,zi,zi,zi,zi,zi,zi,trivial⟩)) suT (zaN 1 N O us uxs um st xt mt F.t (onF F.g 4) F.s F.p false b F.fs F.st F.wt F.pa F.al F.pr F.la F.co F.sp (by omega) hFe (by omega) (by omega) hem) (by rfl) (hq:=?_)))|((refine zo [0,1,2,3,4,5,6,7] (by rw[Tryz.results119,Lf.zI]) (zw ?_) ?_)<;>(try exact uT))|refine hK _ _ ?_;clear hK K|(apply_assumption (exfalso:=false) (symm:=false)))
   ·obtain⟨e1,e2,e3⟩:=hn hem
    dsimp only at e1 e2 e3
    obtain rfl:ok=false:=e1
    obtain rfl:O=O2:=by rw[<-e2,hO2]
    obtain rfl:N=N2:=by rw[<-e3,hN2]
    have hU:=And.intro @hio ( And.intro @beqN ( And.intro @eocI (@eocB)))
    repeat'(first|refine goR ?_|refine zd fun K hK=>?_|refine zc ?_ ?_<;>intro hcd<;>(try simp only[hcP]at hcd)<;>try exact cdT|(refine zj (f:=120) rfl Tryz.call120 (h:=AEq.sub' [0,1,2,3,4,5,6,7] (by refine⟨?_,?_,?_,trivial⟩<;>(first|exact zD (by rfl) (by rfl)|exact zi|exact zL ⟨zi,zi,zi,zi,zq id id,zq id id,zi,zi,zi,zi,zi,zi,zi,trivial⟩)) suT (zcM 1 N O us uxs um st xt mt F.t (onF F.g 4) F.s F.p false b F.fs F.st F.wt F.pa F.al F.pr F.la F.co F.sp (by omega) hFe (by omega) (by omega) hem) (by rfl) (hq:=?_)))|((refine zo [0,1,2,3,4,5,6,7] (by rw[Tryz.results119,Lf.zI]) (zw ?_) ?_)<;>(try exact uT))|refine hK _ _ ?_;clear hK K|(apply_assumption (exfalso:=false) (symm:=false)))
end Go.Proofs.YtdalcgfnlbofdaaGreatDoor
