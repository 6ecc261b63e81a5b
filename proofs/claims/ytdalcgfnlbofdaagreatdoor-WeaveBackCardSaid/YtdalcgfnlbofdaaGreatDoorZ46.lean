import Derived.Test.YtdalcgfnlbofdaaGreatDoorZ45
import Derived.Test.YtdalcgfnlbofdaaGreatDoorZ44
import Derived.Test.YtdalcgfnlbofdaaGreatDoorZ39
set_option linter.unusedVariables false
set_option linter.unusedSimpArgs false
namespace Go.Proofs.YtdalcgfnlbofdaaGreatDoor
open Go Go.Lf Go.Proofs
attribute [local irreducible] Lf.rg Lf.ro Lf.PWp Lf.SOp Lf.ACall Lf.Scoped Lf.dg Lf.dw
set_option maxRecDepth 20000
set_option maxHeartbeats 4000000
section
theorem zrI{l:List Fl}{m g:Int}(h:zqW l m g=false): (l.length:Int)<=m/\∀f∈l,(f.n.size:Int)<=g/\(f.v.size:Int)<=g:=by
 unfold zqW at h
 split at h
 ·cases h
 ·exact⟨by omega,zks h⟩
def InI(x:ItF): Prop:=(x.f.d.length<=9223372036854775807/\x.f.st.length<=9223372036854775807/\x.fl.length<=9223372036854775807)/\-9223372036854775808<=x.f.g/\x.f.g<=9223372036854775807
def InY(y:WyF): Prop:=y.z.length<=9223372036854775807/\y.y.length<=9223372036854775807/\y.ps.length<=9223372036854775807
theorem zrJ{l:List ItF}{ws:List WyF}(h:zlb l ws=false)(hi:∀x∈l,InI x): l.length<=20/\ws.length<=20/\(∀x∈l,ItS x)/\(∀y∈ws,WyK y):=by
 unfold zlb at h
 split at h
 ·cases h
 ·rename_i h20
  split at h
  ·cases h
  ·rename_i hn
   have hn:zlr l=false:=by simpa using hn
   refine⟨by omega,by omega,fun x hx=>?_,fun y hy=>?_⟩
   ·have h1:=zlc hn x hx
    unfold zrx at h1
    simp only[Bool.or_eq_false_iff,decide_eq_false_iff_not]at h1
    obtain⟨h2,h3⟩:=zrI h1.2
    have h4:=(hi x hx).2
    exact⟨⟨by omega,by omega,h4,by omega,fun f hf=>by have:=h3 f hf;omega⟩,fun f hf=>by have:=h3 f hf;omega⟩
   ·have h1:=zld h y hy
    unfold zry at h1
    simp only[decide_eq_false_iff_not]at h1
    exact⟨by omega,by omega,by omega⟩
theorem zrK{x z:ItF}(h:itG z=itG x): z=⟨x.w,⟨x.f.t,x.f.g,x.f.s,x.f.p,z.f.fd,x.f.d,z.f.fs,x.f.st,x.f.wt,x.f.pa,x.f.al,x.f.pr,x.f.la,x.f.co,x.f.sp⟩,x.bk,z.ff,x.fl⟩:=by
 obtain⟨w,⟨t,g,s,p,fd,d,fs,e,wt,pa,al,pr,la,co,sp⟩,bk,ff,fl⟩:=x
 obtain⟨w',⟨t',g',s',p',fd',d',fs',e',wt',pa',al',pr',la',co',sp'⟩,bk',ff',fl'⟩:=z
 simp only[itG,gm,Itm.mk.injEq,Gm.mk.injEq]at h
 obtain⟨h1,⟨h2,h3,h4,h5,h6,h7,h8,h9,h10,h11,h12,h13,h14⟩,h15,h16⟩:=h
 subst_vars
 rfl
theorem zvL{l n:List ItF}(h:n.map itG=l.map itG){i:Nat}{x:ItF}(hx:l[i]?=some x): ∃fd fs ff,n[i]?=some ⟨x.w,⟨x.f.t,x.f.g,x.f.s,x.f.p,fd,x.f.d,fs,x.f.st,x.f.wt,x.f.pa,x.f.al,x.f.pr,x.f.la,x.f.co,x.f.sp⟩,x.bk,ff,x.fl⟩:=by
 have h1:(n.map itG)[i]?=some (itG x):=by rw[h,List.getElem?_map,hx];rfl
 rw[List.getElem?_map]at h1
 obtain⟨z,hz,e⟩:=Option.map_eq_some_iff.1 h1
 exact⟨_,_,_,by rw[hz,zrK e]⟩
theorem zEQ{ws:List WyF}(h:∀y∈ws,WyK y): ∀y∈ws.map wyZ,WyK y:=by
 intro y hy
 obtain⟨z,hz,rfl⟩:=List.mem_map.1 hy
 exact⟨(h z hz).za,(h z hz).ya,(h z hz).pa⟩
attribute [local irreducible] wvM unw zlb cm0 dt0
theorem zlk(l:List ItF)(ws:List WyF)(hl:l.length<=9223372036854775807)(hws:ws.length<=9223372036854775807)(hli0:∀x∈l,InI x)(hwi0:∀y∈ws,InY y): AEq Tryz.prog 6 [.sl false false (l.map itA),.sl false false (ws.map wyA)] [] (bl true) []:=by
 have hli:∀x∈l,x.f.d.length<=9223372036854775807/\x.f.st.length<=9223372036854775807/\x.fl.length<=9223372036854775807:=fun x hx=>(hli0 x hx).1
 have hwi:∀y∈ws,y.z.length<=9223372036854775807/\y.y.length<=9223372036854775807/\y.ps.length<=9223372036854775807:=hwi0
 cases hLg:zlb l ws with
 | true=>
  refine enT Tryz.func6 Tryz.ntmps6 ?_
  have hU:=@hLg
  repeat'(first|refine goR ?_|refine zd fun K hK=>?_|refine zc ?_ ?_<;>intro hcd<;>(try simp only[hcP]at hcd)<;>try exact cdT|refine y1R ?_|refine y1a ?_|((refine zo [] (by rw[Tryz.results6,Lf.zI]) (zw ?_) ?_)<;>(try exact uT))|refine hK _ _ ?_;clear hK K)
 | false=>
  obtain⟨b1,b2,b3,b4⟩:=zrJ hLg hli0
  have hl5:l.length<=100000:=by omega
  have hl6:l.length<=1000:=by omega
  have hw5:ws.length<=100000:=by omega
  have hwy:∀y∈ws,y.y.length<=100000:=fun y hy=>by have:=(b4 y hy).ya;omega
  have hlk:∀x∈l,ItK x:=fun x hx=>(b3 x hx).k
  have hzk:=zEQ b4
  have hzl:(ws.map wyZ).length<=1000:=by rw[List.length_map];omega
  have hG:(List.map wyG (List.map wyZ ws))=List.map wyG ws:=zy4 ws
  have main:∀R:Option (List Fr),wvM (ws.map wyG) 0 (l.map itG) dt0 dt0 frE=R->∀W,W=wvR R->((0<(ws.map wyZ).length/\wvR (wvM ((ws.map wyZ).map wyG) 0 (l.map itG) dt0 dt0 frE)=W)\/(ws=[]/\wvR (wvM (wy1.map wyG) 0 (l.map itG) dt0 dt0 frE)=W)):=by
   intro R hR W hW
   cases ws with
   | nil=>
    right
    refine⟨rfl,?_⟩
    rw[zvA,hW,<-hR];rfl
   | cons y ys=>
    left
    refine⟨by simp,?_⟩
    rw[hG,hR,hW]
  obtain⟨R,hR⟩:∃R,wvM (ws.map wyG) 0 (l.map itG) dt0 dt0 frE=R:=⟨_,rfl⟩
  cases R with
  | none=>
   rcases main none hR _ rfl with⟨hz0,hW⟩|⟨hws0,hW⟩
   ·have hW':wvR (wvM ((ws.map wyZ).map wyG) 0 (l.map itG) dt0 dt0 frE)=.tu [.sl true false [],i64 1]:=hW
    refine enT Tryz.func6 Tryz.ntmps6 ?_
    have hU:=And.intro @hLg (@hW')
    repeat'(first|refine goR ?_|refine zd fun K hK=>?_|refine zc ?_ ?_<;>intro hcd<;>(try simp only[hcP]at hcd)<;>try exact cdT|refine y1R ?_|refine y1u ?_|refine y1Q ?_|refine y1a ?_|refine y1v ?_|((refine zo [] (by rw[Tryz.results6,Lf.zI]) (zw ?_) ?_)<;>(try exact uT))|refine hK _ _ ?_;clear hK K)
   ·have hW':wvR (wvM (wy1.map wyG) 0 (l.map itG) dt0 dt0 frE)=.tu [.sl true false [],i64 1]:=hW
    subst hws0
    refine enT Tryz.func6 Tryz.ntmps6 ?_
    have hU:=And.intro @hLg (@hW')
    repeat'(first|refine goR ?_|refine zd fun K hK=>?_|refine zc ?_ ?_<;>intro hcd<;>(try simp only[hcP]at hcd)<;>try exact cdT|refine y1R ?_|refine y1u ?_|(refine zj (f:=25) rfl Tryz.call25 (h:=AEq.pure' agT (zhl _ _ _ _ _ (by assumption) (by assumption)) (hq:=?_)))|refine y1a ?_|refine y1v ?_|((refine zo [] (by rw[Tryz.results6,Lf.zI]) (zw ?_) ?_)<;>(try exact uT))|refine hK _ _ ?_;clear hK K)
  | some O=>
   obtain⟨hok,hol,c,hun,hco⟩:=zh6 ws b4 l b3 hl6 hR
   have hcl:c.o.length=l.length:=by
    have:=congrArg List.length hco
    rwa [List.length_map,List.length_map]at this
   have hcl5:c.o.length<=100000:=by omega
   have hU:zwr (unw O cm0)=.tu [.sl false false (c.o.map itA),i64 0]:=zoK hun
   have hni:∀x∈l,x.f.d.length<=1000000/\x.f.st.length<=1000000/\x.fl.length<=1000000:=fun x hx=>by
    obtain⟨k1,k2,k3,k4,k5⟩:=hlk x hx
    omega
   rcases main (some O) hR _ rfl with⟨hz0,hW⟩|⟨hws0,hW⟩
   ·have hW':wvR (wvM ((ws.map wyZ).map wyG) 0 (l.map itG) dt0 dt0 frE)=.tu [.sl false false (O.map frA),i64 0]:=hW
    refine enT Tryz.func6 Tryz.ntmps6 ?_
    have hU:=And.intro @hLg ( And.intro @hW' ( And.intro @hU (@hcl)))
    repeat'(first|refine goR ?_|refine zd fun K hK=>?_|refine zc ?_ ?_<;>intro hcd<;>(try simp only[hcP]at hcd)<;>try exact cdT|refine y1u ?_|refine y1Q ?_|refine y1a ?_|(refine zj (f:=20) rfl Tryz.call20 (h:=AEq.pure' agT (zzN _ _ _ (by assumption) (by assumption)) (hq:=?_)))|refine y1v ?_|refine hK _ _ ?_;clear hK K)
    refine zN [4,9,10,43,44,45,46,47,48,49,50,51,52,53,54,55,56,57,58,59,60,61,62,63,64,65,66,67,68] (fun i:Nat=>[(43,i64 i)]) (fun _=>[]) (fun i=>i<=l.length) (fun i=>l.length-i) 0 (Nat.zero_le _) ?_ (by first|rfl|(dsimp only;done)|(dsimp only;rfl)) ?_
    ·try dsimp only
     (refine⟨⟨_,sT,?_⟩,trivial⟩<;>(try exact zu))
    ·rintro i hi
     simp only[yN,List.map_cons,List.map_nil,List.cons_append,List.nil_append]
     by_cases hlt:i<l.length
     ·obtain⟨x,hx⟩:=vR hlt
      obtain⟨fd',fs',ff',hz⟩:=zvL hco hx
      obtain⟨hm1,hm2,hm3⟩:=hni _ (List.mem_of_getElem? hx)
      obtain⟨w,⟨xt,xg,xs,xp,xfd,xd,xfs,xe,xwt,xpa,xal,xpr,xla,xco,xsp⟩,bk,ff,fl⟩:=x
      dsimp only at hz hm1 hm2 hm3
      repeat'(first|refine goR ?_|refine zd fun K hK=>?_|refine y7 ?_|refine zc ?_ ?_<;>intro hcd<;>(try simp only[hcP]at hcd)<;>try exact cdT|(guard_target =~ dg _ _ _ _ _ _ _;first|(guard_target =~ dg _ _ _ (⟨_,.indexAddr _ _ _,_,_,_,some _⟩::_) _ _ _;(refine vz (x:=_) (h:=zeT (h:=zZ rfl (hK:=zl ⟨rfl,rfl⟩))) (hk:=?_)))|(guard_target =~ dg _ _ _ (⟨_,.indexAddr _ _ _,_,_,_,none⟩::_) _ _ _;(refine vz (x:=_) (h:=zH (h:=zZ rfl (hK:=zl ⟨rfl,rfl⟩))) (hk:=?_)))|(guard_target =~ dg _ _ _ (⟨_,.call ⟨.value (.func 28),_,_⟩,_,_,_,none⟩::_) _ _ _;(refine vz (x:=_) (h:=zH (h:=zj (f:=28) rfl Tryz.call28 (h:=AEq.pure' agT (zvE _ _ _ _ _ _ _ _ _ _ _ _ _ _ _ _ _ _ _ _ _ _ (by assumption) (by assumption) (by assumption)) (hq:=zl ⟨rfl,rfl⟩)))) (hk:=?_)))|(guard_target =~ dg _ _ _ (⟨_,.call ⟨.value (.func 23),_,_⟩,_,_,_,some _⟩::_) _ _ _;(refine vz (x:=_) (h:=zeT (h:=zj (f:=23) rfl Tryz.call23 (h:=AEq.pure' agT (zzO _ _ _ (by assumption)) (hq:=zl ⟨rfl,rfl⟩)))) (hk:=?_)))|(guard_target =~ dg _ _ _ (⟨_,.call ⟨.value (.func 29),_,_⟩,_,_,_,some _⟩::_) _ _ _;(refine vz (x:=_) (h:=zeT (h:=zj (f:=29) rfl Tryz.call29 (h:=AEq.pure' agT (zoN _ _ _ _ _ _ _ _ _ _ _ _ _ _ _ _ _ _ _ _ _ _ (by assumption) (by assumption) (by assumption)) (hq:=zl ⟨rfl,rfl⟩)))) (hk:=?_))))|refine hK _ _ ?_;clear hK K)
      refine⟨i+1,[],by omega,by omega,rfl,?_,arT,?_⟩
      ·try dsimp only
       (refine⟨⟨_,sT,?_⟩,trivial⟩<;>(try exact zu))
      ·try dsimp only
       first|rfl|(simp(disch:=omega)only[go_sem,seval,↓reduceIte,hLg,hW',hU,hcl];done)|(simp(disch:=omega)only[go_sem,seval,↓reduceIte,hLg,hW',hU,hcl];rfl)|trace_state
     ·exact wK
   ·have hW':wvR (wvM (wy1.map wyG) 0 (l.map itG) dt0 dt0 frE)=.tu [.sl false false (O.map frA),i64 0]:=hW
    subst hws0
    refine enT Tryz.func6 Tryz.ntmps6 ?_
    have hU:=And.intro @hLg ( And.intro @hW' ( And.intro @hU (@hcl)))
    repeat'(first|refine goR ?_|refine zd fun K hK=>?_|refine zc ?_ ?_<;>intro hcd<;>(try simp only[hcP]at hcd)<;>try exact cdT|refine y1u ?_|(refine zj (f:=25) rfl Tryz.call25 (h:=AEq.pure' agT (zhl _ _ _ _ _ (by assumption) (by assumption)) (hq:=?_)))|refine y1a ?_|(refine zj (f:=20) rfl Tryz.call20 (h:=AEq.pure' agT (zzN _ _ _ (by assumption) (by assumption)) (hq:=?_)))|refine y1v ?_|refine hK _ _ ?_;clear hK K)
    refine zN [4,9,10,43,44,45,46,47,48,49,50,51,52,53,54,55,56,57,58,59,60,61,62,63,64,65,66,67,68] (fun i:Nat=>[(43,i64 i)]) (fun _=>[]) (fun i=>i<=l.length) (fun i=>l.length-i) 0 (Nat.zero_le _) ?_ (by first|rfl|(dsimp only;done)|(dsimp only;rfl)) ?_
    ·try dsimp only
     (refine⟨⟨_,sT,?_⟩,trivial⟩<;>(try exact zu))
    ·rintro i hi
     simp only[yN,List.map_cons,List.map_nil,List.cons_append,List.nil_append]
     by_cases hlt:i<l.length
     ·obtain⟨x,hx⟩:=vR hlt
      obtain⟨fd',fs',ff',hz⟩:=zvL hco hx
      obtain⟨hm1,hm2,hm3⟩:=hni _ (List.mem_of_getElem? hx)
      obtain⟨w,⟨xt,xg,xs,xp,xfd,xd,xfs,xe,xwt,xpa,xal,xpr,xla,xco,xsp⟩,bk,ff,fl⟩:=x
      dsimp only at hz hm1 hm2 hm3
      repeat'(first|refine goR ?_|refine zd fun K hK=>?_|refine y7 ?_|refine zc ?_ ?_<;>intro hcd<;>(try simp only[hcP]at hcd)<;>try exact cdT|(guard_target =~ dg _ _ _ _ _ _ _;first|(guard_target =~ dg _ _ _ (⟨_,.indexAddr _ _ _,_,_,_,some _⟩::_) _ _ _;(refine vz (x:=_) (h:=zeT (h:=zZ rfl (hK:=zl ⟨rfl,rfl⟩))) (hk:=?_)))|(guard_target =~ dg _ _ _ (⟨_,.indexAddr _ _ _,_,_,_,none⟩::_) _ _ _;(refine vz (x:=_) (h:=zH (h:=zZ rfl (hK:=zl ⟨rfl,rfl⟩))) (hk:=?_)))|(guard_target =~ dg _ _ _ (⟨_,.call ⟨.value (.func 28),_,_⟩,_,_,_,none⟩::_) _ _ _;(refine vz (x:=_) (h:=zH (h:=zj (f:=28) rfl Tryz.call28 (h:=AEq.pure' agT (zvE _ _ _ _ _ _ _ _ _ _ _ _ _ _ _ _ _ _ _ _ _ _ (by assumption) (by assumption) (by assumption)) (hq:=zl ⟨rfl,rfl⟩)))) (hk:=?_)))|(guard_target =~ dg _ _ _ (⟨_,.call ⟨.value (.func 23),_,_⟩,_,_,_,some _⟩::_) _ _ _;(refine vz (x:=_) (h:=zeT (h:=zj (f:=23) rfl Tryz.call23 (h:=AEq.pure' agT (zzO _ _ _ (by assumption)) (hq:=zl ⟨rfl,rfl⟩)))) (hk:=?_)))|(guard_target =~ dg _ _ _ (⟨_,.call ⟨.value (.func 29),_,_⟩,_,_,_,some _⟩::_) _ _ _;(refine vz (x:=_) (h:=zeT (h:=zj (f:=29) rfl Tryz.call29 (h:=AEq.pure' agT (zoN _ _ _ _ _ _ _ _ _ _ _ _ _ _ _ _ _ _ _ _ _ _ (by assumption) (by assumption) (by assumption)) (hq:=zl ⟨rfl,rfl⟩)))) (hk:=?_))))|refine hK _ _ ?_;clear hK K)
      refine⟨i+1,[],by omega,by omega,rfl,?_,arT,?_⟩
      ·try dsimp only
       (refine⟨⟨_,sT,?_⟩,trivial⟩<;>(try exact zu))
      ·try dsimp only
       first|rfl|(simp(disch:=omega)only[go_sem,seval,↓reduceIte,hLg,hW',hU,hcl];done)|(simp(disch:=omega)only[go_sem,seval,↓reduceIte,hLg,hW',hU,hcl];rfl)|trace_state
     ·exact wK
end
theorem kr{α:Type}{g:α->List AV}{p:α->Prop}: ∀(ys:List (List AV)),(∀y∈ys,∃a,p a/\y=g a)->∃l:List α,(∀a∈l,p a)/\ys=l.map g
 | [],_=>⟨[],by simp,rfl⟩
 | y::ys,h=>by
  obtain⟨a,ha,rfl⟩:=h y List.mem_cons_self
  obtain⟨l,hl,rfl⟩:=kr ys (fun y hy=>h y (List.mem_cons_of_mem _ hy))
  exact⟨a::l,fun b hb=>by rcases List.mem_cons.1 hb with rfl|hb;exact ha;exact hl b hb,rfl⟩
theorem zll{k:Nat}{y:List AV}(h:Sh Tryz.prog (k+1) 3 y): ∃n:Int,True/\y=yz n:=by
 simp only[Sh,Tryz.underlying3]at h
 obtain⟨n,_,e⟩:=h
 exact⟨n,trivial,e⟩
theorem zrL{k:Nat}{y:List AV}(h:Sh Tryz.prog (k+2) 92 y): ∃s:Int×Int,True/\y=z7 s:=by
 simp only[Sh,Tryz.underlying92,Tryz.underlying3]at h
 obtain⟨h1,h2⟩:=h
 have a:=h2 _ (List.mem_cons_self)
 have b:=h2 _ (List.mem_cons_of_mem _ (List.mem_cons_self))
 simp only[ce3,Tryz.underlying3]at a b h1
 obtain⟨n,_,ha⟩:=a
 obtain⟨m,_,hb⟩:=b
 refine⟨(n,m),trivial,?_⟩
 rw[zAn]at h1
 match y,h1 with
 | [p,q],_=>
  simp at ha hb
  simp[z7,ha,hb]
theorem zvM{k:Nat}{y:List AV}(h:Sh Tryz.prog (k+2) 103 y): ∃f:Fl,True/\y=flA f:=by
 simp only[Sh,Tryz.underlying103,Tryz.underlying9,Tryz.underlying4]at h
 obtain⟨h1,h2⟩:=h
 have a0:=h2 _ (List.mem_cons_self)
 have a1:=h2 _ (List.mem_cons_of_mem _ (List.mem_cons_self))
 have a2:=h2 _ (List.mem_cons_of_mem _ (List.mem_cons_of_mem _ (List.mem_cons_self)))
 simp only[ce9,ce4,Tryz.underlying9,Tryz.underlying4]at a0 a1 a2 h1
 obtain⟨l,_,e0⟩:=a0
 obtain⟨m,_,e1⟩:=a1
 obtain⟨q,e2⟩:=a2
 rw[zwZ]at h1
 refine⟨⟨l,m,q⟩,trivial,?_⟩
 match y,h1 with
 | [y0,y1,y2],_=>
  simp at e0 e1 e2
  simp[flA,e0,e1,e2]
theorem zvN{k:Nat}{y:List AV}(h:Sh Tryz.prog (k+2) 143 y): ∃o:Op4,True/\y=opA o:=by
 simp only[Sh,Tryz.underlying143,Tryz.underlying4,Tryz.underlying3]at h
 obtain⟨h1,h2⟩:=h
 have a0:=h2 _ (List.mem_cons_self)
 have a1:=h2 _ (List.mem_cons_of_mem _ (List.mem_cons_self))
 have a2:=h2 _ (List.mem_cons_of_mem _ (List.mem_cons_of_mem _ (List.mem_cons_self)))
 have a3:=h2 _ (List.mem_cons_of_mem _ (List.mem_cons_of_mem _ (List.mem_cons_of_mem _ (List.mem_cons_self))))
 simp only[ce3,ce4,Tryz.underlying3,Tryz.underlying4]at a0 a1 a2 a3 h1
 obtain⟨n,_,e0⟩:=a0
 obtain⟨p,e1⟩:=a1
 obtain⟨q,e2⟩:=a2
 obtain⟨r,e3⟩:=a3
 rw[zxj]at h1
 refine⟨⟨n,p,q,r⟩,trivial,?_⟩
 match y,h1 with
 | [y0,y1,y2,y3],_=>
  simp at e0 e1 e2 e3
  simp[opA,e0,e1,e2,e3]
theorem znF{k:Nat}{y:List AV}(h:Sh Tryz.prog (k+1) 5 y): ∃b:UInt8,True/\y=zk b:=by
 obtain⟨b,e⟩:=zpu (k:=k) Tryz.underlying5 h
 exact⟨b,trivial,e⟩
theorem zlm{k:Nat}{y:List AV}(h:Sh Tryz.prog (k+4) 47 y): ∃(t g s p:Int) (d:List UInt8) (e:List (Int×Int)) (wt pa:Int) (al:Bool) (pr la co sp:Int),d.length<=9223372036854775807/\e.length<=9223372036854775807/\(-9223372036854775808<=g/\g<=9223372036854775807)/\y=[i64 t,i64 g,i64 s,i64 p,.sl false false (d.map zk),.sl false false (e.map z7),i64 wt,i64 pa,bl al,i64 pr,i64 la,i64 co,i64 sp]:=by
 simp only[Sh,Tryz.underlying47,Tryz.underlying3,Tryz.underlying4,Tryz.underlying43,Tryz.underlying23]at h
 obtain⟨h1,h2⟩:=h
 have f_t:=h2 _ (List.mem_cons_self)
 have f_g:=h2 _ (List.mem_cons_of_mem _ (List.mem_cons_self))
 have f_s:=h2 _ (List.mem_cons_of_mem _ (List.mem_cons_of_mem _ (List.mem_cons_self)))
 have f_p:=h2 _ (List.mem_cons_of_mem _ (List.mem_cons_of_mem _ (List.mem_cons_of_mem _ (List.mem_cons_self))))
 have f_d:=h2 _ (List.mem_cons_of_mem _ (List.mem_cons_of_mem _ (List.mem_cons_of_mem _ (List.mem_cons_of_mem _ (List.mem_cons_self)))))
 have f_e:=h2 _ (List.mem_cons_of_mem _ (List.mem_cons_of_mem _ (List.mem_cons_of_mem _ (List.mem_cons_of_mem _ (List.mem_cons_of_mem _ (List.mem_cons_self))))))
 have f_wt:=h2 _ (List.mem_cons_of_mem _ (List.mem_cons_of_mem _ (List.mem_cons_of_mem _ (List.mem_cons_of_mem _ (List.mem_cons_of_mem _ (List.mem_cons_of_mem _ (List.mem_cons_self)))))))
 have f_pa:=h2 _ (List.mem_cons_of_mem _ (List.mem_cons_of_mem _ (List.mem_cons_of_mem _ (List.mem_cons_of_mem _ (List.mem_cons_of_mem _ (List.mem_cons_of_mem _ (List.mem_cons_of_mem _ (List.mem_cons_self))))))))
 have f_al:=h2 _ (List.mem_cons_of_mem _ (List.mem_cons_of_mem _ (List.mem_cons_of_mem _ (List.mem_cons_of_mem _ (List.mem_cons_of_mem _ (List.mem_cons_of_mem _ (List.mem_cons_of_mem _ (List.mem_cons_of_mem _ (List.mem_cons_self)))))))))
 have f_pr:=h2 _ (List.mem_cons_of_mem _ (List.mem_cons_of_mem _ (List.mem_cons_of_mem _ (List.mem_cons_of_mem _ (List.mem_cons_of_mem _ (List.mem_cons_of_mem _ (List.mem_cons_of_mem _ (List.mem_cons_of_mem _ (List.mem_cons_of_mem _ (List.mem_cons_self))))))))))
 have f_la:=h2 _ (List.mem_cons_of_mem _ (List.mem_cons_of_mem _ (List.mem_cons_of_mem _ (List.mem_cons_of_mem _ (List.mem_cons_of_mem _ (List.mem_cons_of_mem _ (List.mem_cons_of_mem _ (List.mem_cons_of_mem _ (List.mem_cons_of_mem _ (List.mem_cons_of_mem _ (List.mem_cons_self)))))))))))
 have f_co:=h2 _ (List.mem_cons_of_mem _ (List.mem_cons_of_mem _ (List.mem_cons_of_mem _ (List.mem_cons_of_mem _ (List.mem_cons_of_mem _ (List.mem_cons_of_mem _ (List.mem_cons_of_mem _ (List.mem_cons_of_mem _ (List.mem_cons_of_mem _ (List.mem_cons_of_mem _ (List.mem_cons_of_mem _ (List.mem_cons_self))))))))))))
 have f_sp:=h2 _ (List.mem_cons_of_mem _ (List.mem_cons_of_mem _ (List.mem_cons_of_mem _ (List.mem_cons_of_mem _ (List.mem_cons_of_mem _ (List.mem_cons_of_mem _ (List.mem_cons_of_mem _ (List.mem_cons_of_mem _ (List.mem_cons_of_mem _ (List.mem_cons_of_mem _ (List.mem_cons_of_mem _ (List.mem_cons_of_mem _ (List.mem_cons_self)))))))))))))
 simp only[ce3,ce4,zAa,zz7,Tryz.underlying3,Tryz.underlying4,Tryz.underlying43,Tryz.underlying23]at f_t f_g f_s f_p f_d f_e f_wt f_pa f_al f_pr f_la f_co f_sp h1
 obtain⟨v_t,_,f_t⟩:=f_t
 obtain⟨v_g,hwg,f_g⟩:=f_g
 have hwg2:-9223372036854775808<=v_g/\v_g<=9223372036854775807:=by
  simp only[Lit.wf,IntKind.min,IntKind.max,IntKind.signed,IntKind.bits,Bool.and_eq_true,decide_eq_true_eq,if_true]at hwg
  omega
 obtain⟨v_s,_,f_s⟩:=f_s
 obtain⟨v_p,_,f_p⟩:=f_p
 obtain⟨yd,hld,hyd,f_d⟩:=f_d
 obtain⟨vd,_,rfl⟩:=kr (g:=zk) yd (fun y h=>znF (k:=k+1) (hyd y h))
 obtain⟨ye,hle,hye,f_e⟩:=f_e
 obtain⟨ve,_,rfl⟩:=kr (g:=z7) ye (fun y h=>zrL (k:=k) (hye y h))
 obtain⟨v_wt,_,f_wt⟩:=f_wt
 obtain⟨v_pa,_,f_pa⟩:=f_pa
 obtain⟨v_al,f_al⟩:=f_al
 obtain⟨v_pr,_,f_pr⟩:=f_pr
 obtain⟨v_la,_,f_la⟩:=f_la
 obtain⟨v_co,_,f_co⟩:=f_co
 obtain⟨v_sp,_,f_sp⟩:=f_sp
 refine⟨v_t,v_g,v_s,v_p,vd,ve,v_wt,v_pa,v_al,v_pr,v_la,v_co,v_sp,by simpa[maxLen]using hld,by simpa[maxLen]using hle,hwg2,?_⟩
 rw[zzn]at h1
 match y,h1 with
 | [q0,q1,q2,q3,q4,q5,q6,q7,q8,q9,q10,q11,q12],_=>
  simp at f_t f_g f_s f_p f_d f_e f_wt f_pa f_al f_pr f_la f_co f_sp
  simp[f_t,f_g,f_s,f_p,f_d,f_e,f_wt,f_pa,f_al,f_pr,f_la,f_co,f_sp]
theorem znG{k:Nat}{y:List AV}(h:Sh Tryz.prog (k+5) 73 y): ∃x:ItF,InI x/\y=itA x:=by
 unfold Sh at h
 simp only[Tryz.underlying73]at h
 obtain⟨h1,h2⟩:=h
 have a0:=h2 _ (List.mem_cons_self)
 have a1:=h2 _ (List.mem_cons_of_mem _ (List.mem_cons_self))
 have a2:=h2 _ (List.mem_cons_of_mem _ (List.mem_cons_of_mem _ (List.mem_cons_self)))
 have a3:=h2 _ (List.mem_cons_of_mem _ (List.mem_cons_of_mem _ (List.mem_cons_of_mem _ (List.mem_cons_self))))
 obtain⟨t,g,s,p,d,e,wt,pa,al,pr,la,co,sp,hd,he,hg,e1⟩:=zlm (k:=k) a1
 unfold Sh at a0 a2 a3
 simp only[ce3,ce4,zz5,Tryz.underlying3,Tryz.underlying4,Tryz.underlying22]at a0 a2 a3
 obtain⟨w,_,e0⟩:=a0
 obtain⟨bk,e2⟩:=a2
 obtain⟨ys,hly,hys,e3⟩:=a3
 obtain⟨fl,_,rfl⟩:=kr (g:=flA) ys (fun y h=>zvM (k:=k+1) (hys y h))
 refine⟨⟨w,⟨t,g,s,p,false,d,false,e,wt,pa,al,pr,la,co,sp⟩,bk,false,fl⟩,⟨⟨hd,he,by simpa[maxLen]using hly⟩,hg⟩,?_⟩
 rw[zzn]at e1
 rw[zAl]at h1
 match y,h1 with
 | [q0,q1,q2,q3,q4,q5,q6,q7,q8,q9,q10,q11,q12,q13,q14,q15],_=>
  simp at e0 e1 e2 e3
  simp[itA,e0,e1,e2,e3]
theorem zrM{k:Nat}{y:List AV}(h:Sh Tryz.prog (k+4) 133 y): ∃x:WyF,InY x/\y=wyA x:=by
 simp only[Sh,Tryz.underlying133,Tryz.underlying104,Tryz.underlying131,Tryz.underlying3]at h
 obtain⟨h1,h2⟩:=h
 have a0:=h2 _ (List.mem_cons_self)
 have a1:=h2 _ (List.mem_cons_of_mem _ (List.mem_cons_self))
 have a2:=h2 _ (List.mem_cons_of_mem _ (List.mem_cons_of_mem _ (List.mem_cons_self)))
 have a3:=h2 _ (List.mem_cons_of_mem _ (List.mem_cons_of_mem _ (List.mem_cons_of_mem _ (List.mem_cons_self))))
 simp only[ce3,zw1,zxb,Tryz.underlying3,Tryz.underlying104,Tryz.underlying131]at a0 a1 a2 a3 h1
 obtain⟨ys0,l0,m0,e0⟩:=a0
 obtain⟨ys1,l1,m1,e1⟩:=a1
 obtain⟨ys2,l2,m2,e2⟩:=a2
 obtain⟨n,_,e3⟩:=a3
 obtain⟨z,_,rfl⟩:=kr (g:=yz) ys0 (fun y h=>zll (k:=k+1) (m0 y h))
 obtain⟨o,_,rfl⟩:=kr (g:=opA) ys1 (fun y h=>zvN (k:=k) (m1 y h))
 obtain⟨ps,_,rfl⟩:=kr (g:=yz) ys2 (fun y h=>zll (k:=k+1) (m2 y h))
 refine⟨⟨false,z,false,o,false,ps,n⟩,⟨by simpa[maxLen]using l0,by simpa[maxLen]using l1,by simpa[maxLen]using l2⟩,?_⟩
 rw[zxd]at h1
 match y,h1 with
 | [q0,q1,q2,q3],_=>
  simp at e0 e1 e2 e3
  simp[wyA,e0,e1,e2,e3]
theorem znH{w:World}{a:Option Addr}{l c k:Nat}(h:∃xs,Sh Tryz.prog (k+6) 57 xs/\((∃x,xs=[x]/\VR [] rz0 w x (.slice a l c))\/VR [] rz0 w (.ag xs) (.slice a l c))):
    ∃s:List ItF,s.length<=9223372036854775807/\(∀x∈s,InI x)/\VR [] rz0 w (.sl false false (s.map itA)) (.slice a l c):=by
  obtain⟨ys,h1,h2,h3⟩:=zs1 Tryz.underlying57 h
  obtain⟨b,hb,rfl⟩:=kr (g:=itA) (p:=InI) ys (fun y hy=>znG (k:=k) (h2 y hy))
  exact⟨b,by simpa[maxLen]using h1,hb,h3⟩
theorem zrN{w:World}{a:Option Addr}{l c k:Nat}(h:∃xs,Sh Tryz.prog (k+6) 62 xs/\((∃x,xs=[x]/\VR [] rz0 w x (.slice a l c))\/VR [] rz0 w (.ag xs) (.slice a l c))):
    ∃s:List WyF,s.length<=9223372036854775807/\(∀x∈s,InY x)/\VR [] rz0 w (.sl false false (s.map wyA)) (.slice a l c):=by
  obtain⟨ys,h1,h2,h3⟩:=zs1 Tryz.underlying62 h
  obtain⟨b,hb,rfl⟩:=kr (g:=wyA) (p:=InY) ys (fun y hy=>zrM (k:=k+1) (h2 y hy))
  exact⟨b,by simpa[maxLen]using h1,hb,h3⟩
end Go.Proofs.YtdalcgfnlbofdaaGreatDoor
