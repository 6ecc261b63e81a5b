import Derived.Test.YtdalcgfnlbofdaaGreatDoorZ41
set_option linter.unusedVariables false
set_option linter.unusedSimpArgs false
namespace Go.Proofs.YtdalcgfnlbofdaaGreatDoor
open Go Go.Lf Go.Proofs
attribute [local irreducible] Lf.rg Lf.ro Lf.PWp Lf.SOp Lf.ACall Lf.Scoped Lf.dg Lf.dw
set_option maxRecDepth 20000
set_option maxHeartbeats 4000000
def frE: List Fr:=[]
def wy1: List WyF:=[⟨true,[],true,[],true,[],-1⟩]
def dt0: DT:=⟨xsE,0,4096⟩
noncomputable def wvM (ys:List Wy):Nat->List Itm->DT->DT->List Fr->Option (List Fr)
 | _,[],_,_,o=>some o
 | i,x::l,a,b,o=>
  if x.w=0 then(if(itM x (kx ys i) a).2.1=true then wvM ys (i+1) l (itM x (kx ys i) a).2.2 b (o++(itM x (kx ys i) a).1.map (rwF 0))else none)
  else if x.w=1 then(if(itM x (kx ys i) b).2.1=true then wvM ys (i+1) l a (itM x (kx ys i) b).2.2 (o++(itM x (kx ys i) b).1.map (rwF 1))else none)
  else none
def wvR(r:Option (List Fr)): AV:=match r with
 | some o=>.tu [.sl false false (o.map frA),i64 0]
 | none=>.tu [.sl true false [],i64 1]
theorem zrw{ys:List Wy}{i:Nat}{x:Itm}{l:List Itm}{a b:DT}{o:List Fr}{L:List Gm}{t:DT}(hw:x.w=0)(h:itM x (kx ys i) a=(L,true,t)): wvM ys i (x::l) a b o=wvM ys (i+1) l t b (o++L.map (rwF 0)):=by
 rw[wvM,if_pos hw,h];rfl
theorem zoL{ys:List Wy}{i:Nat}{x:Itm}{l:List Itm}{a b:DT}{o:List Fr}{L:List Gm}{t:DT}(hw:x.w=0)(h:itM x (kx ys i) a=(L,false,t)): wvM ys i (x::l) a b o=none:=by
 rw[wvM,if_pos hw,h];rfl
theorem zvx{ys:List Wy}{i:Nat}{x:Itm}{l:List Itm}{a b:DT}{o:List Fr}{L:List Gm}{t:DT}(hw:x.w=1)(h:itM x (kx ys i) b=(L,true,t)): wvM ys i (x::l) a b o=wvM ys (i+1) l a t (o++L.map (rwF 1)):=by
 rw[wvM,if_neg (by omega),if_pos hw,h];rfl
theorem zoM{ys:List Wy}{i:Nat}{x:Itm}{l:List Itm}{a b:DT}{o:List Fr}{L:List Gm}{t:DT}(hw:x.w=1)(h:itM x (kx ys i) b=(L,false,t)): wvM ys i (x::l) a b o=none:=by
 rw[wvM,if_neg (by omega),if_pos hw,h];rfl
theorem zvy{ys:List Wy}{i:Nat}{x:Itm}{l:List Itm}{a b:DT}{o:List Fr}(h0:¬x.w=0)(h1:¬x.w=1): wvM ys i (x::l) a b o=none:=by
 rw[wvM,if_neg h0,if_neg h1]
theorem zhk{ws:List WyF}{i:Nat}{y:WyF}(h:ws[i % ws.length]?=some y): kx (ws.map wyG) i=wyG y:=by
 unfold kx
 rw[List.length_map,List.getElem?_map,h];rfl
theorem zvz(i:Nat): kx (wy1.map wyG) i=kx [] i:=by
 unfold kx
 rw[show(wy1.map wyG).length=1 from rfl,Nat.mod_one];rfl
theorem zvA(l:List Itm): ∀(i:Nat) (a b:DT) (o:List Fr),wvM (wy1.map wyG) i l a b o=wvM [] i l a b o:=by
 induction l with
 | nil=>intros;rfl
 | cons x l ih=>
  intro i a b o
  rw[wvM,wvM,zvz]
  simp only[ih]
theorem zk9{w:Int}: ∀l:List Gm,(emP w l).1.length<=l.length
 | []=>Nat.le_refl _
 | f::l=>by
  by_cases h:emG w f
  ·rw[zfL h]
   simp only[List.length_cons]
   exact Nat.succ_le_succ (zk9 l)
  ·rw[zk6 h];exact Nat.zero_le _
theorem zla{s:Int}: ∀(ps:List Int) (f:Gm) (b:List UInt8),(frsG s ps f b).length=ps.length+1
 | [],f,b=>rfl
 | n::ps,f,b=>by
  rw[zk8]
  simp only[List.length_cons]
  rw[zla ps]
structure ItK(x:ItF): Prop where
 d:x.f.d.length<=1000
 e:x.f.st.length<=1000
 g:-9223372036854775808<=x.f.g/\x.f.g<=9223372036854775807
 n:x.fl.length<=12
 b:∀f∈x.fl,f.n.size<=300/\f.v.size<=300
structure WyK(y:WyF): Prop where
 za:y.z.length<=12
 ya:y.y.length<=100
 pa:y.ps.length<=100
theorem zcN{x:ItF}{y:WyF}{t:DT}{L:List Gm}{ok:Bool}{t':DT}{n:Nat}(h:itM (itG x) (wyG y) t=(L,ok,t'))(hx:ItK x)(hy:WyK y)(ht:TOk t)(hn:t.xs.length<=n)(hnn:n<=30000): TOk t'/\t'.xs.length<=n+12/\L.length<=101:=by
 rcases zb4 (itG x) (wyG y) t with⟨k1,e1⟩|⟨hR,k2,k3,k4,e1⟩|⟨hR,k2,k3,k4,e1⟩|⟨hR,k2,k3,k4,k5,e1⟩|⟨hR,k2,k3,k4,k5,e1⟩|⟨hR,k2,k3,k4,k5,e1⟩<;>rw[e1]at h<;>simp only[Prod.mk.injEq]at h<;>obtain⟨h1,h2,h3⟩:=h<;>subst h1<;>subst h3
 ·exact⟨ht,by omega,by simp⟩
 ·exact⟨ht,by omega,by simp⟩
 ·obtain ⟨a, b, _⟩ := zdL (Q := jL (wyG y).z (itG x).fl (wyG y).y t) rfl ht (by omega) k4 (by have := hy.za; show y.z.length <= _; omega) (by have := hx.n; show x.fl.length <= _; omega) (fun f hf => by have := hx.b f hf; omega)
  have hl:=hx.n
  have hf:=zk9 (w:=(itG x).w) (frsG (itG x).f.s (wyG y).ps (kA (itG x).f (wyG y).p) (jL (wyG y).z (itG x).fl (wyG y).y t).o)
  rw[zla]at hf
  have hp:=hy.pa
  refine⟨a,?_,?_⟩
  ·have:(itG x).fl.length=x.fl.length:=rfl
   omega
  ·have:(wyG y).ps.length=y.ps.length:=rfl
   omega
 ·exact⟨ht,by omega,by simp⟩
 ·exact⟨ht,by omega,by simp⟩
 ·exact⟨ht,by omega,by simp⟩
def wyE: List WyF:=[]
theorem wyE_l: wyE.length=0:=rfl
theorem zy3: ∀y∈wy1,WyK y:=by
 intro y hy
 rw[wy1,List.mem_singleton]at hy
 subst hy
 exact⟨by simp,by simp,by simp⟩
theorem orTG: (True\/False)=True:=by simp
theorem orFG: (False\/True)=True:=by simp
structure WS where
 (i N:Nat) (O:List Fr) (a b:DT)
structure WOk(l:List ItF)(W:List WyF)(x:WS): Prop where
 i:x.i<=l.length
 O:x.O.length<=x.i*101
 ta:TOk x.a
 tb:TOk x.b
 la:x.a.xs.length<=12*x.i
 lb:x.b.xs.length<=12*x.i
 r:wvM (W.map wyG) 0 (l.map itG) dt0 dt0 frE=wvM (W.map wyG) x.i ((l.drop x.i).map itG) x.a x.b x.O
def wmT: Nat->Sto
 | 0=>[.box [.lit (.pointer none),.lit (.pointer none),.row 1 0],.row 0 45 6 (frE.map frA)]
 | 1=>[.box [.ptr 1 0,.lit (.pointer none),.row 4 0],.box [.ptr 2 0],.box [.row 3 0,i64 (zC xsE),i64 4096],.row 0 103 3 (xsE.map flA),.row 0 45 6 (frE.map frA)]
 | _=>[.box [.ptr 1 0,.ptr 4 0,.row 7 (0)],.box [.ptr 2 0],.box [.row 3 (0),i64 (zC xsE),i64 4096],.row (0) 103 3 (xsE.map flA),.box [.ptr 5 0],.box [.row 6 (0),i64 (zC xsE),i64 4096],.row (0) 103 3 (xsE.map flA),.row (0) 45 6 ((frE).map frA)]
theorem zvB: wmT 0=[.box [.lit (.pointer none),.lit (.pointer none),.row 1 0],.row 0 45 6 (frE.map frA)]:=rfl
theorem zvC: wmT 1=[.box [.ptr 1 0,.lit (.pointer none),.row 4 0],.box [.ptr 2 0],.box [.row 3 0,i64 (zC xsE),i64 4096],.row 0 103 3 (xsE.map flA),.row 0 45 6 (frE.map frA)]:=rfl
theorem zvD: wmT 2=[.box [.ptr 1 0,.ptr 4 0,.row 7 (0)],.box [.ptr 2 0],.box [.row 3 (0),i64 (zC xsE),i64 4096],.row (0) 103 3 (xsE.map flA),.box [.ptr 5 0],.box [.row 6 (0),i64 (zC xsE),i64 4096],.row (0) 103 3 (xsE.map flA),.row (0) 45 6 ((frE).map frA)]:=rfl
def wmS(x:WS): Sto:=[.box [.ptr 1 0,.ptr 4 0,.row 7 (x.N)],.box [.ptr 2 0],.box [.row 3 (x.a.s),i64 (zC x.a.xs),i64 x.a.m],.row (x.a.s) 103 3 (x.a.xs.map flA),.box [.ptr 5 0],.box [.row 6 (x.b.s),i64 (zC x.b.xs),i64 x.b.m],.row (x.b.s) 103 3 (x.b.xs.map flA),.row (x.N) 45 6 ((x.O).map frA)]
theorem zb5: TOk dt0:=zqY (by decide) (by decide)
theorem zhl(f q f2 q2:Bool)(l:List ItF)(hl:l.length<=1000)(hli:∀x∈l,ItK x): AEq Tryz.prog 25 [.sl f q (l.map itA),.sl f2 q2 (wyE.map wyA)] [] (wvR (wvM (wy1.map wyG) 0 (l.map itG) dt0 dt0 frE)) []:=by
 refine enT Tryz.func25 Tryz.ntmps25 ?_
 have hU:=And.intro @wyE_l ( And.intro @beqN ( And.intro @eocI (@eocB)))
 repeat'(first|refine goR ?_|refine zd fun K hK=>?_|refine hK _ _ ?_;clear hK K)
 refine yE 0 2 45 6 (by decide) rfl rfl rfl ?_
 refine zN [7,12,13,14,15,16,17,18,19,20,21,22,23,24] (fun s:Nat=>[(12,i64 s)]) wmT (fun s=>s<=2) (fun s=>2-s) 0 (by decide) ?_ rfl ?_
 ·(refine⟨⟨_,sT,?_⟩,trivial⟩<;>(try exact zu))
 ·intro s hs
  simp only[yN,List.map_cons,List.map_nil,List.cons_append,List.nil_append]
  have h3:s=0\/s=1\/s=2:=by omega
  rcases h3 with rfl|rfl|rfl
  ·rw[zvB]
   repeat'(first|refine goR ?_|refine y1s ?_|refine zd fun K hK=>?_|refine zc ?_ ?_<;>intro hcd<;>(try simp only[hcP]at hcd)<;>try exact cdT|(guard_target =~ dw _ _ _ _ _ _ _ _ _ _;first|(guard_target =~ dw _ _ _ _ _ (2::_) _ _ _ _;(refine yn rfl rfl (h:=zH (h:=zj (f:=68) rfl Tryz.call68 (h:=AEq.sub' [] (hc:=zdK _ (by omega) (by omega)) (hq:=zl ⟨rfl,rfl⟩)))) (hk:=?_)))|((first|guard_target =~ dw _ _ _ _ _ (7::_) _ _ _ _|guard_target =~ dw _ _ _ _ _ (8::_) _ _ _ _);(refine kZ rfl rfl (h:=zH (h:=zz rfl (hK:=zl ⟨rfl,rfl⟩))) (hk:=?_)))|(guard_target =~ dw _ _ _ _ _ (9::_) _ _ _ _;(refine vg rfl rfl (h:=zaj (h:=zW rfl (hK:=zl ⟨rfl,rfl⟩))) (hk:=?_))))|refine hK _ _ ?_;clear hK K)
   refine⟨1,[0,4,2,3,1],by decide,by decide,rfl,?_,arT,rfl⟩
   (refine⟨⟨_,sT,?_⟩,trivial⟩<;>(try exact zu))
  ·rw[zvC]
   repeat'(first|refine goR ?_|refine y1s ?_|refine zd fun K hK=>?_|refine zc ?_ ?_<;>intro hcd<;>(try simp only[hcP]at hcd)<;>try exact cdT|(guard_target =~ dw _ _ _ _ _ _ _ _ _ _;first|(guard_target =~ dw _ _ _ _ _ (2::_) _ _ _ _;(refine yn rfl rfl (h:=zH (h:=zj (f:=68) rfl Tryz.call68 (h:=AEq.sub' [] (hc:=zdK _ (by omega) (by omega)) (hq:=zl ⟨rfl,rfl⟩)))) (hk:=?_)))|((first|guard_target =~ dw _ _ _ _ _ (7::_) _ _ _ _|guard_target =~ dw _ _ _ _ _ (8::_) _ _ _ _);(refine kZ rfl rfl (h:=zH (h:=zz rfl (hK:=zl ⟨rfl,rfl⟩))) (hk:=?_)))|(guard_target =~ dw _ _ _ _ _ (9::_) _ _ _ _;(refine vg rfl rfl (h:=zaj (h:=zW rfl (hK:=zl ⟨rfl,rfl⟩))) (hk:=?_))))|refine hK _ _ ?_;clear hK K)
   refine⟨2,[0,1,2,3,7,5,6,4],by decide,by decide,rfl,?_,arT,rfl⟩
   (refine⟨⟨_,sT,?_⟩,trivial⟩<;>(try exact zu))
  ·rw[zvD]
   repeat'(first|refine goR ?_|refine zd fun K hK=>?_|refine zc ?_ ?_<;>intro hcd<;>(try simp only[hcP]at hcd)<;>try exact cdT|(guard_target =~ SOp _ _ ⟨_,.buildSlice _ _ _,_,_,_,none⟩ _ _ _;refine ks (xs:=List.map (wyA) (wy1)) rfl (he:=eoT) (hc:=hcT) (hK:=?_))|refine hK _ _ ?_;clear hK K|(apply_assumption (exfalso:=false) (symm:=false)))
   ·have hwi:=zy3
    have hWl:0<wy1.length:=by decide
    refine zN [4,5,8,9,32,33,34,35,36,37,38,39,40,41,42,43,44,45,46,47,48] (fun s:WS=>[(32,i64 s.i)]) wmS (WOk l wy1) (fun s=>l.length-s.i) ⟨0,0,frE,dt0,dt0⟩ ⟨Nat.zero_le _,Nat.zero_le _,zb5,zb5,Nat.zero_le _,Nat.zero_le _,rfl⟩ ?_ rfl ?_
    ·have hU:=True.intro
     (refine⟨⟨_,sT,?_⟩,trivial⟩<;>(try exact zu))
    ·rintro⟨i,N,O,a,b⟩ ⟨hi,hO,hta,htb,hla,hlb,hr⟩
     dsimp only at hi hO hla hlb hr
     unfold wmS
     simp only[yN,List.map_cons,List.map_nil,List.cons_append,List.nil_append]
     by_cases hlt:i<l.length
     ·obtain⟨x,hd⟩:=vR hlt
      have hdr:=kp hd
      rw[hdr,List.map_cons]at hr
      have hxk:=hli x (List.mem_of_getElem? hd)
      have hlm:i % wy1.length<wy1.length:=Nat.mod_lt _ (by omega)
      obtain⟨y,hyd⟩:=vR hlm
      have hyk:=hwi y (List.mem_of_getElem? hyd)
      have hwy:=zhk hyd
      have hom:=zdJ i wy1.length
      obtain⟨w,⟨xt,xg,xs,xp,xfd,xd,xfs,xe,xwt,xpa,xal,xpr,xla,xco,xsp⟩,bk,ff,fl⟩:=x
      obtain⟨zf,z,yf,y,pf,ps,pd⟩:=y
      obtain⟨hxd,hxe,hxg,hxn,hxb0⟩:=id hxk
      obtain⟨hyz,hyy,hyp⟩:=id hyk
      dsimp only at hxd hxe hxg hxn hxb0 hyz hyy hyp
      have hxb:∀f∈fl,f.n.size<=1000/\f.v.size<=1000:=fun f hf=>by have:=hxb0 f hf;omega
      by_cases hw:w=0\/w=1
      ·rcases hw with hw | hw
       ·subst hw
        obtain⟨⟨L,ok,⟨xt',st',mt'⟩⟩,hM⟩:∃Q,itM (itG ⟨0,⟨xt,xg,xs,xp,xfd,xd,xfs,xe,xwt,xpa,xal,xpr,xla,xco,xsp⟩,bk,ff,fl⟩) (wyG ⟨zf,z,yf,y,pf,ps,pd⟩) a=Q:=⟨_,rfl⟩
        obtain⟨hT1,hT2,hT3⟩:=zcN hM hxk hyk hta hla (by omega)
        dsimp only at hT2
        cases ok with
        | false=>
         have hr2:=hr.trans (zoL rfl (by rw[hwy];exact hM))
         rw[hr2]
         have hU:=And.intro @hom ( And.intro @orTG (@orFG))
         exact wF
        | true=>
         have hr2:=hr.trans (zrw rfl (by rw[hwy];exact hM))
         have hU:=And.intro @hom ( And.intro @orTG (@orFG))
         repeat'(first|refine goR ?_|refine y1t ?_|refine zd fun K hK=>?_|refine zc ?_ ?_<;>intro hcd<;>(try simp only[hcP]at hcd)<;>try exact cdT|(guard_target =~ dw _ _ _ _ _ _ _ _ _ _;first|((first|guard_target =~ dw _ _ _ _ _ (7::_) _ _ _ _|guard_target =~ dw _ _ _ _ _ (8::_) _ _ _ _);(refine vp rfl rfl (h:=(fun τ=>zH (h:=zZ rfl (hK:=zl ⟨rfl,rfl⟩)))) (hk:=?_)))|(guard_target =~ dw _ _ _ _ _ (9::_) _ _ _ _;(refine yn rfl rfl (h:=zH (h:=zj (f:=69) rfl Tryz.call69 (h:=AEq.sub' [0,1,2,3,4,5,6,7] (by refine⟨?_,?_,?_,trivial⟩<;>(first|exact zD (by rfl) (by rfl)|exact zL ⟨zi,zi,zi,zi,zi,zq id id,zq id id,zi,zi,zi,zi,zi,zi,zi,zi,zq id id,trivial⟩|exact zL ⟨zq id id,zq id id,zq id id,zi,trivial⟩)) suT (zhi N O a.s a.xs a.m b.s b.xs b.m xt xg xs xp xfd xd xfs xe xwt xpa xal xpr xla xco xsp bk ff fl zf z yf y pf ps pd xt' st' mt' L true _ _ (by omega) (by omega) hxg.1 hxg.2 (by omega) hxn (by omega) hxb (by omega) (by omega) (by omega) hta hM rfl rfl) (by rfl) (hq:=zl ⟨rfl,rfl⟩)))) (hk:=?_))))|refine hK _ _ ?_;clear hK K)
         refine⟨⟨i+1,N+L.length,O++L.map (rwF 0),⟨xt',st',mt'⟩,b⟩,[0,1,2,3,4,5,6,7],⟨by dsimp only;omega,by dsimp only;rw[List.length_append,List.length_map];omega,hT1,htb,by dsimp only;omega,by dsimp only;omega,hr2⟩,by(first|omega|(dsimp only;omega)),rfl,?_,arT,?_⟩
         ·(refine⟨⟨_,sT,?_⟩,trivial⟩<;>(try exact zu))
         ·first|rfl|(simp(disch:=omega)only[go_sem,seval,↓reduceIte,hom,orTG,orFG];done)|(simp(disch:=omega)only[go_sem,seval,↓reduceIte,hom,orTG,orFG];rfl)|trace_state
       ·subst hw
        obtain⟨⟨L,ok,⟨xt',st',mt'⟩⟩,hM⟩:∃Q,itM (itG ⟨1,⟨xt,xg,xs,xp,xfd,xd,xfs,xe,xwt,xpa,xal,xpr,xla,xco,xsp⟩,bk,ff,fl⟩) (wyG ⟨zf,z,yf,y,pf,ps,pd⟩) b=Q:=⟨_,rfl⟩
        obtain⟨hT1,hT2,hT3⟩:=zcN hM hxk hyk htb hlb (by omega)
        dsimp only at hT2
        cases ok with
        | false=>
         have hr2:=hr.trans (zoM rfl (by rw[hwy];exact hM))
         rw[hr2]
         have hU:=And.intro @hom ( And.intro @orTG (@orFG))
         exact wG
        | true=>
         have hr2:=hr.trans (zvx rfl (by rw[hwy];exact hM))
         have hU:=And.intro @hom ( And.intro @orTG (@orFG))
         repeat'(first|refine goR ?_|refine y1t ?_|refine zd fun K hK=>?_|refine zc ?_ ?_<;>intro hcd<;>(try simp only[hcP]at hcd)<;>try exact cdT|(guard_target =~ dw _ _ _ _ _ _ _ _ _ _;first|((first|guard_target =~ dw _ _ _ _ _ (7::_) _ _ _ _|guard_target =~ dw _ _ _ _ _ (8::_) _ _ _ _);(refine vp rfl rfl (h:=(fun τ=>zH (h:=zZ rfl (hK:=zl ⟨rfl,rfl⟩)))) (hk:=?_)))|(guard_target =~ dw _ _ _ _ _ (9::_) _ _ _ _;(refine yn rfl rfl (h:=zH (h:=zj (f:=69) rfl Tryz.call69 (h:=AEq.sub' [0,1,2,3,4,5,6,7] (by refine⟨?_,?_,?_,trivial⟩<;>(first|exact zD (by rfl) (by rfl)|exact zL ⟨zi,zi,zi,zi,zi,zq id id,zq id id,zi,zi,zi,zi,zi,zi,zi,zi,zq id id,trivial⟩|exact zL ⟨zq id id,zq id id,zq id id,zi,trivial⟩)) suT (zhj N O a.s a.xs a.m b.s b.xs b.m xt xg xs xp xfd xd xfs xe xwt xpa xal xpr xla xco xsp bk ff fl zf z yf y pf ps pd xt' st' mt' L true _ _ (by omega) (by omega) hxg.1 hxg.2 (by omega) hxn (by omega) hxb (by omega) (by omega) (by omega) htb hM rfl rfl) (by rfl) (hq:=zl ⟨rfl,rfl⟩)))) (hk:=?_))))|refine hK _ _ ?_;clear hK K)
         refine⟨⟨i+1,N+L.length,O++L.map (rwF 1),a,⟨xt',st',mt'⟩⟩,[0,1,2,3,4,5,6,7],⟨by dsimp only;omega,by dsimp only;rw[List.length_append,List.length_map];omega,hta,hT1,by dsimp only;omega,by dsimp only;omega,hr2⟩,by(first|omega|(dsimp only;omega)),rfl,?_,arT,?_⟩
         ·(refine⟨⟨_,sT,?_⟩,trivial⟩<;>(try exact zu))
         ·first|rfl|(simp(disch:=omega)only[go_sem,seval,↓reduceIte,hom,orTG,orFG];done)|(simp(disch:=omega)only[go_sem,seval,↓reduceIte,hom,orTG,orFG];rfl)|trace_state
      ·have hbad : ¬ yD ⟨w, ⟨xt, xg, xs, xp, xd, xe, xwt, xpa, xal, xpr, xla, xco, xsp⟩, bk, fl⟩ \/ 255 < pd := .inl (fun h => hw h.1)
       have hr2:=hr.trans (zvy (fun h=>hw (.inl h)) (fun h=>hw (.inr h)))
       rw[hr2]
       have hU:=@hom
       exact wH
     ·have hil : i = l.length := by omega
      subst hil
      rw[List.drop_length]at hr
      have hr2:wvM (wy1.map wyG) 0 (l.map itG) dt0 dt0 frE=some O:=hr
      rw[hr2]
      have hU:=True.intro
      repeat'(first|refine goR ?_|refine zd fun K hK=>?_|refine zc ?_ ?_<;>intro hcd<;>(try simp only[hcP]at hcd)<;>try exact cdT|refine hK _ _ ?_;clear hK K|(apply_assumption (exfalso:=false) (symm:=false)))
      rw[hr2]
      exact wI
theorem zdW(f q f2 q2:Bool)(l:List ItF)(ws:List WyF)(hws0:0<ws.length)(hws:ws.length<=1000)(hwi:∀y∈ws,WyK y)(hl:l.length<=1000)(hli:∀x∈l,ItK x): AEq Tryz.prog 25 [.sl f q (l.map itA),.sl f2 q2 (ws.map wyA)] [] (wvR (wvM (ws.map wyG) 0 (l.map itG) dt0 dt0 frE)) []:=by
 refine enT Tryz.func25 Tryz.ntmps25 ?_
 have hU:=And.intro @beqN ( And.intro @eocI (@eocB))
 repeat'(first|refine goR ?_|refine zd fun K hK=>?_|refine hK _ _ ?_;clear hK K)
 refine yE 0 2 45 6 (by decide) rfl rfl rfl ?_
 refine zN [7,12,13,14,15,16,17,18,19,20,21,22,23,24] (fun s:Nat=>[(12,i64 s)]) wmT (fun s=>s<=2) (fun s=>2-s) 0 (by decide) ?_ rfl ?_
 ·(refine⟨⟨_,sT,?_⟩,trivial⟩<;>(try exact zu))
 ·intro s hs
  simp only[yN,List.map_cons,List.map_nil,List.cons_append,List.nil_append]
  have h3:s=0\/s=1\/s=2:=by omega
  rcases h3 with rfl|rfl|rfl
  ·rw[zvB]
   repeat'(first|refine goR ?_|refine y1s ?_|refine zd fun K hK=>?_|refine zc ?_ ?_<;>intro hcd<;>(try simp only[hcP]at hcd)<;>try exact cdT|(guard_target =~ dw _ _ _ _ _ _ _ _ _ _;first|(guard_target =~ dw _ _ _ _ _ (2::_) _ _ _ _;(refine yn rfl rfl (h:=zH (h:=zj (f:=68) rfl Tryz.call68 (h:=AEq.sub' [] (hc:=zdK _ (by omega) (by omega)) (hq:=zl ⟨rfl,rfl⟩)))) (hk:=?_)))|((first|guard_target =~ dw _ _ _ _ _ (7::_) _ _ _ _|guard_target =~ dw _ _ _ _ _ (8::_) _ _ _ _);(refine kZ rfl rfl (h:=zH (h:=zz rfl (hK:=zl ⟨rfl,rfl⟩))) (hk:=?_)))|(guard_target =~ dw _ _ _ _ _ (9::_) _ _ _ _;(refine vg rfl rfl (h:=zaj (h:=zW rfl (hK:=zl ⟨rfl,rfl⟩))) (hk:=?_))))|refine hK _ _ ?_;clear hK K)
   refine⟨1,[0,4,2,3,1],by decide,by decide,rfl,?_,arT,rfl⟩
   (refine⟨⟨_,sT,?_⟩,trivial⟩<;>(try exact zu))
  ·rw[zvC]
   repeat'(first|refine goR ?_|refine y1s ?_|refine zd fun K hK=>?_|refine zc ?_ ?_<;>intro hcd<;>(try simp only[hcP]at hcd)<;>try exact cdT|(guard_target =~ dw _ _ _ _ _ _ _ _ _ _;first|(guard_target =~ dw _ _ _ _ _ (2::_) _ _ _ _;(refine yn rfl rfl (h:=zH (h:=zj (f:=68) rfl Tryz.call68 (h:=AEq.sub' [] (hc:=zdK _ (by omega) (by omega)) (hq:=zl ⟨rfl,rfl⟩)))) (hk:=?_)))|((first|guard_target =~ dw _ _ _ _ _ (7::_) _ _ _ _|guard_target =~ dw _ _ _ _ _ (8::_) _ _ _ _);(refine kZ rfl rfl (h:=zH (h:=zz rfl (hK:=zl ⟨rfl,rfl⟩))) (hk:=?_)))|(guard_target =~ dw _ _ _ _ _ (9::_) _ _ _ _;(refine vg rfl rfl (h:=zaj (h:=zW rfl (hK:=zl ⟨rfl,rfl⟩))) (hk:=?_))))|refine hK _ _ ?_;clear hK K)
   refine⟨2,[0,1,2,3,7,5,6,4],by decide,by decide,rfl,?_,arT,rfl⟩
   (refine⟨⟨_,sT,?_⟩,trivial⟩<;>(try exact zu))
  ·rw[zvD]
   repeat'(first|refine goR ?_|refine zd fun K hK=>?_|refine zc ?_ ?_<;>intro hcd<;>(try simp only[hcP]at hcd)<;>try exact cdT|refine hK _ _ ?_;clear hK K|(apply_assumption (exfalso:=false) (symm:=false)))
   ·skip
    refine zN [4,5,8,9,32,33,34,35,36,37,38,39,40,41,42,43,44,45,46,47,48] (fun s:WS=>[(32,i64 s.i)]) wmS (WOk l ws) (fun s=>l.length-s.i) ⟨0,0,frE,dt0,dt0⟩ ⟨Nat.zero_le _,Nat.zero_le _,zb5,zb5,Nat.zero_le _,Nat.zero_le _,rfl⟩ ?_ rfl ?_
    ·have hU:=True.intro
     (refine⟨⟨_,sT,?_⟩,trivial⟩<;>(try exact zu))
    ·rintro⟨i,N,O,a,b⟩ ⟨hi,hO,hta,htb,hla,hlb,hr⟩
     dsimp only at hi hO hla hlb hr
     unfold wmS
     simp only[yN,List.map_cons,List.map_nil,List.cons_append,List.nil_append]
     by_cases hlt:i<l.length
     ·obtain⟨x,hd⟩:=vR hlt
      have hdr:=kp hd
      rw[hdr,List.map_cons]at hr
      have hxk:=hli x (List.mem_of_getElem? hd)
      have hlm:i % ws.length<ws.length:=Nat.mod_lt _ (by omega)
      obtain⟨y,hyd⟩:=vR hlm
      have hyk:=hwi y (List.mem_of_getElem? hyd)
      have hwy:=zhk hyd
      have hom:=zdJ i ws.length
      obtain⟨w,⟨xt,xg,xs,xp,xfd,xd,xfs,xe,xwt,xpa,xal,xpr,xla,xco,xsp⟩,bk,ff,fl⟩:=x
      obtain⟨zf,z,yf,y,pf,ps,pd⟩:=y
      obtain⟨hxd,hxe,hxg,hxn,hxb0⟩:=id hxk
      obtain⟨hyz,hyy,hyp⟩:=id hyk
      dsimp only at hxd hxe hxg hxn hxb0 hyz hyy hyp
      have hxb:∀f∈fl,f.n.size<=1000/\f.v.size<=1000:=fun f hf=>by have:=hxb0 f hf;omega
      by_cases hw:w=0\/w=1
      ·rcases hw with hw | hw
       ·subst hw
        obtain⟨⟨L,ok,⟨xt',st',mt'⟩⟩,hM⟩:∃Q,itM (itG ⟨0,⟨xt,xg,xs,xp,xfd,xd,xfs,xe,xwt,xpa,xal,xpr,xla,xco,xsp⟩,bk,ff,fl⟩) (wyG ⟨zf,z,yf,y,pf,ps,pd⟩) a=Q:=⟨_,rfl⟩
        obtain⟨hT1,hT2,hT3⟩:=zcN hM hxk hyk hta hla (by omega)
        dsimp only at hT2
        cases ok with
        | false=>
         have hr2:=hr.trans (zoL rfl (by rw[hwy];exact hM))
         rw[hr2]
         have hU:=And.intro @hom ( And.intro @orTG (@orFG))
         exact wF
        | true=>
         have hr2:=hr.trans (zrw rfl (by rw[hwy];exact hM))
         have hU:=And.intro @hom ( And.intro @orTG (@orFG))
         repeat'(first|refine goR ?_|refine y1t ?_|refine zd fun K hK=>?_|refine zc ?_ ?_<;>intro hcd<;>(try simp only[hcP]at hcd)<;>try exact cdT|(guard_target =~ dw _ _ _ _ _ _ _ _ _ _;first|((first|guard_target =~ dw _ _ _ _ _ (7::_) _ _ _ _|guard_target =~ dw _ _ _ _ _ (8::_) _ _ _ _);(refine vp rfl rfl (h:=(fun τ=>zH (h:=zZ rfl (hK:=zl ⟨rfl,rfl⟩)))) (hk:=?_)))|(guard_target =~ dw _ _ _ _ _ (9::_) _ _ _ _;(refine yn rfl rfl (h:=zH (h:=zj (f:=69) rfl Tryz.call69 (h:=AEq.sub' [0,1,2,3,4,5,6,7] (by refine⟨?_,?_,?_,trivial⟩<;>(first|exact zD (by rfl) (by rfl)|exact zL ⟨zi,zi,zi,zi,zi,zq id id,zq id id,zi,zi,zi,zi,zi,zi,zi,zi,zq id id,trivial⟩|exact zL ⟨zq id id,zq id id,zq id id,zi,trivial⟩)) suT (zhi N O a.s a.xs a.m b.s b.xs b.m xt xg xs xp xfd xd xfs xe xwt xpa xal xpr xla xco xsp bk ff fl zf z yf y pf ps pd xt' st' mt' L true _ _ (by omega) (by omega) hxg.1 hxg.2 (by omega) hxn (by omega) hxb (by omega) (by omega) (by omega) hta hM rfl rfl) (by rfl) (hq:=zl ⟨rfl,rfl⟩)))) (hk:=?_))))|refine hK _ _ ?_;clear hK K)
         refine⟨⟨i+1,N+L.length,O++L.map (rwF 0),⟨xt',st',mt'⟩,b⟩,[0,1,2,3,4,5,6,7],⟨by dsimp only;omega,by dsimp only;rw[List.length_append,List.length_map];omega,hT1,htb,by dsimp only;omega,by dsimp only;omega,hr2⟩,by(first|omega|(dsimp only;omega)),rfl,?_,arT,?_⟩
         ·(refine⟨⟨_,sT,?_⟩,trivial⟩<;>(try exact zu))
         ·first|rfl|(simp(disch:=omega)only[go_sem,seval,↓reduceIte,hom,orTG,orFG];done)|(simp(disch:=omega)only[go_sem,seval,↓reduceIte,hom,orTG,orFG];rfl)|trace_state
       ·subst hw
        obtain⟨⟨L,ok,⟨xt',st',mt'⟩⟩,hM⟩:∃Q,itM (itG ⟨1,⟨xt,xg,xs,xp,xfd,xd,xfs,xe,xwt,xpa,xal,xpr,xla,xco,xsp⟩,bk,ff,fl⟩) (wyG ⟨zf,z,yf,y,pf,ps,pd⟩) b=Q:=⟨_,rfl⟩
        obtain⟨hT1,hT2,hT3⟩:=zcN hM hxk hyk htb hlb (by omega)
        dsimp only at hT2
        cases ok with
        | false=>
         have hr2:=hr.trans (zoM rfl (by rw[hwy];exact hM))
         rw[hr2]
         have hU:=And.intro @hom ( And.intro @orTG (@orFG))
         exact wG
        | true=>
         have hr2:=hr.trans (zvx rfl (by rw[hwy];exact hM))
         have hU:=And.intro @hom ( And.intro @orTG (@orFG))
         repeat'(first|refine goR ?_|refine y1t ?_|refine zd fun K hK=>?_|refine zc ?_ ?_<;>intro hcd<;>(try simp only[hcP]at hcd)<;>try exact cdT|(guard_target =~ dw _ _ _ _ _ _ _ _ _ _;first|((first|guard_target =~ dw _ _ _ _ _ (7::_) _ _ _ _|guard_target =~ dw _ _ _ _ _ (8::_) _ _ _ _);(refine vp rfl rfl (h:=(fun τ=>zH (h:=zZ rfl (hK:=zl ⟨rfl,rfl⟩)))) (hk:=?_)))|(guard_target =~ dw _ _ _ _ _ (9::_) _ _ _ _;(refine yn rfl rfl (h:=zH (h:=zj (f:=69) rfl Tryz.call69 (h:=AEq.sub' [0,1,2,3,4,5,6,7] (by refine⟨?_,?_,?_,trivial⟩<;>(first|exact zD (by rfl) (by rfl)|exact zL ⟨zi,zi,zi,zi,zi,zq id id,zq id id,zi,zi,zi,zi,zi,zi,zi,zi,zq id id,trivial⟩|exact zL ⟨zq id id,zq id id,zq id id,zi,trivial⟩)) suT (zhj N O a.s a.xs a.m b.s b.xs b.m xt xg xs xp xfd xd xfs xe xwt xpa xal xpr xla xco xsp bk ff fl zf z yf y pf ps pd xt' st' mt' L true _ _ (by omega) (by omega) hxg.1 hxg.2 (by omega) hxn (by omega) hxb (by omega) (by omega) (by omega) htb hM rfl rfl) (by rfl) (hq:=zl ⟨rfl,rfl⟩)))) (hk:=?_))))|refine hK _ _ ?_;clear hK K)
         refine⟨⟨i+1,N+L.length,O++L.map (rwF 1),a,⟨xt',st',mt'⟩⟩,[0,1,2,3,4,5,6,7],⟨by dsimp only;omega,by dsimp only;rw[List.length_append,List.length_map];omega,hta,hT1,by dsimp only;omega,by dsimp only;omega,hr2⟩,by(first|omega|(dsimp only;omega)),rfl,?_,arT,?_⟩
         ·(refine⟨⟨_,sT,?_⟩,trivial⟩<;>(try exact zu))
         ·first|rfl|(simp(disch:=omega)only[go_sem,seval,↓reduceIte,hom,orTG,orFG];done)|(simp(disch:=omega)only[go_sem,seval,↓reduceIte,hom,orTG,orFG];rfl)|trace_state
      ·have hbad : ¬ yD ⟨w, ⟨xt, xg, xs, xp, xd, xe, xwt, xpa, xal, xpr, xla, xco, xsp⟩, bk, fl⟩ \/ 255 < pd := .inl (fun h => hw h.1)
       have hr2:=hr.trans (zvy (fun h=>hw (.inl h)) (fun h=>hw (.inr h)))
       rw[hr2]
       have hU:=@hom
       exact wH
     ·have hil : i = l.length := by omega
      subst hil
      rw[List.drop_length]at hr
      have hr2:wvM (ws.map wyG) 0 (l.map itG) dt0 dt0 frE=some O:=hr
      rw[hr2]
      have hU:=True.intro
      repeat'(first|refine goR ?_|refine zd fun K hK=>?_|refine zc ?_ ?_<;>intro hcd<;>(try simp only[hcP]at hcd)<;>try exact cdT|refine hK _ _ ?_;clear hK K|(apply_assumption (exfalso:=false) (symm:=false)))
      rw[hr2]
      exact wI
end Go.Proofs.YtdalcgfnlbofdaaGreatDoor
