import Derived.Test.YtdalcgfnlbofdaaGreatDoorZ38
import Derived.Test.YtdalcgfnlbofdaaGreatDoorZ34
import Derived.Test.YtdalcgfnlbofdaaGreatDoorZ35
set_option linter.unusedVariables false
set_option linter.unusedSimpArgs false
namespace Go.Proofs.YtdalcgfnlbofdaaGreatDoor
open Go Go.Lf Go.Proofs
attribute [local irreducible] Lf.rg Lf.ro Lf.PWp Lf.SOp Lf.ACall Lf.Scoped Lf.dg Lf.dw
set_option maxRecDepth 20000
set_option maxHeartbeats 4000000
def cmT: Nat->Sto
 | 0=>[.box [.lit (.pointer none),.lit (.pointer none),.lit (.pointer none),.lit (.pointer none),.row 1 0],.row 0 70 16 (oE.map itA)]
 | 1=>[.box [.ptr 1 0,.lit (.pointer none),.ptr 3 0,.lit (.pointer none),.row 6 0],.box [i64 1048576,bl false,i64 0,i64 0,i64 0,i64 0,.sl true false [],.sl true false [],i64 0,i64 0,bl false,i64 0,i64 0,i64 0,i64 0,.row 2 0],.row 0 5 1 [],.box [.ptr 4 0],.box [.row 5 0,i64 (zC xsE),i64 4096],.row 0 103 3 (xsE.map flA),.row 0 70 16 (oE.map itA)]
 | _=>[.box [.ptr 1 0,.ptr 3 0,.ptr 5 0,.ptr 8 0,.row 11 0],.box [i64 1048576,bl false,i64 0,i64 0,i64 0,i64 0,.sl true false [],.sl true false [],i64 0,i64 0,bl false,i64 0,i64 0,i64 0,i64 0,.row 2 0],.row 0 5 1 [],.box [i64 1048576,bl false,i64 0,i64 0,i64 0,i64 0,.sl true false [],.sl true false [],i64 0,i64 0,bl false,i64 0,i64 0,i64 0,i64 0,.row 4 0],.row 0 5 1 [],.box [.ptr 6 0],.box [.row 7 0,i64 (zC xsE),i64 4096],.row 0 103 3 (xsE.map flA),.box [.ptr 9 0],.box [.row 10 0,i64 (zC xsE),i64 4096],.row 0 103 3 (xsE.map flA),.row 0 70 16 (oE.map itA)]
theorem orTF: (True\/False)=True:=by simp
theorem orFT: (False\/True)=True:=by simp
theorem zyY: cmT 0=[.box [.lit (.pointer none),.lit (.pointer none),.lit (.pointer none),.lit (.pointer none),.row 1 0],.row 0 70 16 (oE.map itA)]:=rfl
theorem zyZ: cmT 1=[.box [.ptr 1 0,.lit (.pointer none),.ptr 3 0,.lit (.pointer none),.row 6 0],.box [i64 1048576,bl false,i64 0,i64 0,i64 0,i64 0,.sl true false [],.sl true false [],i64 0,i64 0,bl false,i64 0,i64 0,i64 0,i64 0,.row 2 0],.row 0 5 1 [],.box [.ptr 4 0],.box [.row 5 0,i64 (zC xsE),i64 4096],.row 0 103 3 (xsE.map flA),.row 0 70 16 (oE.map itA)]:=rfl
theorem zy0: cmT 2=[.box [.ptr 1 0,.ptr 3 0,.ptr 5 0,.ptr 8 0,.row 11 0],.box [i64 1048576,bl false,i64 0,i64 0,i64 0,i64 0,.sl true false [],.sl true false [],i64 0,i64 0,bl false,i64 0,i64 0,i64 0,i64 0,.row 2 0],.row 0 5 1 [],.box [i64 1048576,bl false,i64 0,i64 0,i64 0,i64 0,.sl true false [],.sl true false [],i64 0,i64 0,bl false,i64 0,i64 0,i64 0,i64 0,.row 4 0],.row 0 5 1 [],.box [.ptr 6 0],.box [.row 7 0,i64 (zC xsE),i64 4096],.row 0 103 3 (xsE.map flA),.box [.ptr 9 0],.box [.row 10 0,i64 (zC xsE),i64 4096],.row 0 103 3 (xsE.map flA),.row 0 70 16 (oE.map itA)]:=rfl
def cmS(c:Cm): Sto:=[.box [.ptr 1 0,.ptr 3 0,.ptr 5 0,.ptr 8 0,.row 11 c.n],.box [i64 1048576,bl c.a0.on,i64 c.a0.f.t,i64 c.a0.f.g,i64 c.a0.f.s,i64 c.a0.f.p,.sl c.a0.f.fd false (c.a0.f.d.map zk),.sl c.a0.f.fs false [],i64 c.a0.f.wt,i64 c.a0.f.pa,bl c.a0.f.al,i64 c.a0.f.pr,i64 c.a0.f.la,i64 c.a0.f.co,i64 c.a0.f.sp,.row 2 c.a0.k],.row c.a0.k 5 1 (c.a0.x.map zk),.box [i64 1048576,bl c.a1.on,i64 c.a1.f.t,i64 c.a1.f.g,i64 c.a1.f.s,i64 c.a1.f.p,.sl c.a1.f.fd false (c.a1.f.d.map zk),.sl c.a1.f.fs false [],i64 c.a1.f.wt,i64 c.a1.f.pa,bl c.a1.f.al,i64 c.a1.f.pr,i64 c.a1.f.la,i64 c.a1.f.co,i64 c.a1.f.sp,.row 4 c.a1.k],.row c.a1.k 5 1 (c.a1.x.map zk),.box [.ptr 6 0],.box [.row 7 c.t0.s,i64 (zC c.t0.xs),i64 c.t0.m],.row c.t0.s 103 3 (c.t0.xs.map flA),.box [.ptr 9 0],.box [.row 10 c.t1.s,i64 (zC c.t1.xs),i64 c.t1.m],.row c.t1.s 103 3 (c.t1.xs.map flA),.row c.n 70 16 (c.o.map itA)]
theorem zrt(k:Nat)(x:List UInt8)(qt qg qs qp:Int)(qfd:Bool)(qd:List UInt8)(qfs:Bool)(qwt qpa:Int)(qal:Bool)(qpr qla qco qsp:Int): AEq Tryz.prog 61 [.ptr 0 0] [.box [i64 1048576,bl false,i64 qt,i64 qg,i64 qs,i64 qp,.sl qfd false (qd.map zk),.sl qfs false [],i64 qwt,i64 qpa,bl qal,i64 qpr,i64 qla,i64 qco,i64 qsp,.row 1 k],.row k 5 1 (x.map zk)] (.tu [i64 0,bl false]) [.box [i64 1048576,bl false,i64 qt,i64 qg,i64 qs,i64 qp,.sl qfd false (qd.map zk),.sl qfs false [],i64 qwt,i64 qpa,bl qal,i64 qpr,i64 qla,i64 qco,i64 qsp,.row 1 k],.row k 5 1 (x.map zk)]:=by
 refine enT Tryz.func61 Tryz.ntmps61 ?_
 have hU:=True.intro
 exact ww
theorem zb3(on:Bool)(k:Nat)(x:List UInt8)(qt qg qs qp:Int)(qfd:Bool)(qd:List UInt8)(qfs:Bool)(qwt qpa:Int)(qal:Bool)(qpr qla qco qsp:Int): AEq Tryz.prog 61 [.ptr 0 0] [.box [i64 1048576,bl on,i64 qt,i64 qg,i64 qs,i64 qp,.sl qfd false (qd.map zk),.sl qfs false [],i64 qwt,i64 qpa,bl qal,i64 qpr,i64 qla,i64 qco,i64 qsp,.row 1 k],.row k 5 1 (x.map zk)] (.tu [i64 (sI on qs 0),bl on]) [.box [i64 1048576,bl on,i64 qt,i64 qg,i64 qs,i64 qp,.sl qfd false (qd.map zk),.sl qfs false [],i64 qwt,i64 qpa,bl qal,i64 qpr,i64 qla,i64 qco,i64 qsp,.row 1 k],.row k 5 1 (x.map zk)]:=by
 cases on with
 | true=>exact zng k x qt qg qs qp qfd qd qfs qwt qpa qal qpr qla qco qsp
 | false=>exact zrt k x qt qg qs qp qfd qd qfs qwt qpa qal qpr qla qco qsp
theorem zzN(f q:Bool)(l:List Fr)(hl:l.length<=1000000)(hok:UOk l cm0): AEq Tryz.prog 20 [.sl f q (l.map frA)] [] (zwr (unw l cm0)) []:=by
 refine enT Tryz.func20 Tryz.ntmps20 ?_
 have hU:=And.intro @beqN ( And.intro @eocI (@eocB))
 repeat'(first|refine goR ?_|refine zd fun K hK=>?_|refine hK _ _ ?_;clear hK K)
 refine yE 0 4 70 16 (by decide) rfl rfl rfl ?_
 refine zN [5,14,15,16,17,18,19,20,21,22,23,24,25,26,27,28,29,30,31,32] (fun s:Nat=>[(14,i64 s)]) cmT (fun s=>s<=2) (fun s=>2-s) 0 (by decide) ?_ rfl ?_
 ·(refine⟨⟨_,sT,?_⟩,trivial⟩<;>(try exact zu))
 ·intro s hs
  simp only[yN,List.map_cons,List.map_nil,List.cons_append,List.nil_append]
  have h3:s=0\/s=1\/s=2:=by omega
  rcases h3 with rfl|rfl|rfl
  ·rw[zyY]
   repeat'(first|refine goR ?_|refine y29 ?_|refine y2a ?_|refine zd fun K hK=>?_|refine zc ?_ ?_<;>intro hcd<;>(try simp only[hcP]at hcd)<;>try exact cdT|(guard_target =~ dw _ _ _ _ _ _ _ _ _ _;first|(guard_target =~ dw _ _ _ _ _ (2::_) _ _ _ _;(refine yn rfl rfl (h:=zH (h:=zj (f:=57) rfl Tryz.call57 (h:=AEq.sub' [] (hc:=zzJ) (hq:=zl ⟨rfl,rfl⟩)))) (hk:=?_)))|((first|guard_target =~ dw _ _ _ _ _ (5::_) _ _ _ _|guard_target =~ dw _ _ _ _ _ (8::_) _ _ _ _);(refine kZ rfl rfl (h:=zH (h:=zz rfl (hK:=zl ⟨rfl,rfl⟩))) (hk:=?_)))|((first|guard_target =~ dw _ _ _ _ _ (6::_) _ _ _ _|guard_target =~ dw _ _ _ _ _ (9::_) _ _ _ _);(refine vg rfl rfl (h:=zaj (h:=zW rfl (hK:=zl ⟨rfl,rfl⟩))) (hk:=?_)))|(guard_target =~ dw _ _ _ _ _ (2::_) _ _ _ _;(refine yn rfl rfl (h:=zH (h:=zj (f:=58) rfl Tryz.call58 (h:=AEq.sub' [] (hc:=zkm _ (by omega) (by omega)) (hq:=zl ⟨rfl,rfl⟩)))) (hk:=?_))))|refine hK _ _ ?_;clear hK K)
   refine⟨1,[0,2,3,6,4,5,1],by decide,by decide,rfl,?_,arT,rfl⟩
   (refine⟨⟨_,sT,?_⟩,trivial⟩<;>(try exact zu))
  ·rw[zyZ]
   repeat'(first|refine goR ?_|refine y29 ?_|refine y2a ?_|refine zd fun K hK=>?_|refine zc ?_ ?_<;>intro hcd<;>(try simp only[hcP]at hcd)<;>try exact cdT|(guard_target =~ dw _ _ _ _ _ _ _ _ _ _;first|(guard_target =~ dw _ _ _ _ _ (2::_) _ _ _ _;(refine yn rfl rfl (h:=zH (h:=zj (f:=57) rfl Tryz.call57 (h:=AEq.sub' [] (hc:=zzJ) (hq:=zl ⟨rfl,rfl⟩)))) (hk:=?_)))|((first|guard_target =~ dw _ _ _ _ _ (5::_) _ _ _ _|guard_target =~ dw _ _ _ _ _ (8::_) _ _ _ _);(refine kZ rfl rfl (h:=zH (h:=zz rfl (hK:=zl ⟨rfl,rfl⟩))) (hk:=?_)))|((first|guard_target =~ dw _ _ _ _ _ (6::_) _ _ _ _|guard_target =~ dw _ _ _ _ _ (9::_) _ _ _ _);(refine vg rfl rfl (h:=zaj (h:=zW rfl (hK:=zl ⟨rfl,rfl⟩))) (hk:=?_)))|(guard_target =~ dw _ _ _ _ _ (2::_) _ _ _ _;(refine yn rfl rfl (h:=zH (h:=zj (f:=58) rfl Tryz.call58 (h:=AEq.sub' [] (hc:=zkm _ (by omega) (by omega)) (hq:=zl ⟨rfl,rfl⟩)))) (hk:=?_))))|refine hK _ _ ?_;clear hK K)
   refine⟨2,[0,1,2,7,8,3,4,5,11,9,10,6],by decide,by decide,rfl,?_,arT,rfl⟩
   (refine⟨⟨_,sT,?_⟩,trivial⟩<;>(try exact zu))
  ·rw[zy0]
   repeat'(first|refine goR ?_|refine zd fun K hK=>?_|refine zc ?_ ?_<;>intro hcd<;>(try simp only[hcP]at hcd)<;>try exact cdT|refine hK _ _ ?_;clear hK K|(apply_assumption (exfalso:=false) (symm:=false)))
   refine zN [2,3,7,35,36,37,38,39,40,41,42,43,44,45,46,47] (fun s:Nat×Cm=>[(35,i64 s.1)]) (fun s=>cmS s.2) (fun s=>s.1<=l.length/\UOk (l.drop s.1) s.2/\unw l cm0=unw (l.drop s.1) s.2) (fun s=>l.length-s.1) (0,cm0) ⟨Nat.zero_le _,hok,rfl⟩ ?_ rfl ?_
   ·have hU:=True.intro
    (refine⟨⟨_,sT,?_⟩,trivial⟩<;>(try exact zu))
   ·rintro⟨i,c⟩ ⟨hi,hu,hk⟩
    dsimp only at hi hu hk ⊢
    unfold cmS
    simp only[yN,List.map_cons,List.map_nil,List.cons_append,List.nil_append]
    by_cases hlt:i<l.length
    ·obtain⟨x,hd⟩:=vR hlt
     rw[kp hd]at hk hu
     obtain⟨hxb,hu⟩:=hu
     by_cases hw:x.w=0\/x.w=1
     ·by_cases hq:okQ (rqF x)
      ·obtain⟨hst,hu⟩:=hu hw hq
       obtain⟨xf,w,t,g,s,r,b⟩:=x
       dsimp only at hw hxb hst hu hk
       have hsd:decide (w=0\/w=1)=true:=decide_eq_true hw
       rcases zaA c w (vu ⟨xf,w,t,g,s,r,b⟩)with⟨k1,e⟩|⟨k1,k2,e⟩|⟨k1,k2,k3,e⟩|⟨k1,k2,k3,k4,e⟩|⟨k1,k2,k3,k4,k5,e⟩|⟨k1,k2,k3,k4,k5,e⟩
       ·rcases hw with hw | hw
        ·subst hw
         obtain⟨ha,hxx,hg,hyg,hyd,hys,hto,htl,hbb,hoo⟩:=hst
         have hr:=zaO (hk.trans (zk7 (.inl rfl) hq e)) (by decide)
         rw[hr]
         have hU:=And.intro @hsd ( And.intro @orTF (@orFT))
         repeat'(first|refine goR ?_|refine zd fun K hK=>?_|refine zc ?_ ?_<;>intro hcd<;>(try simp only[hcP]at hcd)<;>try exact cdT|refine yi ?_|(refine zj (f:=60) rfl Tryz.call60 (h:=AEq.sub' [0,1,2,3,4,5,6,7,8,9,10,11] (by refine⟨?_,?_,trivial⟩<;>(first|exact zD (by rfl) (by rfl)|exact zL ⟨zi,zi,zi,zi,zi,zq id id,trivial⟩)) suT (znp c.n c.a0.k c.a0.x c.o c.a0.on c.a0.f.t c.a0.f.g c.a0.f.s c.a0.f.p c.a0.f.fd c.a0.f.d c.a0.f.fs c.a0.f.wt c.a0.f.pa c.a0.f.al c.a0.f.pr c.a0.f.la c.a0.f.co c.a0.f.sp c.a1.on c.a1.f.t c.a1.f.g c.a1.f.s c.a1.f.p c.a1.f.fd c.a1.f.d c.a1.f.fs c.a1.f.wt c.a1.f.pa c.a1.f.al c.a1.f.pr c.a1.f.la c.a1.f.co c.a1.f.sp c.a1.k c.a1.x c.t0.s c.t0.xs c.t0.m c.t1.s c.t1.xs c.t1.m t g s r xf b (vu ⟨xf,0,t,g,s,r,b⟩) ha hq rfl hyg.1 hyg.2 (by omega) hyd hoo k1) (by rfl) (hq:=?_)))|((refine zo [] (by rw[Tryz.results20,Lf.ym]) (zF ?_ ?_) ?_)<;>(try exact uT))|refine hK _ _ ?_;clear hK K)
        ·subst hw
         obtain⟨ha,hxx,hg,hyg,hyd,hys,hto,htl,hbb,hoo⟩:=hst
         have hr:=zaO (hk.trans (zk7 (.inr rfl) hq e)) (by decide)
         rw[hr]
         have hU:=And.intro @hsd ( And.intro @orTF (@orFT))
         repeat'(first|refine goR ?_|refine zd fun K hK=>?_|refine zc ?_ ?_<;>intro hcd<;>(try simp only[hcP]at hcd)<;>try exact cdT|refine yi ?_|(refine zj (f:=60) rfl Tryz.call60 (h:=AEq.sub' [0,1,2,3,4,5,6,7,8,9,10,11] (by refine⟨?_,?_,trivial⟩<;>(first|exact zD (by rfl) (by rfl)|exact zL ⟨zi,zi,zi,zi,zi,zq id id,trivial⟩)) suT (znr c.n c.a1.k c.a1.x c.o c.a1.on c.a1.f.t c.a1.f.g c.a1.f.s c.a1.f.p c.a1.f.fd c.a1.f.d c.a1.f.fs c.a1.f.wt c.a1.f.pa c.a1.f.al c.a1.f.pr c.a1.f.la c.a1.f.co c.a1.f.sp c.a0.on c.a0.f.t c.a0.f.g c.a0.f.s c.a0.f.p c.a0.f.fd c.a0.f.d c.a0.f.fs c.a0.f.wt c.a0.f.pa c.a0.f.al c.a0.f.pr c.a0.f.la c.a0.f.co c.a0.f.sp c.a0.k c.a0.x c.t0.s c.t0.xs c.t0.m c.t1.s c.t1.xs c.t1.m t g s r xf b (vu ⟨xf,1,t,g,s,r,b⟩) ha hq rfl hyg.1 hyg.2 (by omega) hyd hoo k1) (by rfl) (hq:=?_)))|((refine zo [] (by rw[Tryz.results20,Lf.ym]) (zF ?_ ?_) ?_)<;>(try exact uT))|refine hK _ _ ?_;clear hK K)
       ·rcases hw with hw | hw
        ·subst hw
         obtain⟨ha,hxx,hg,hyg,hyd,hys,hto,htl,hbb,hoo⟩:=hst
         have hon:c.a0.on=false:=zoJ k1 k2
         have hk2:=hk.trans (zfM (.inl rfl) hq e)
         have hu2:=hu _ e
         have hU:=And.intro @hsd ( And.intro @orTF (@orFT))
         repeat'(first|refine goR ?_|refine zd fun K hK=>?_|refine zc ?_ ?_<;>intro hcd<;>(try simp only[hcP]at hcd)<;>try exact cdT|refine yi ?_|(refine zj (f:=60) rfl Tryz.call60 (h:=AEq.sub' [0,1,2,3,4,5,6,7,8,9,10,11] (by refine⟨?_,?_,trivial⟩<;>(first|exact zD (by rfl) (by rfl)|exact zL ⟨zi,zi,zi,zi,zi,zq id id,trivial⟩)) suT (zh2 c.n c.a0.k c.a0.x c.o c.a0.on c.a0.f.t c.a0.f.g c.a0.f.s c.a0.f.p c.a0.f.fd c.a0.f.d c.a0.f.fs c.a0.f.wt c.a0.f.pa c.a0.f.al c.a0.f.pr c.a0.f.la c.a0.f.co c.a0.f.sp c.a1.on c.a1.f.t c.a1.f.g c.a1.f.s c.a1.f.p c.a1.f.fd c.a1.f.d c.a1.f.fs c.a1.f.wt c.a1.f.pa c.a1.f.al c.a1.f.pr c.a1.f.la c.a1.f.co c.a1.f.sp c.a1.k c.a1.x c.t0.s c.t0.xs c.t0.m c.t1.s c.t1.xs c.t1.m t g s r xf b (vu ⟨xf,0,t,g,s,r,b⟩) ha hq rfl hyg.1 hyg.2 (by omega) hyd hoo hon k2) (by rfl) (hq:=?_)))|refine hK _ _ ?_;clear hK K)
         refine⟨(i+1,_),[0,1,2,3,4,5,6,7,8,9,10,11],⟨by(first|omega|(dsimp only;omega)),hu2,hk2⟩,by(first|omega|(dsimp only;omega)),rfl,?_,arT,?_⟩
         ·(refine⟨⟨_,sT,?_⟩,trivial⟩<;>(try exact zu))
         ·first|rfl|(simp(disch:=omega)only[go_sem,seval,↓reduceIte,hsd,orTF,orFT];done)|(simp(disch:=omega)only[go_sem,seval,↓reduceIte,hsd,orTF,orFT];rfl)|trace_state
        ·subst hw
         obtain⟨ha,hxx,hg,hyg,hyd,hys,hto,htl,hbb,hoo⟩:=hst
         have hon:c.a1.on=false:=zoJ k1 k2
         have hk2:=hk.trans (zfM (.inr rfl) hq e)
         have hu2:=hu _ e
         have hU:=And.intro @hsd ( And.intro @orTF (@orFT))
         repeat'(first|refine goR ?_|refine zd fun K hK=>?_|refine zc ?_ ?_<;>intro hcd<;>(try simp only[hcP]at hcd)<;>try exact cdT|refine yi ?_|(refine zj (f:=60) rfl Tryz.call60 (h:=AEq.sub' [0,1,2,3,4,5,6,7,8,9,10,11] (by refine⟨?_,?_,trivial⟩<;>(first|exact zD (by rfl) (by rfl)|exact zL ⟨zi,zi,zi,zi,zi,zq id id,trivial⟩)) suT (zh4 c.n c.a1.k c.a1.x c.o c.a1.on c.a1.f.t c.a1.f.g c.a1.f.s c.a1.f.p c.a1.f.fd c.a1.f.d c.a1.f.fs c.a1.f.wt c.a1.f.pa c.a1.f.al c.a1.f.pr c.a1.f.la c.a1.f.co c.a1.f.sp c.a0.on c.a0.f.t c.a0.f.g c.a0.f.s c.a0.f.p c.a0.f.fd c.a0.f.d c.a0.f.fs c.a0.f.wt c.a0.f.pa c.a0.f.al c.a0.f.pr c.a0.f.la c.a0.f.co c.a0.f.sp c.a0.k c.a0.x c.t0.s c.t0.xs c.t0.m c.t1.s c.t1.xs c.t1.m t g s r xf b (vu ⟨xf,1,t,g,s,r,b⟩) ha hq rfl hyg.1 hyg.2 (by omega) hyd hoo hon k2) (by rfl) (hq:=?_)))|refine hK _ _ ?_;clear hK K)
         refine⟨(i+1,_),[0,1,2,3,4,5,6,7,8,9,10,11],⟨by(first|omega|(dsimp only;omega)),hu2,hk2⟩,by(first|omega|(dsimp only;omega)),rfl,?_,arT,?_⟩
         ·(refine⟨⟨_,sT,?_⟩,trivial⟩<;>(try exact zu))
         ·first|rfl|(simp(disch:=omega)only[go_sem,seval,↓reduceIte,hsd,orTF,orFT];done)|(simp(disch:=omega)only[go_sem,seval,↓reduceIte,hsd,orTF,orFT];rfl)|trace_state
       ·exfalso;have:=hst.b;omega
       ·rcases hw with hw | hw
        ·subst hw
         obtain⟨ha,hxx,hg,hyg,hyd,hys,hto,htl,hbb,hoo⟩:=hst
         have hk2:=hk.trans (zfM (.inl rfl) hq e)
         have hu2:=hu _ e
         have hU:=And.intro @hsd ( And.intro @orTF (@orFT))
         repeat'(first|refine goR ?_|refine zd fun K hK=>?_|refine zc ?_ ?_<;>intro hcd<;>(try simp only[hcP]at hcd)<;>try exact cdT|refine yi ?_|(refine zj (f:=60) rfl Tryz.call60 (h:=AEq.sub' [0,1,2,3,4,5,6,7,8,9,10,11] (by refine⟨?_,?_,trivial⟩<;>(first|exact zD (by rfl) (by rfl)|exact zL ⟨zi,zi,zi,zi,zi,zq id id,trivial⟩)) suT (zh3 c.n c.a0.k c.a0.x c.o c.a0.on c.a0.f.t c.a0.f.g c.a0.f.s c.a0.f.p c.a0.f.fd c.a0.f.d c.a0.f.fs c.a0.f.wt c.a0.f.pa c.a0.f.al c.a0.f.pr c.a0.f.la c.a0.f.co c.a0.f.sp c.a1.on c.a1.f.t c.a1.f.g c.a1.f.s c.a1.f.p c.a1.f.fd c.a1.f.d c.a1.f.fs c.a1.f.wt c.a1.f.pa c.a1.f.al c.a1.f.pr c.a1.f.la c.a1.f.co c.a1.f.sp c.a1.k c.a1.x c.t0.s c.t0.xs c.t0.m c.t1.s c.t1.xs c.t1.m t g s r xf b (vu ⟨xf,0,t,g,s,r,b⟩) ha hq rfl hyg.1 hyg.2 (by omega) hyd hoo (hys k2) k2 k1 hxx k3 k4) (by rfl) (hq:=?_)))|refine hK _ _ ?_;clear hK K)
         refine⟨(i+1,_),[0,1,2,3,4,5,6,7,8,9,10,11],⟨by(first|omega|(dsimp only;omega)),hu2,hk2⟩,by(first|omega|(dsimp only;omega)),rfl,?_,arT,?_⟩
         ·(refine⟨⟨_,sT,?_⟩,trivial⟩<;>(try exact zu))
         ·first|rfl|(simp(disch:=omega)only[go_sem,seval,↓reduceIte,hsd,orTF,orFT];done)|(simp(disch:=omega)only[go_sem,seval,↓reduceIte,hsd,orTF,orFT];rfl)|trace_state
        ·subst hw
         obtain⟨ha,hxx,hg,hyg,hyd,hys,hto,htl,hbb,hoo⟩:=hst
         have hk2:=hk.trans (zfM (.inr rfl) hq e)
         have hu2:=hu _ e
         have hU:=And.intro @hsd ( And.intro @orTF (@orFT))
         repeat'(first|refine goR ?_|refine zd fun K hK=>?_|refine zc ?_ ?_<;>intro hcd<;>(try simp only[hcP]at hcd)<;>try exact cdT|refine yi ?_|(refine zj (f:=60) rfl Tryz.call60 (h:=AEq.sub' [0,1,2,3,4,5,6,7,8,9,10,11] (by refine⟨?_,?_,trivial⟩<;>(first|exact zD (by rfl) (by rfl)|exact zL ⟨zi,zi,zi,zi,zi,zq id id,trivial⟩)) suT (zh5 c.n c.a1.k c.a1.x c.o c.a1.on c.a1.f.t c.a1.f.g c.a1.f.s c.a1.f.p c.a1.f.fd c.a1.f.d c.a1.f.fs c.a1.f.wt c.a1.f.pa c.a1.f.al c.a1.f.pr c.a1.f.la c.a1.f.co c.a1.f.sp c.a0.on c.a0.f.t c.a0.f.g c.a0.f.s c.a0.f.p c.a0.f.fd c.a0.f.d c.a0.f.fs c.a0.f.wt c.a0.f.pa c.a0.f.al c.a0.f.pr c.a0.f.la c.a0.f.co c.a0.f.sp c.a0.k c.a0.x c.t0.s c.t0.xs c.t0.m c.t1.s c.t1.xs c.t1.m t g s r xf b (vu ⟨xf,1,t,g,s,r,b⟩) ha hq rfl hyg.1 hyg.2 (by omega) hyd hoo (hys k2) k2 k1 hxx k3 k4) (by rfl) (hq:=?_)))|refine hK _ _ ?_;clear hK K)
         refine⟨(i+1,_),[0,1,2,3,4,5,6,7,8,9,10,11],⟨by(first|omega|(dsimp only;omega)),hu2,hk2⟩,by(first|omega|(dsimp only;omega)),rfl,?_,arT,?_⟩
         ·(refine⟨⟨_,sT,?_⟩,trivial⟩<;>(try exact zu))
         ·first|rfl|(simp(disch:=omega)only[go_sem,seval,↓reduceIte,hsd,orTF,orFT];done)|(simp(disch:=omega)only[go_sem,seval,↓reduceIte,hsd,orTF,orFT];rfl)|trace_state
       ·rcases hw with hw | hw
        ·subst hw
         obtain⟨ha,hxx,hg,hyg,hyd,hys,hto,htl,hbb,hoo⟩:=hst
         obtain⟨Q,hQ⟩:∃Q,dcC (c.a0.x++(vu ⟨xf,0,t,g,s,r,b⟩).d) c.t0=(Q,0):=⟨_,Prod.ext rfl k5⟩
         have hbl:(c.a0.x++(vu ⟨xf,0,t,g,s,r,b⟩).d).length<=50000:=by rw[List.length_append];exact hbb
         rw[show dcC ((aC c 0).x++(vu ⟨xf,0,t,g,s,r,b⟩).d) (tC c 0)=(Q,0)from hQ]at e
         have hk2:=hk.trans (zfM (.inl rfl) hq e)
         have hu2:=hu _ e
         have hU:=And.intro @hsd ( And.intro @orTF (@orFT))
         repeat'(first|refine goR ?_|refine zd fun K hK=>?_|refine zc ?_ ?_<;>intro hcd<;>(try simp only[hcP]at hcd)<;>try exact cdT|refine yi ?_|(refine zj (f:=60) rfl Tryz.call60 (h:=AEq.sub' [0,1,2,3,4,5,6,7,8,9,10,11] (by refine⟨?_,?_,trivial⟩<;>(first|exact zD (by rfl) (by rfl)|exact zL ⟨zi,zi,zi,zi,zi,zq id id,trivial⟩)) suT (znq c.n c.a0.k c.a0.x c.o c.a0.on c.a0.f.t c.a0.f.g c.a0.f.s c.a0.f.p c.a0.f.fd c.a0.f.d c.a0.f.fs c.a0.f.wt c.a0.f.pa c.a0.f.al c.a0.f.pr c.a0.f.la c.a0.f.co c.a0.f.sp c.a1.on c.a1.f.t c.a1.f.g c.a1.f.s c.a1.f.p c.a1.f.fd c.a1.f.d c.a1.f.fs c.a1.f.wt c.a1.f.pa c.a1.f.al c.a1.f.pr c.a1.f.la c.a1.f.co c.a1.f.sp c.a1.k c.a1.x c.t0.s c.t0.xs c.t0.m c.t1.s c.t1.xs c.t1.m t g s r xf b (vu ⟨xf,0,t,g,s,r,b⟩) Q ha hq rfl hyg.1 hyg.2 (by omega) hyd hoo (hys k2) k2 k1 hxx k3 k4 hbl hg htl hto.1 hto.2.1 hto.2.2.1 hto.2.2.2 hQ) (by rfl) (hq:=?_)))|refine hK _ _ ?_;clear hK K)
         refine⟨(i+1,_),[0,1,13,3,4,5,14,15,8,9,10,11],⟨by(first|omega|(dsimp only;omega)),hu2,hk2⟩,by(first|omega|(dsimp only;omega)),rfl,?_,arT,?_⟩
         ·(refine⟨⟨_,sT,?_⟩,trivial⟩<;>(try exact zu))
         ·first|rfl|(simp(disch:=omega)only[go_sem,seval,↓reduceIte,hsd,orTF,orFT];done)|(simp(disch:=omega)only[go_sem,seval,↓reduceIte,hsd,orTF,orFT];rfl)|trace_state
        ·subst hw
         obtain⟨ha,hxx,hg,hyg,hyd,hys,hto,htl,hbb,hoo⟩:=hst
         obtain⟨Q,hQ⟩:∃Q,dcC (c.a1.x++(vu ⟨xf,1,t,g,s,r,b⟩).d) c.t1=(Q,0):=⟨_,Prod.ext rfl k5⟩
         have hbl:(c.a1.x++(vu ⟨xf,1,t,g,s,r,b⟩).d).length<=50000:=by rw[List.length_append];exact hbb
         rw[show dcC ((aC c 1).x++(vu ⟨xf,1,t,g,s,r,b⟩).d) (tC c 1)=(Q,0)from hQ]at e
         have hk2:=hk.trans (zfM (.inr rfl) hq e)
         have hu2:=hu _ e
         have hU:=And.intro @hsd ( And.intro @orTF (@orFT))
         repeat'(first|refine goR ?_|refine zd fun K hK=>?_|refine zc ?_ ?_<;>intro hcd<;>(try simp only[hcP]at hcd)<;>try exact cdT|refine yi ?_|(refine zj (f:=60) rfl Tryz.call60 (h:=AEq.sub' [0,1,2,3,4,5,6,7,8,9,10,11] (by refine⟨?_,?_,trivial⟩<;>(first|exact zD (by rfl) (by rfl)|exact zL ⟨zi,zi,zi,zi,zi,zq id id,trivial⟩)) suT (zns c.n c.a1.k c.a1.x c.o c.a1.on c.a1.f.t c.a1.f.g c.a1.f.s c.a1.f.p c.a1.f.fd c.a1.f.d c.a1.f.fs c.a1.f.wt c.a1.f.pa c.a1.f.al c.a1.f.pr c.a1.f.la c.a1.f.co c.a1.f.sp c.a0.on c.a0.f.t c.a0.f.g c.a0.f.s c.a0.f.p c.a0.f.fd c.a0.f.d c.a0.f.fs c.a0.f.wt c.a0.f.pa c.a0.f.al c.a0.f.pr c.a0.f.la c.a0.f.co c.a0.f.sp c.a0.k c.a0.x c.t0.s c.t0.xs c.t0.m c.t1.s c.t1.xs c.t1.m t g s r xf b (vu ⟨xf,1,t,g,s,r,b⟩) Q ha hq rfl hyg.1 hyg.2 (by omega) hyd hoo (hys k2) k2 k1 hxx k3 k4 hbl hg htl hto.1 hto.2.1 hto.2.2.1 hto.2.2.2 hQ) (by rfl) (hq:=?_)))|refine hK _ _ ?_;clear hK K)
         refine⟨(i+1,_),[0,1,2,3,13,5,6,7,8,14,15,11],⟨by(first|omega|(dsimp only;omega)),hu2,hk2⟩,by(first|omega|(dsimp only;omega)),rfl,?_,arT,?_⟩
         ·(refine⟨⟨_,sT,?_⟩,trivial⟩<;>(try exact zu))
         ·first|rfl|(simp(disch:=omega)only[go_sem,seval,↓reduceIte,hsd,orTF,orFT];done)|(simp(disch:=omega)only[go_sem,seval,↓reduceIte,hsd,orTF,orFT];rfl)|trace_state
       ·rcases hw with hw | hw
        ·subst hw
         obtain⟨ha,hxx,hg,hyg,hyd,hys,hto,htl,hbb,hoo⟩:=hst
         obtain⟨Q,hQ⟩:∃Q,dcC (c.a0.x++(vu ⟨xf,0,t,g,s,r,b⟩).d) c.t0=(Q,(dcC (c.a0.x++(vu ⟨xf,0,t,g,s,r,b⟩).d) c.t0).2):=⟨_,rfl⟩
         obtain⟨E,hE0⟩:∃E,(dcC (c.a0.x++(vu ⟨xf,0,t,g,s,r,b⟩).d) c.t0).2=E:=⟨_,rfl⟩
         have hE:E≠0:=by rw[<-hE0];exact k5
         rw[hE0]at hQ
         have hbl:(c.a0.x++(vu ⟨xf,0,t,g,s,r,b⟩).d).length<=50000:=by rw[List.length_append];exact hbb
         have hr:=zaO (hk.trans (zk7 (.inl rfl) hq e)) (by decide)
         rw[hr]
         have hU:=And.intro @hsd ( And.intro @orTF (@orFT))
         repeat'(first|refine goR ?_|refine zd fun K hK=>?_|refine zc ?_ ?_<;>intro hcd<;>(try simp only[hcP]at hcd)<;>try exact cdT|refine yi ?_|(refine zj (f:=60) rfl Tryz.call60 (h:=AEq.sub' [0,1,2,3,4,5,6,7,8,9,10,11] (by refine⟨?_,?_,trivial⟩<;>(first|exact zD (by rfl) (by rfl)|exact zL ⟨zi,zi,zi,zi,zi,zq id id,trivial⟩)) suT (zk1 c.n c.a0.k c.a0.x c.o c.a0.on c.a0.f.t c.a0.f.g c.a0.f.s c.a0.f.p c.a0.f.fd c.a0.f.d c.a0.f.fs c.a0.f.wt c.a0.f.pa c.a0.f.al c.a0.f.pr c.a0.f.la c.a0.f.co c.a0.f.sp c.a1.on c.a1.f.t c.a1.f.g c.a1.f.s c.a1.f.p c.a1.f.fd c.a1.f.d c.a1.f.fs c.a1.f.wt c.a1.f.pa c.a1.f.al c.a1.f.pr c.a1.f.la c.a1.f.co c.a1.f.sp c.a1.k c.a1.x c.t0.s c.t0.xs c.t0.m c.t1.s c.t1.xs c.t1.m t g s r xf b (vu ⟨xf,0,t,g,s,r,b⟩) Q ha hq rfl hyg.1 hyg.2 (by omega) hyd hoo (hys k2) k2 k1 hxx k3 k4 hbl hg htl hto.1 hto.2.1 hto.2.2.1 hto.2.2.2 E hE hQ) (by rfl) (hq:=?_)))|((refine zo [] (by rw[Tryz.results20,Lf.ym]) (zF ?_ ?_) ?_)<;>(try exact uT))|refine hK _ _ ?_;clear hK K)
        ·subst hw
         obtain⟨ha,hxx,hg,hyg,hyd,hys,hto,htl,hbb,hoo⟩:=hst
         obtain⟨Q,hQ⟩:∃Q,dcC (c.a1.x++(vu ⟨xf,1,t,g,s,r,b⟩).d) c.t1=(Q,(dcC (c.a1.x++(vu ⟨xf,1,t,g,s,r,b⟩).d) c.t1).2):=⟨_,rfl⟩
         obtain⟨E,hE0⟩:∃E,(dcC (c.a1.x++(vu ⟨xf,1,t,g,s,r,b⟩).d) c.t1).2=E:=⟨_,rfl⟩
         have hE:E≠0:=by rw[<-hE0];exact k5
         rw[hE0]at hQ
         have hbl:(c.a1.x++(vu ⟨xf,1,t,g,s,r,b⟩).d).length<=50000:=by rw[List.length_append];exact hbb
         have hr:=zaO (hk.trans (zk7 (.inr rfl) hq e)) (by decide)
         rw[hr]
         have hU:=And.intro @hsd ( And.intro @orTF (@orFT))
         repeat'(first|refine goR ?_|refine zd fun K hK=>?_|refine zc ?_ ?_<;>intro hcd<;>(try simp only[hcP]at hcd)<;>try exact cdT|refine yi ?_|(refine zj (f:=60) rfl Tryz.call60 (h:=AEq.sub' [0,1,2,3,4,5,6,7,8,9,10,11] (by refine⟨?_,?_,trivial⟩<;>(first|exact zD (by rfl) (by rfl)|exact zL ⟨zi,zi,zi,zi,zi,zq id id,trivial⟩)) suT (zk2 c.n c.a1.k c.a1.x c.o c.a1.on c.a1.f.t c.a1.f.g c.a1.f.s c.a1.f.p c.a1.f.fd c.a1.f.d c.a1.f.fs c.a1.f.wt c.a1.f.pa c.a1.f.al c.a1.f.pr c.a1.f.la c.a1.f.co c.a1.f.sp c.a0.on c.a0.f.t c.a0.f.g c.a0.f.s c.a0.f.p c.a0.f.fd c.a0.f.d c.a0.f.fs c.a0.f.wt c.a0.f.pa c.a0.f.al c.a0.f.pr c.a0.f.la c.a0.f.co c.a0.f.sp c.a0.k c.a0.x c.t0.s c.t0.xs c.t0.m c.t1.s c.t1.xs c.t1.m t g s r xf b (vu ⟨xf,1,t,g,s,r,b⟩) Q ha hq rfl hyg.1 hyg.2 (by omega) hyd hoo (hys k2) k2 k1 hxx k3 k4 hbl hg htl hto.1 hto.2.1 hto.2.2.1 hto.2.2.2 E hE hQ) (by rfl) (hq:=?_)))|((refine zo [] (by rw[Tryz.results20,Lf.ym]) (zF ?_ ?_) ?_)<;>(try exact uT))|refine hK _ _ ?_;clear hK K)
      ·obtain⟨xf,w,t,g,s,r,b⟩:=x
       dsimp only at hw hxb hk
       have hsd:decide (w=0\/w=1)=true:=decide_eq_true hw
       have hr:=zaO (hk.trans (zvs hw hq)) (by decide)
       rw[hr]
       by_cases ho:zcj ⟨b.length,t,g,s,r⟩
       ·have hf : ¬ kM t g s b = (0, 0) := fun h => hq ⟨ho, h⟩
        rcases hw with hw|hw
        ·subst hw
         have hU:=And.intro @hsd ( And.intro @orTF (@orFT))
         repeat'(first|refine goR ?_|refine zd fun K hK=>?_|refine zc ?_ ?_<;>intro hcd<;>(try simp only[hcP]at hcd)<;>try exact cdT|refine yi ?_|(refine zj (f:=60) rfl Tryz.call60 (h:=AEq.sub' [0,1,2,3,4,5,6,7,8,9,10,11] (by refine⟨?_,?_,trivial⟩<;>(first|exact zD (by rfl) (by rfl)|exact zL ⟨zi,zi,zi,zi,zi,zq id id,trivial⟩)) suT (znu c.n c.a0.k c.a0.x c.o c.a0.on c.a0.f.t c.a0.f.g c.a0.f.s c.a0.f.p c.a0.f.fd c.a0.f.d c.a0.f.fs c.a0.f.wt c.a0.f.pa c.a0.f.al c.a0.f.pr c.a0.f.la c.a0.f.co c.a0.f.sp c.a1.on c.a1.f.t c.a1.f.g c.a1.f.s c.a1.f.p c.a1.f.fd c.a1.f.d c.a1.f.fs c.a1.f.wt c.a1.f.pa c.a1.f.al c.a1.f.pr c.a1.f.la c.a1.f.co c.a1.f.sp c.a1.k c.a1.x c.t0.s c.t0.xs c.t0.m c.t1.s c.t1.xs c.t1.m t g s r xf b ho hf) (by rfl) (hq:=?_)))|((refine zo [] (by rw[Tryz.results20,Lf.ym]) (zF ?_ ?_) ?_)<;>(try exact uT))|refine hK _ _ ?_;clear hK K)
        ·subst hw
         have hU:=And.intro @hsd ( And.intro @orTF (@orFT))
         repeat'(first|refine goR ?_|refine zd fun K hK=>?_|refine zc ?_ ?_<;>intro hcd<;>(try simp only[hcP]at hcd)<;>try exact cdT|refine yi ?_|(refine zj (f:=60) rfl Tryz.call60 (h:=AEq.sub' [0,1,2,3,4,5,6,7,8,9,10,11] (by refine⟨?_,?_,trivial⟩<;>(first|exact zD (by rfl) (by rfl)|exact zL ⟨zi,zi,zi,zi,zi,zq id id,trivial⟩)) suT (znw c.n c.a1.k c.a1.x c.o c.a1.on c.a1.f.t c.a1.f.g c.a1.f.s c.a1.f.p c.a1.f.fd c.a1.f.d c.a1.f.fs c.a1.f.wt c.a1.f.pa c.a1.f.al c.a1.f.pr c.a1.f.la c.a1.f.co c.a1.f.sp c.a0.on c.a0.f.t c.a0.f.g c.a0.f.s c.a0.f.p c.a0.f.fd c.a0.f.d c.a0.f.fs c.a0.f.wt c.a0.f.pa c.a0.f.al c.a0.f.pr c.a0.f.la c.a0.f.co c.a0.f.sp c.a0.k c.a0.x c.t0.s c.t0.xs c.t0.m c.t1.s c.t1.xs c.t1.m t g s r xf b ho hf) (by rfl) (hq:=?_)))|((refine zo [] (by rw[Tryz.results20,Lf.ym]) (zF ?_ ?_) ?_)<;>(try exact uT))|refine hK _ _ ?_;clear hK K)
       ·rcases hw with hw | hw
        ·subst hw
         have hU:=And.intro @hsd ( And.intro @orTF (@orFT))
         repeat'(first|refine goR ?_|refine zd fun K hK=>?_|refine zc ?_ ?_<;>intro hcd<;>(try simp only[hcP]at hcd)<;>try exact cdT|refine yi ?_|(refine zj (f:=60) rfl Tryz.call60 (h:=AEq.sub' [0,1,2,3,4,5,6,7,8,9,10,11] (by refine⟨?_,?_,trivial⟩<;>(first|exact zD (by rfl) (by rfl)|exact zL ⟨zi,zi,zi,zi,zi,zq id id,trivial⟩)) suT (znt c.n c.a0.k c.a0.x c.o c.a0.on c.a0.f.t c.a0.f.g c.a0.f.s c.a0.f.p c.a0.f.fd c.a0.f.d c.a0.f.fs c.a0.f.wt c.a0.f.pa c.a0.f.al c.a0.f.pr c.a0.f.la c.a0.f.co c.a0.f.sp c.a1.on c.a1.f.t c.a1.f.g c.a1.f.s c.a1.f.p c.a1.f.fd c.a1.f.d c.a1.f.fs c.a1.f.wt c.a1.f.pa c.a1.f.al c.a1.f.pr c.a1.f.la c.a1.f.co c.a1.f.sp c.a1.k c.a1.x c.t0.s c.t0.xs c.t0.m c.t1.s c.t1.xs c.t1.m t g s r xf b (by omega) ho) (by rfl) (hq:=?_)))|((refine zo [] (by rw[Tryz.results20,Lf.ym]) (zF ?_ ?_) ?_)<;>(try exact uT))|refine hK _ _ ?_;clear hK K)
        ·subst hw
         have hU:=And.intro @hsd ( And.intro @orTF (@orFT))
         repeat'(first|refine goR ?_|refine zd fun K hK=>?_|refine zc ?_ ?_<;>intro hcd<;>(try simp only[hcP]at hcd)<;>try exact cdT|refine yi ?_|(refine zj (f:=60) rfl Tryz.call60 (h:=AEq.sub' [0,1,2,3,4,5,6,7,8,9,10,11] (by refine⟨?_,?_,trivial⟩<;>(first|exact zD (by rfl) (by rfl)|exact zL ⟨zi,zi,zi,zi,zi,zq id id,trivial⟩)) suT (znv c.n c.a1.k c.a1.x c.o c.a1.on c.a1.f.t c.a1.f.g c.a1.f.s c.a1.f.p c.a1.f.fd c.a1.f.d c.a1.f.fs c.a1.f.wt c.a1.f.pa c.a1.f.al c.a1.f.pr c.a1.f.la c.a1.f.co c.a1.f.sp c.a0.on c.a0.f.t c.a0.f.g c.a0.f.s c.a0.f.p c.a0.f.fd c.a0.f.d c.a0.f.fs c.a0.f.wt c.a0.f.pa c.a0.f.al c.a0.f.pr c.a0.f.la c.a0.f.co c.a0.f.sp c.a0.k c.a0.x c.t0.s c.t0.xs c.t0.m c.t1.s c.t1.xs c.t1.m t g s r xf b (by omega) ho) (by rfl) (hq:=?_)))|((refine zo [] (by rw[Tryz.results20,Lf.ym]) (zF ?_ ?_) ?_)<;>(try exact uT))|refine hK _ _ ?_;clear hK K)
     ·have hsd:decide (x.w=0\/x.w=1)=false:=decide_eq_false hw
      have hr:=zaO (hk.trans (zvr hw)) (by decide)
      rw[hr]
      have hU:=@hsd
      repeat'(first|refine goR ?_|refine zd fun K hK=>?_|refine zc ?_ ?_<;>intro hcd<;>(try simp only[hcP]at hcd)<;>try exact cdT|refine yi ?_|((refine zo [] (by rw[Tryz.results20,Lf.ym]) (zF ?_ ?_) ?_)<;>(try exact uT))|refine hK _ _ ?_;clear hK K)
    ·have hil : i = l.length := by omega
     subst hil
     rw[List.drop_length]at hk
     have hU:=True.intro
     repeat'(first|refine goR ?_|refine zd fun K hK=>?_|refine zc ?_ ?_<;>intro hcd<;>(try simp only[hcP]at hcd)<;>try exact cdT|refine hK _ _ ?_;clear hK K|(apply_assumption (exfalso:=false) (symm:=false)))
     by_cases hA:c.a0.on=true
     ·have hr := zaO (hk.trans (zvt (.inl hA))) (by decide)
      rw[hr]
      refine zN [2,3,9,10,11,52,53,54,55,56,57,58,59,60,61] (fun s:Nat=>[(52,i64 s)]) (fun _=>cmS c) (fun s=>s<=0) (fun s=>2-s) 0 (by decide) ?_ rfl ?_
      ·(refine⟨⟨_,sT,?_⟩,trivial⟩<;>(try exact zu))
      ·intro s hs
       unfold cmS
       simp only[yN,List.map_cons,List.map_nil,List.cons_append,List.nil_append]
       obtain rfl:s=0:=by omega
       have hU:=@hA
       exact wE
     ·have hA : c.a0.on = false := by simpa using hA
      by_cases hB:c.a1.on=true
      ·have hr := zaO (hk.trans (zvt (.inr hB))) (by decide)
       rw[hr]
       refine zN [2,3,9,10,11,52,53,54,55,56,57,58,59,60,61] (fun s:Nat=>[(52,i64 s)]) (fun _=>cmS c) (fun s=>s<=1) (fun s=>2-s) 0 (by decide) ?_ rfl ?_
       ·(refine⟨⟨_,sT,?_⟩,trivial⟩<;>(try exact zu))
       ·intro s hs
        unfold cmS
        simp only[yN,List.map_cons,List.map_nil,List.cons_append,List.nil_append]
        have h3:s=0\/s=1:=by omega
        rcases h3 with rfl|rfl
        ·have hU:=And.intro @hA (@hB)
         repeat'(first|refine goR ?_|refine zd fun K hK=>?_|refine zc ?_ ?_<;>intro hcd<;>(try simp only[hcP]at hcd)<;>try exact cdT|refine y1P ?_|refine hK _ _ ?_;clear hK K)
         refine⟨1,[0,1,2,3,4,5,6,7,8,9,10,11],by decide,by decide,rfl,?_,arT,?_⟩
         ·(refine⟨⟨_,sT,?_⟩,trivial⟩<;>(try exact zu))
         ·first|rfl|(simp(disch:=omega)only[go_sem,seval,↓reduceIte,hA,hB];done)|(simp(disch:=omega)only[go_sem,seval,↓reduceIte,hA,hB];rfl)|trace_state
        ·have hU:=And.intro @hA (@hB)
         exact wE
      ·have hB : c.a1.on = false := by simpa using hB
       have hr:=zoK (hk.trans (zyX hA hB))
       rw[hr]
       refine zN [2,3,9,10,11,52,53,54,55,56,57,58,59,60,61] (fun s:Nat=>[(52,i64 s)]) (fun _=>cmS c) (fun s=>s<=2) (fun s=>2-s) 0 (by decide) ?_ rfl ?_
       ·(refine⟨⟨_,sT,?_⟩,trivial⟩<;>(try exact zu))
       ·intro s hs
        unfold cmS
        simp only[yN,List.map_cons,List.map_nil,List.cons_append,List.nil_append]
        have h3:s=0\/s=1\/s=2:=by omega
        rcases h3 with rfl|rfl|rfl
        ·have hU:=And.intro @hA (@hB)
         repeat'(first|refine goR ?_|refine zd fun K hK=>?_|refine zc ?_ ?_<;>intro hcd<;>(try simp only[hcP]at hcd)<;>try exact cdT|refine y1P ?_|refine hK _ _ ?_;clear hK K)
         refine⟨1,[0,1,2,3,4,5,6,7,8,9,10,11],by decide,by decide,rfl,?_,arT,?_⟩
         ·(refine⟨⟨_,sT,?_⟩,trivial⟩<;>(try exact zu))
         ·first|rfl|(simp(disch:=omega)only[go_sem,seval,↓reduceIte,hA,hB];done)|(simp(disch:=omega)only[go_sem,seval,↓reduceIte,hA,hB];rfl)|trace_state
        ·have hU:=And.intro @hA (@hB)
         repeat'(first|refine goR ?_|refine zd fun K hK=>?_|refine zc ?_ ?_<;>intro hcd<;>(try simp only[hcP]at hcd)<;>try exact cdT|refine y1P ?_|refine hK _ _ ?_;clear hK K)
         refine⟨2,[0,1,2,3,4,5,6,7,8,9,10,11],by decide,by decide,rfl,?_,arT,?_⟩
         ·(refine⟨⟨_,sT,?_⟩,trivial⟩<;>(try exact zu))
         ·first|rfl|(simp(disch:=omega)only[go_sem,seval,↓reduceIte,hA,hB];done)|(simp(disch:=omega)only[go_sem,seval,↓reduceIte,hA,hB];rfl)|trace_state
        ·have hU:=And.intro @hA (@hB)
         repeat'(first|refine goR ?_|refine zd fun K hK=>?_|refine zc ?_ ?_<;>intro hcd<;>(try simp only[hcP]at hcd)<;>try exact cdT|refine hK _ _ ?_;clear hK K|(apply_assumption (exfalso:=false) (symm:=false)))
         rw[hr]
         repeat'(first|(guard_target =~ (_\/_)/\_;first|((refine zo [] (by rw[Tryz.results20,Lf.ym]) (zF ?_ ?_) ?_)<;>(try exact uT))))
end Go.Proofs.YtdalcgfnlbofdaaGreatDoor
