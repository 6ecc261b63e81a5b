import Derived.Test.YtdalcgfnlbofdaaGreatDoorZ40
set_option linter.unusedVariables false
set_option linter.unusedSimpArgs false
namespace Go.Proofs.YtdalcgfnlbofdaaGreatDoor
open Go Go.Lf Go.Proofs
attribute [local irreducible] Lf.rg Lf.ro Lf.PWp Lf.SOp Lf.ACall Lf.Scoped Lf.dg Lf.dw
set_option maxRecDepth 20000
set_option maxHeartbeats 4000000
noncomputable def itM (x:Itm) (y:Wy) (t:DT):List Gm×Bool×DT:=
 open Classical in
 if ¬yD x\/255<y.p then([],false,t)
 else if x.bk=true/\zaV y.z=true then([],false,t)
 else((emP x.w (wvI x y t).1).1,(emP x.w (wvI x y t).1).2,(wvI x y t).2)
theorem zb4(x:Itm)(y:Wy)(t:DT):
    ((¬yD x\/255<y.p)/\itM x y t=([],false,t)) \/
    (yD x/\y.p<=255/\x.bk=true/\zaV y.z=true/\itM x y t=([],false,t)) \/
    (yD x/\y.p<=255/\x.bk=true/\zaV y.z=false/\itM x y t=((emP x.w (frsG x.f.s y.ps (kA x.f y.p) (jL y.z x.fl y.y t).o)).1,(emP x.w (frsG x.f.s y.ps (kA x.f y.p) (jL y.z x.fl y.y t).o)).2,(jL y.z x.fl y.y t).t)) \/
    (yD x/\y.p<=255/\x.bk=false/\x.f.t=0/\emG x.w (kA x.f y.p)/\itM x y t=([kA x.f y.p],true,t)) \/
    (yD x/\y.p<=255/\x.bk=false/\x.f.t=0/\¬emG x.w (kA x.f y.p)/\itM x y t=([],false,t)) \/
    (yD x/\y.p<=255/\x.bk=false/\¬x.f.t=0/\emG x.w x.f/\itM x y t=([x.f],true,t)):=by
  unfold itM
  by_cases h1:¬yD x\/255<y.p
  · exact .inl ⟨h1,if_pos h1⟩
  · rw[if_neg h1]
    have hr:yD x:=Classical.byContradiction fun h=>h1 (.inl h)
    have hp:y.p<=255:=by have:¬255<y.p:=fun h=>h1 (.inr h);omega
    cases hb:x.bk with
    | true=>
      cases hz:zaV y.z with
      | true=>rw[if_pos ⟨rfl,rfl⟩];exact .inr (.inl ⟨hr,hp,rfl,rfl,rfl⟩)
      | false=>
        rw[if_neg (by simp)]
        have e:wvI x y t=(frsG x.f.s y.ps (kA x.f y.p) (jL y.z x.fl y.y t).o,(jL y.z x.fl y.y t).t):=if_pos hb
        rw[e]
        exact .inr (.inr (.inl ⟨hr,hp,rfl,rfl,rfl⟩))
    | false=>
      rw[if_neg (by simp)]
      have e:wvI x y t=([if x.f.t=0 then kA x.f y.p else x.f],t):=if_neg (by rw[hb];simp)
      rw[e]
      dsimp only
      by_cases h0:x.f.t=0
      · rw[if_pos h0]
        by_cases he:emG x.w (kA x.f y.p)
        · rw[zfL he];exact .inr (.inr (.inr (.inl ⟨hr,hp,rfl,h0,he,rfl⟩)))
        · rw[zk6 he];exact .inr (.inr (.inr (.inr (.inl ⟨hr,hp,rfl,h0,he,rfl⟩))))
      · rw[if_neg h0]
        have he:emG x.w x.f:=by
          obtain⟨a,b,c,d⟩:=((hr.2.2.1 hb).1).2
          exact⟨((hr.2.2.1 hb).1).1,hr.1,b,c,d⟩
        rw[zfL he]
        exact .inr (.inr (.inr (.inr (.inr ⟨hr,hp,rfl,h0,he,rfl⟩))))
theorem zdV(w:Int)(n:Nat)(o:List Fr)(us:Nat)(uxs:List Fl)(um:Int)(vs:Nat)(vxs:List Fl)(vm:Int)(t g s p:Int)(fd:Bool)(d:List UInt8)(fs:Bool)(e:List (Int×Int))(wt pa:Int)(al:Bool)(pr la co sp:Int)(bk ff:Bool)(fl:List Fl)(zf:Bool)(z:List Int)(yf:Bool)(y:List Op4)(pf:Bool)(ps:List Int)(pd:Int)(hd:d.length<=100000)(hel:e.length<=10000)(hgl:-9223372036854775808<=g)(hgh:g<=9223372036854775807)(hbad:¬yD ⟨w,⟨t,g,s,p,d,e,wt,pa,al,pr,la,co,sp⟩,bk,fl⟩\/255<pd): AEq Tryz.prog 69 [.ptr 0 0,.ag [i64 w,i64 t,i64 g,i64 s,i64 p,.sl fd false (d.map zk),.sl fs false (e.map z7),i64 wt,i64 pa,bl al,i64 pr,i64 la,i64 co,i64 sp,bl bk,.sl ff false (fl.map flA)],.ag [.sl zf false (z.map yz),.sl yf false (y.map opA),.sl pf false (ps.map yz),i64 pd]] [.box [.ptr 1 0,.ptr 4 0,.row 7 (n)],.box [.ptr 2 0],.box [.row 3 (us),i64 (zC uxs),i64 um],.row (us) 103 3 (uxs.map flA),.box [.ptr 5 0],.box [.row 6 (vs),i64 (zC vxs),i64 vm],.row (vs) 103 3 (vxs.map flA),.row (n) 45 6 ((o).map frA)] (bl false) [.box [.ptr 1 0,.ptr 4 0,.row 7 (n)],.box [.ptr 2 0],.box [.row 3 (us),i64 (zC uxs),i64 um],.row (us) 103 3 (uxs.map flA),.box [.ptr 5 0],.box [.row 6 (vs),i64 (zC vxs),i64 vm],.row (vs) 103 3 (vxs.map flA),.row (n) 45 6 ((o).map frA)]:=by
 by_cases hR:yD ⟨w,⟨t,g,s,p,d,e,wt,pa,al,pr,la,co,sp⟩,bk,fl⟩
 ·have hp5 : 255 < pd := hbad.elim (fun h => absurd hR h) id
  refine enT Tryz.func69 Tryz.ntmps69 ?_
  have hU:=And.intro @beqN ( And.intro @eocI (@eocB))
  repeat'(first|refine goR ?_|refine zd fun K hK=>?_|refine zc ?_ ?_<;>intro hcd<;>(try simp only[hcP]at hcd)<;>try exact cdT|refine y14 ?_|((refine zo [0,1,2,3,4,5,6,7] (by rw[Tryz.results69,Lf.zI]) (zw ?_) ?_)<;>(try exact uT))|refine hK _ _ ?_;clear hK K)
 ·skip
  refine enT Tryz.func69 Tryz.ntmps69 ?_
  have hU:=And.intro @beqN ( And.intro @eocI (@eocB))
  repeat'(first|refine goR ?_|refine zd fun K hK=>?_|refine zc ?_ ?_<;>intro hcd<;>(try simp only[hcP]at hcd)<;>try exact cdT|(refine zj (f:=118) rfl Tryz.call118 (h:=AEq.pure' agT (znA _ _ _ _ _ _ _ _ _ _ _ _ _ _ _ _ _ _ _ (by assumption) (by assumption) (by assumption) (by assumption) (by assumption)) (hq:=?_)))|((refine zo [0,1,2,3,4,5,6,7] (by rw[Tryz.results69,Lf.zI]) (zw ?_) ?_)<;>(try exact uT))|refine hK _ _ ?_;clear hK K)
theorem zhi(n:Nat)(o:List Fr)(us:Nat)(uxs:List Fl)(um:Int)(vs:Nat)(vxs:List Fl)(vm:Int)(t g s p:Int)(fd:Bool)(d:List UInt8)(fs:Bool)(e:List (Int×Int))(wt pa:Int)(al:Bool)(pr la co sp:Int)(bk ff:Bool)(fl:List Fl)(zf:Bool)(z:List Int)(yf:Bool)(y:List Op4)(pf:Bool)(ps:List Int)(pd:Int)(xt:List Fl)(st:Nat)(mt:Int)(L:List Gm)(ok:Bool)(N2:Nat)(O2:List Fr)(hd:d.length<=100000)(hel:e.length<=10000)(hgl:-9223372036854775808<=g)(hgh:g<=9223372036854775807)(hsl:z.length<=100)(hll:fl.length<=12)(hol:y.length<=100000)(hlb:∀f∈fl,f.n.size<=1000/\f.v.size<=1000)(hpl:ps.length<=1000)(hno:o.length<=900000)(hx:uxs.length<=30000)(hok:TOk ⟨uxs,us,um⟩)(hM:itM ⟨0,⟨t,g,s,p,d,e,wt,pa,al,pr,la,co,sp⟩,bk,fl⟩ ⟨z,y,ps,pd⟩ ⟨uxs,us,um⟩=(L,ok,⟨xt,st,mt⟩))(hN2:n+L.length=N2)(hO2:o++L.map (rwF 0)=O2): AEq Tryz.prog 69 [.ptr 0 0,.ag [i64 0,i64 t,i64 g,i64 s,i64 p,.sl fd false (d.map zk),.sl fs false (e.map z7),i64 wt,i64 pa,bl al,i64 pr,i64 la,i64 co,i64 sp,bl bk,.sl ff false (fl.map flA)],.ag [.sl zf false (z.map yz),.sl yf false (y.map opA),.sl pf false (ps.map yz),i64 pd]] [.box [.ptr 1 0,.ptr 4 0,.row 7 (n)],.box [.ptr 2 0],.box [.row 3 (us),i64 (zC uxs),i64 um],.row (us) 103 3 (uxs.map flA),.box [.ptr 5 0],.box [.row 6 (vs),i64 (zC vxs),i64 vm],.row (vs) 103 3 (vxs.map flA),.row (n) 45 6 ((o).map frA)] (bl ok) [.box [.ptr 1 0,.ptr 4 0,.row 7 (N2)],.box [.ptr 2 0],.box [.row 3 (st),i64 (zC xt),i64 mt],.row (st) 103 3 (xt.map flA),.box [.ptr 5 0],.box [.row 6 (vs),i64 (zC vxs),i64 vm],.row (vs) 103 3 (vxs.map flA),.row (N2) 45 6 ((O2).map frA)]:=by
 rcases zb4 ⟨0,⟨t,g,s,p,d,e,wt,pa,al,pr,la,co,sp⟩,bk,fl⟩ ⟨z,y,ps,pd⟩ ⟨uxs,us,um⟩with⟨k1,e1⟩|⟨hR,k2,k3,k4,e1⟩|⟨hR,k2,k3,k4,e1⟩|⟨hR,k2,k3,k4,k5,e1⟩|⟨hR,k2,k3,k4,k5,e1⟩|⟨hR,k2,k3,k4,k5,e1⟩<;>rw[e1]at hM
 ·simp only[Prod.mk.injEq,DT.mk.injEq]at hM
  obtain⟨rfl,rfl,rfl,rfl,rfl⟩:=hM
  rw[show o++List.map (rwF 0) []=o from List.append_nil _]at hO2
  subst hO2
  subst hN2
  exact zdV 0 n o us uxs um vs vxs vm t g s p fd d fs e wt pa al pr la co sp bk ff fl zf z yf y pf ps pd hd hel hgl hgh k1
 ·simp only[Prod.mk.injEq,DT.mk.injEq]at hM
  obtain⟨rfl,rfl,rfl,rfl,rfl⟩:=hM
  rw[show o++List.map (rwF 0) []=o from List.append_nil _]at hO2
  subst hO2
  subst hN2
  dsimp only at k2 k3 k4
  subst k3
  refine enT Tryz.func69 Tryz.ntmps69 ?_
  have hU:=And.intro @beqN ( And.intro @eocI (@eocB))
  repeat'(first|refine goR ?_|refine zd fun K hK=>?_|refine zc ?_ ?_<;>intro hcd<;>(try simp only[hcP]at hcd)<;>try exact cdT|(refine zj (f:=119) rfl Tryz.call119 (h:=AEq.sub' [0,1,2,3,4,5,6,7] (by refine⟨?_,?_,?_,trivial⟩<;>(first|exact zD (by rfl) (by rfl)|exact zL ⟨zi,zi,zi,zi,zi,zq id id,zq id id,zi,zi,zi,zi,zi,zi,zi,zi,zq id id,trivial⟩|exact zL ⟨zq id id,zq id id,zq id id,zi,trivial⟩)) suT (zru n o us uxs um vs vxs vm t g s p fd d fs e wt pa al pr la co sp true ff fl zf z yf y pf ps pd hsl (by omega) hol hlb hx k4) (by rfl) (hq:=?_)))|refine y14 ?_|((refine zo [0,1,2,3,4,5,6,7] (by rw[Tryz.results69,Lf.zI]) (zw ?_) ?_)<;>(try exact uT))|refine hK _ _ ?_;clear hK K)
 ·dsimp only at k2 k3 k4 hM
  have hgg:0<=g/\g<256:=by
   have:=zhZ (hR.2.2.2 k3).2.2.2
   dsimp only at this
   have h0:=zkL (.inl rfl) this.1
   unfold onF at this
   split at this<;>omega
  obtain⟨Q,hQ⟩:∃Q,jL z fl y ⟨uxs,us,um⟩=Q:=⟨_,rfl⟩
  rw[hQ]at hM
  obtain⟨b,⟨xt',st',mt'⟩⟩:=Q
  have hob:=(zdL hQ hok hx k4 hsl (by omega) hlb).2.2
  have hob2:b.length<=100000:=by dsimp only at hob;omega
  dsimp only at hM
  obtain⟨R,hRR⟩:∃R,emP 0 (frsG s ps (kA ⟨t,g,s,p,d,e,wt,pa,al,pr,la,co,sp⟩ pd) b)=R:=⟨_,rfl⟩
  rw[hRR]at hM
  obtain⟨L',ok'⟩:=R
  simp only[Prod.mk.injEq,DT.mk.injEq]at hM
  obtain⟨rfl,rfl,rfl,rfl,rfl⟩:=hM
  rw[kT]at hRR
  subst k3
  refine enT Tryz.func69 Tryz.ntmps69 ?_
  have hU:=And.intro @beqN ( And.intro @eocI (@eocB))
  repeat'(first|refine goR ?_|refine zd fun K hK=>?_|refine zc ?_ ?_<;>intro hcd<;>(try simp only[hcP]at hcd)<;>try exact cdT|(refine zj (f:=119) rfl Tryz.call119 (h:=AEq.sub' [0,1,2,3,4,5,6,7] (by refine⟨?_,?_,?_,trivial⟩<;>(first|exact zD (by rfl) (by rfl)|exact zL ⟨zi,zi,zi,zi,zi,zq id id,zq id id,zi,zi,zi,zi,zi,zi,zi,zi,zq id id,trivial⟩|exact zL ⟨zq id id,zq id id,zq id id,zi,trivial⟩)) suT (zy1 n o us uxs um vs vxs vm t g s p fd d fs e wt pa al pr la co sp true ff fl zf z yf y pf ps pd b _ _ _ _ _ _ _ hsl (by omega) hol hlb hx hok k4 hQ hob2 hgg.1 hgg.2 hel hpl hno hRR hN2 hO2) (by rfl) (hq:=?_)))|refine y14 ?_|((refine zo [0,1,2,3,4,5,6,7] (by rw[Tryz.results69,Lf.zI]) (zw ?_) ?_)<;>(try exact uT))|refine hK _ _ ?_;clear hK K)
 ·dsimp only at k2 k3 k4 k5 hM
  have hgg:=zhZ (hR.2.2.1 k3).1
  dsimp only at hgg
  have hwg:=zcL (n:=pd) (g:=g) hgg.1 (by omega)
  rw[kT]at k5
  rw[kT]at hM
  simp only[Prod.mk.injEq,DT.mk.injEq]at hM
  obtain⟨rfl,rfl,rfl,rfl,rfl⟩:=hM
  subst hN2
  subst hO2
  subst k3
  subst k4
  refine enT Tryz.func69 Tryz.ntmps69 ?_
  have hU:=And.intro @beqN ( And.intro @eocI (@eocB))
  repeat'(first|refine goR ?_|refine y1q ?_|refine zd fun K hK=>?_|refine zc ?_ ?_<;>intro hcd<;>(try simp only[hcP]at hcd)<;>try exact cdT|refine y1r ?_|((refine zo [0,1,2,3,4,5,6,7] (by rw[Tryz.results69,Lf.zI]) (zw ?_) ?_)<;>(try exact uT))|(guard_target =~ dw _ _ _ _ _ _ _ _ _ _;first|(guard_target =~ dw _ _ _ _ _ (5::_) _ _ _ _;(refine vp rfl rfl (h:=(fun τ=>zH (h:=zj (f:=121) rfl Tryz.call121 (h:=AEq.pure' agT (zr0 _ _ _ _ _ _ _ _ _ _ _ _ _ _ _ _ aoT aoT) (hq:=zl ⟨rfl,rfl⟩))))) (hk:=?_)))|(guard_target =~ dw _ _ _ _ _ (8::_) _ _ _ _;(refine yn rfl rfl (h:=zH (h:=zj (f:=120) rfl Tryz.call120 (h:=AEq.sub' [0,1,2,3,4,5,6,7] (by refine⟨?_,?_,?_,trivial⟩<;>(first|exact zD (by rfl) (by rfl)|exact zi|exact zL ⟨zi,zi,zi,zi,zq id id,zq id id,zi,zi,zi,zi,zi,zi,zi,trivial⟩)) suT (zaN 0 n o us uxs um vs vxs vm 0 (wgG g pd) s (wpG p pd) fd d fs e wt pa al pr la co sp (by omega) hel (by omega) (by omega) k5) (by rfl) (hq:=zl ⟨rfl,rfl⟩)))) (hk:=?_))))|refine hK _ _ ?_;clear hK K)
 ·dsimp only at k2 k3 k4 k5 hM
  have hgg:=zhZ (hR.2.2.1 k3).1
  dsimp only at hgg
  have hwg:=zcL (n:=pd) (g:=g) hgg.1 (by omega)
  rw[kT]at k5
  simp only[Prod.mk.injEq,DT.mk.injEq]at hM
  obtain⟨rfl,rfl,rfl,rfl,rfl⟩:=hM
  rw[show o++List.map (rwF 0) []=o from List.append_nil _]at hO2
  subst hO2
  subst hN2
  subst k3
  subst k4
  refine enT Tryz.func69 Tryz.ntmps69 ?_
  have hU:=And.intro @beqN ( And.intro @eocI (@eocB))
  repeat'(first|refine goR ?_|refine y1q ?_|refine zd fun K hK=>?_|refine zc ?_ ?_<;>intro hcd<;>(try simp only[hcP]at hcd)<;>try exact cdT|refine y1r ?_|((refine zo [0,1,2,3,4,5,6,7] (by rw[Tryz.results69,Lf.zI]) (zw ?_) ?_)<;>(try exact uT))|(guard_target =~ dw _ _ _ _ _ _ _ _ _ _;first|(guard_target =~ dw _ _ _ _ _ (5::_) _ _ _ _;(refine vp rfl rfl (h:=(fun τ=>zH (h:=zj (f:=121) rfl Tryz.call121 (h:=AEq.pure' agT (zr0 _ _ _ _ _ _ _ _ _ _ _ _ _ _ _ _ aoT aoT) (hq:=zl ⟨rfl,rfl⟩))))) (hk:=?_)))|(guard_target =~ dw _ _ _ _ _ (8::_) _ _ _ _;(refine yn rfl rfl (h:=zH (h:=zj (f:=120) rfl Tryz.call120 (h:=AEq.sub' [0,1,2,3,4,5,6,7] (by refine⟨?_,?_,?_,trivial⟩<;>(first|exact zD (by rfl) (by rfl)|exact zi|exact zL ⟨zi,zi,zi,zi,zq id id,zq id id,zi,zi,zi,zi,zi,zi,zi,trivial⟩)) suT (zcM 0 n o us uxs um vs vxs vm 0 (wgG g pd) s (wpG p pd) fd d fs e wt pa al pr la co sp (by omega) hel (by omega) (by omega) k5) (by rfl) (hq:=zl ⟨rfl,rfl⟩)))) (hk:=?_))))|refine hK _ _ ?_;clear hK K)
 ·dsimp only at k2 k3 k4 k5 hM
  simp only[Prod.mk.injEq,DT.mk.injEq]at hM
  obtain⟨rfl,rfl,rfl,rfl,rfl⟩:=hM
  subst hN2
  subst hO2
  subst k3
  refine enT Tryz.func69 Tryz.ntmps69 ?_
  have hU:=And.intro @beqN ( And.intro @eocI (@eocB))
  repeat'(first|refine goR ?_|refine zd fun K hK=>?_|refine zc ?_ ?_<;>intro hcd<;>(try simp only[hcP]at hcd)<;>try exact cdT|(refine zj (f:=120) rfl Tryz.call120 (h:=AEq.sub' [0,1,2,3,4,5,6,7] (by refine⟨?_,?_,?_,trivial⟩<;>(first|exact zD (by rfl) (by rfl)|exact zi|exact zL ⟨zi,zi,zi,zi,zq id id,zq id id,zi,zi,zi,zi,zi,zi,zi,trivial⟩)) suT (zaN 0 n o us uxs um vs vxs vm t g s p fd d fs e wt pa al pr la co sp (by omega) hel (by omega) (by omega) k5) (by rfl) (hq:=?_)))|refine y14 ?_|((refine zo [0,1,2,3,4,5,6,7] (by rw[Tryz.results69,Lf.zI]) (zw ?_) ?_)<;>(try exact uT))|refine hK _ _ ?_;clear hK K)
theorem zhj(n:Nat)(o:List Fr)(us:Nat)(uxs:List Fl)(um:Int)(vs:Nat)(vxs:List Fl)(vm:Int)(t g s p:Int)(fd:Bool)(d:List UInt8)(fs:Bool)(e:List (Int×Int))(wt pa:Int)(al:Bool)(pr la co sp:Int)(bk ff:Bool)(fl:List Fl)(zf:Bool)(z:List Int)(yf:Bool)(y:List Op4)(pf:Bool)(ps:List Int)(pd:Int)(xt:List Fl)(st:Nat)(mt:Int)(L:List Gm)(ok:Bool)(N2:Nat)(O2:List Fr)(hd:d.length<=100000)(hel:e.length<=10000)(hgl:-9223372036854775808<=g)(hgh:g<=9223372036854775807)(hsl:z.length<=100)(hll:fl.length<=12)(hol:y.length<=100000)(hlb:∀f∈fl,f.n.size<=1000/\f.v.size<=1000)(hpl:ps.length<=1000)(hno:o.length<=900000)(hx:vxs.length<=30000)(hok:TOk ⟨vxs,vs,vm⟩)(hM:itM ⟨1,⟨t,g,s,p,d,e,wt,pa,al,pr,la,co,sp⟩,bk,fl⟩ ⟨z,y,ps,pd⟩ ⟨vxs,vs,vm⟩=(L,ok,⟨xt,st,mt⟩))(hN2:n+L.length=N2)(hO2:o++L.map (rwF 1)=O2): AEq Tryz.prog 69 [.ptr 0 0,.ag [i64 1,i64 t,i64 g,i64 s,i64 p,.sl fd false (d.map zk),.sl fs false (e.map z7),i64 wt,i64 pa,bl al,i64 pr,i64 la,i64 co,i64 sp,bl bk,.sl ff false (fl.map flA)],.ag [.sl zf false (z.map yz),.sl yf false (y.map opA),.sl pf false (ps.map yz),i64 pd]] [.box [.ptr 1 0,.ptr 4 0,.row 7 (n)],.box [.ptr 2 0],.box [.row 3 (us),i64 (zC uxs),i64 um],.row (us) 103 3 (uxs.map flA),.box [.ptr 5 0],.box [.row 6 (vs),i64 (zC vxs),i64 vm],.row (vs) 103 3 (vxs.map flA),.row (n) 45 6 ((o).map frA)] (bl ok) [.box [.ptr 1 0,.ptr 4 0,.row 7 (N2)],.box [.ptr 2 0],.box [.row 3 (us),i64 (zC uxs),i64 um],.row (us) 103 3 (uxs.map flA),.box [.ptr 5 0],.box [.row 6 (st),i64 (zC xt),i64 mt],.row (st) 103 3 (xt.map flA),.row (N2) 45 6 ((O2).map frA)]:=by
 rcases zb4 ⟨1,⟨t,g,s,p,d,e,wt,pa,al,pr,la,co,sp⟩,bk,fl⟩ ⟨z,y,ps,pd⟩ ⟨vxs,vs,vm⟩with⟨k1,e1⟩|⟨hR,k2,k3,k4,e1⟩|⟨hR,k2,k3,k4,e1⟩|⟨hR,k2,k3,k4,k5,e1⟩|⟨hR,k2,k3,k4,k5,e1⟩|⟨hR,k2,k3,k4,k5,e1⟩<;>rw[e1]at hM
 ·simp only[Prod.mk.injEq,DT.mk.injEq]at hM
  obtain⟨rfl,rfl,rfl,rfl,rfl⟩:=hM
  rw[show o++List.map (rwF 1) []=o from List.append_nil _]at hO2
  subst hO2
  subst hN2
  exact zdV 1 n o us uxs um vs vxs vm t g s p fd d fs e wt pa al pr la co sp bk ff fl zf z yf y pf ps pd hd hel hgl hgh k1
 ·simp only[Prod.mk.injEq,DT.mk.injEq]at hM
  obtain⟨rfl,rfl,rfl,rfl,rfl⟩:=hM
  rw[show o++List.map (rwF 1) []=o from List.append_nil _]at hO2
  subst hO2
  subst hN2
  dsimp only at k2 k3 k4
  subst k3
  refine enT Tryz.func69 Tryz.ntmps69 ?_
  have hU:=And.intro @beqN ( And.intro @eocI (@eocB))
  repeat'(first|refine goR ?_|refine zd fun K hK=>?_|refine zc ?_ ?_<;>intro hcd<;>(try simp only[hcP]at hcd)<;>try exact cdT|(refine zj (f:=119) rfl Tryz.call119 (h:=AEq.sub' [0,1,2,3,4,5,6,7] (by refine⟨?_,?_,?_,trivial⟩<;>(first|exact zD (by rfl) (by rfl)|exact zL ⟨zi,zi,zi,zi,zi,zq id id,zq id id,zi,zi,zi,zi,zi,zi,zi,zi,zq id id,trivial⟩|exact zL ⟨zq id id,zq id id,zq id id,zi,trivial⟩)) suT (zrv n o us uxs um vs vxs vm t g s p fd d fs e wt pa al pr la co sp true ff fl zf z yf y pf ps pd hsl (by omega) hol hlb hx k4) (by rfl) (hq:=?_)))|refine y14 ?_|((refine zo [0,1,2,3,4,5,6,7] (by rw[Tryz.results69,Lf.zI]) (zw ?_) ?_)<;>(try exact uT))|refine hK _ _ ?_;clear hK K)
 ·dsimp only at k2 k3 k4 hM
  have hgg:0<=g/\g<256:=by
   have:=zhZ (hR.2.2.2 k3).2.2.2
   dsimp only at this
   have h0:=zkL (.inl rfl) this.1
   unfold onF at this
   split at this<;>omega
  obtain⟨Q,hQ⟩:∃Q,jL z fl y ⟨vxs,vs,vm⟩=Q:=⟨_,rfl⟩
  rw[hQ]at hM
  obtain⟨b,⟨xt',st',mt'⟩⟩:=Q
  have hob:=(zdL hQ hok hx k4 hsl (by omega) hlb).2.2
  have hob2:b.length<=100000:=by dsimp only at hob;omega
  dsimp only at hM
  obtain⟨R,hRR⟩:∃R,emP 1 (frsG s ps (kA ⟨t,g,s,p,d,e,wt,pa,al,pr,la,co,sp⟩ pd) b)=R:=⟨_,rfl⟩
  rw[hRR]at hM
  obtain⟨L',ok'⟩:=R
  simp only[Prod.mk.injEq,DT.mk.injEq]at hM
  obtain⟨rfl,rfl,rfl,rfl,rfl⟩:=hM
  rw[kT]at hRR
  subst k3
  refine enT Tryz.func69 Tryz.ntmps69 ?_
  have hU:=And.intro @beqN ( And.intro @eocI (@eocB))
  repeat'(first|refine goR ?_|refine zd fun K hK=>?_|refine zc ?_ ?_<;>intro hcd<;>(try simp only[hcP]at hcd)<;>try exact cdT|(refine zj (f:=119) rfl Tryz.call119 (h:=AEq.sub' [0,1,2,3,4,5,6,7] (by refine⟨?_,?_,?_,trivial⟩<;>(first|exact zD (by rfl) (by rfl)|exact zL ⟨zi,zi,zi,zi,zi,zq id id,zq id id,zi,zi,zi,zi,zi,zi,zi,zi,zq id id,trivial⟩|exact zL ⟨zq id id,zq id id,zq id id,zi,trivial⟩)) suT (zy2 n o us uxs um vs vxs vm t g s p fd d fs e wt pa al pr la co sp true ff fl zf z yf y pf ps pd b _ _ _ _ _ _ _ hsl (by omega) hol hlb hx hok k4 hQ hob2 hgg.1 hgg.2 hel hpl hno hRR hN2 hO2) (by rfl) (hq:=?_)))|refine y14 ?_|((refine zo [0,1,2,3,4,5,6,7] (by rw[Tryz.results69,Lf.zI]) (zw ?_) ?_)<;>(try exact uT))|refine hK _ _ ?_;clear hK K)
 ·dsimp only at k2 k3 k4 k5 hM
  have hgg:=zhZ (hR.2.2.1 k3).1
  dsimp only at hgg
  have hwg:=zcL (n:=pd) (g:=g) hgg.1 (by omega)
  rw[kT]at k5
  rw[kT]at hM
  simp only[Prod.mk.injEq,DT.mk.injEq]at hM
  obtain⟨rfl,rfl,rfl,rfl,rfl⟩:=hM
  subst hN2
  subst hO2
  subst k3
  subst k4
  refine enT Tryz.func69 Tryz.ntmps69 ?_
  have hU:=And.intro @beqN ( And.intro @eocI (@eocB))
  repeat'(first|refine goR ?_|refine y1q ?_|refine zd fun K hK=>?_|refine zc ?_ ?_<;>intro hcd<;>(try simp only[hcP]at hcd)<;>try exact cdT|refine y1r ?_|((refine zo [0,1,2,3,4,5,6,7] (by rw[Tryz.results69,Lf.zI]) (zw ?_) ?_)<;>(try exact uT))|(guard_target =~ dw _ _ _ _ _ _ _ _ _ _;first|(guard_target =~ dw _ _ _ _ _ (5::_) _ _ _ _;(refine vp rfl rfl (h:=(fun τ=>zH (h:=zj (f:=121) rfl Tryz.call121 (h:=AEq.pure' agT (zr0 _ _ _ _ _ _ _ _ _ _ _ _ _ _ _ _ aoT aoT) (hq:=zl ⟨rfl,rfl⟩))))) (hk:=?_)))|(guard_target =~ dw _ _ _ _ _ (8::_) _ _ _ _;(refine yn rfl rfl (h:=zH (h:=zj (f:=120) rfl Tryz.call120 (h:=AEq.sub' [0,1,2,3,4,5,6,7] (by refine⟨?_,?_,?_,trivial⟩<;>(first|exact zD (by rfl) (by rfl)|exact zi|exact zL ⟨zi,zi,zi,zi,zq id id,zq id id,zi,zi,zi,zi,zi,zi,zi,trivial⟩)) suT (zaN 1 n o us uxs um vs vxs vm 0 (wgG g pd) s (wpG p pd) fd d fs e wt pa al pr la co sp (by omega) hel (by omega) (by omega) k5) (by rfl) (hq:=zl ⟨rfl,rfl⟩)))) (hk:=?_))))|refine hK _ _ ?_;clear hK K)
 ·dsimp only at k2 k3 k4 k5 hM
  have hgg:=zhZ (hR.2.2.1 k3).1
  dsimp only at hgg
  have hwg:=zcL (n:=pd) (g:=g) hgg.1 (by omega)
  rw[kT]at k5
  simp only[Prod.mk.injEq,DT.mk.injEq]at hM
  obtain⟨rfl,rfl,rfl,rfl,rfl⟩:=hM
  rw[show o++List.map (rwF 1) []=o from List.append_nil _]at hO2
  subst hO2
  subst hN2
  subst k3
  subst k4
  refine enT Tryz.func69 Tryz.ntmps69 ?_
  have hU:=And.intro @beqN ( And.intro @eocI (@eocB))
  repeat'(first|refine goR ?_|refine y1q ?_|refine zd fun K hK=>?_|refine zc ?_ ?_<;>intro hcd<;>(try simp only[hcP]at hcd)<;>try exact cdT|refine y1r ?_|((refine zo [0,1,2,3,4,5,6,7] (by rw[Tryz.results69,Lf.zI]) (zw ?_) ?_)<;>(try exact uT))|(guard_target =~ dw _ _ _ _ _ _ _ _ _ _;first|(guard_target =~ dw _ _ _ _ _ (5::_) _ _ _ _;(refine vp rfl rfl (h:=(fun τ=>zH (h:=zj (f:=121) rfl Tryz.call121 (h:=AEq.pure' agT (zr0 _ _ _ _ _ _ _ _ _ _ _ _ _ _ _ _ aoT aoT) (hq:=zl ⟨rfl,rfl⟩))))) (hk:=?_)))|(guard_target =~ dw _ _ _ _ _ (8::_) _ _ _ _;(refine yn rfl rfl (h:=zH (h:=zj (f:=120) rfl Tryz.call120 (h:=AEq.sub' [0,1,2,3,4,5,6,7] (by refine⟨?_,?_,?_,trivial⟩<;>(first|exact zD (by rfl) (by rfl)|exact zi|exact zL ⟨zi,zi,zi,zi,zq id id,zq id id,zi,zi,zi,zi,zi,zi,zi,trivial⟩)) suT (zcM 1 n o us uxs um vs vxs vm 0 (wgG g pd) s (wpG p pd) fd d fs e wt pa al pr la co sp (by omega) hel (by omega) (by omega) k5) (by rfl) (hq:=zl ⟨rfl,rfl⟩)))) (hk:=?_))))|refine hK _ _ ?_;clear hK K)
 ·dsimp only at k2 k3 k4 k5 hM
  simp only[Prod.mk.injEq,DT.mk.injEq]at hM
  obtain⟨rfl,rfl,rfl,rfl,rfl⟩:=hM
  subst hN2
  subst hO2
  subst k3
  refine enT Tryz.func69 Tryz.ntmps69 ?_
  have hU:=And.intro @beqN ( And.intro @eocI (@eocB))
  repeat'(first|refine goR ?_|refine zd fun K hK=>?_|refine zc ?_ ?_<;>intro hcd<;>(try simp only[hcP]at hcd)<;>try exact cdT|(refine zj (f:=120) rfl Tryz.call120 (h:=AEq.sub' [0,1,2,3,4,5,6,7] (by refine⟨?_,?_,?_,trivial⟩<;>(first|exact zD (by rfl) (by rfl)|exact zi|exact zL ⟨zi,zi,zi,zi,zq id id,zq id id,zi,zi,zi,zi,zi,zi,zi,trivial⟩)) suT (zaN 1 n o us uxs um vs vxs vm t g s p fd d fs e wt pa al pr la co sp (by omega) hel (by omega) (by omega) k5) (by rfl) (hq:=?_)))|refine y14 ?_|((refine zo [0,1,2,3,4,5,6,7] (by rw[Tryz.results69,Lf.zI]) (zw ?_) ?_)<;>(try exact uT))|refine hK _ _ ?_;clear hK K)
end Go.Proofs.YtdalcgfnlbofdaaGreatDoor
