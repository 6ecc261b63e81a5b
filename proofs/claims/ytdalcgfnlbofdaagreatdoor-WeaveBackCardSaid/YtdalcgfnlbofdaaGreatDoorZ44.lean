import Derived.Test.YtdalcgfnlbofdaaGreatDoorZ43
set_option linter.unusedVariables false
set_option linter.unusedSimpArgs false
namespace Go.Proofs.YtdalcgfnlbofdaaGreatDoor
open Go Go.Lf Go.Proofs
attribute [local irreducible] Lf.rg Lf.ro Lf.PWp Lf.SOp Lf.ACall Lf.Scoped Lf.dg Lf.dw
set_option maxRecDepth 20000
set_option maxHeartbeats 4000000
def wyZ(y:WyF): WyF:=⟨y.zf,y.z,false,y.y,y.pf,y.ps,y.p⟩
theorem zy4(l:List WyF): (l.map wyZ).map wyG=l.map wyG:=by
 rw[List.map_map]
 apply List.map_congr_left
 intro y _
 rfl
theorem znB{l:List WyF}{i:Nat}{zf:Bool}{z:List Int}{yf:Bool}{y:List Op4}{pf:Bool}{ps:List Int}{pd:Int}(h:l[i]?=some ⟨zf,z,yf,y,pf,ps,pd⟩):
    List.map wyA (List.map wyZ (l.take i))++[[.sl zf false (z.map yz),.sl false false (y.map opA),.sl pf false (ps.map yz),i64 pd]]=List.map wyA (List.map wyZ (l.take (i+1))):=by
  rw[zar h,List.map_append,List.map_append];rfl
theorem intD(n:Int): (n == n)=true:=beq_self_eq_true n
theorem boolD(n:Bool): (n == n)=true:=beq_self_eq_true n
theorem flD(l:List Fl): decide (l=l)=true:=decide_eq_true rfl
theorem zvE(w t g s p:Int)(fd:Bool)(d:List UInt8)(fs:Bool)(e:List (Int×Int))(wt pa:Int)(al:Bool)(pr la co sp:Int)(bk ff:Bool)(fl:List Fl)(fd' fs' ff':Bool)(hd:d.length<=1000000)(he:e.length<=1000000)(hf:fl.length<=1000000): AEq Tryz.prog 28 [.ag [i64 w,i64 t,i64 g,i64 s,i64 p,.sl fd false (d.map zk),.sl fs false (e.map z7),i64 wt,i64 pa,bl al,i64 pr,i64 la,i64 co,i64 sp,bl bk,.sl ff false (fl.map flA)],.ag [i64 w,i64 t,i64 g,i64 s,i64 p,.sl fd' false (d.map zk),.sl fs' false (e.map z7),i64 wt,i64 pa,bl al,i64 pr,i64 la,i64 co,i64 sp,bl bk,.sl ff' false (fl.map flA)]] [] (bl true) []:=by
 have hG:decide ((⟨t,g,s,p,d,e,wt,pa,al,pr,la,co,sp⟩:Gm)=⟨t,g,s,p,d,e,wt,pa,al,pr,la,co,sp⟩)=true:=decide_eq_true rfl
 refine enT Tryz.func28 Tryz.ntmps28 ?_
 have hU:=And.intro @hG ( And.intro @intD ( And.intro @boolD ( And.intro @flD ( And.intro @eocI (@eocB)))))
 repeat'(first|refine goR ?_|refine zd fun K hK=>?_|(refine zj (f:=71) rfl Tryz.call71 (h:=AEq.pure' agT (zre _ _ _ _ _ _ aoT) (hq:=?_)))|refine y1M ?_|((refine zo [] (by rw[Tryz.results28,Lf.zI]) (zw ?_) ?_)<;>(try exact uT))|refine hK _ _ ?_;clear hK K)
theorem zoN(w t g s p:Int)(fd:Bool)(d:List UInt8)(fs:Bool)(e:List (Int×Int))(wt pa:Int)(al:Bool)(pr la co sp:Int)(bk ff:Bool)(fl:List Fl)(fd' fs' ff':Bool)(hd:d.length<=1000000)(he:e.length<=1000000)(hf:fl.length<=1000000): AEq Tryz.prog 29 [.ag [i64 w,i64 t,i64 g,i64 s,i64 p,.sl fd false (d.map zk),.sl fs false (e.map z7),i64 wt,i64 pa,bl al,i64 pr,i64 la,i64 co,i64 sp,bl bk,.sl ff false (fl.map flA)],.ag [i64 w,i64 t,i64 g,i64 s,i64 p,.sl fd' false (d.map zk),.sl fs' false (e.map z7),i64 wt,i64 pa,bl al,i64 pr,i64 la,i64 co,i64 sp,bl bk,.sl ff' false (fl.map flA)]] [] (bl true) []:=by
 have hG:decide ((⟨t,g,s,p,d,e,wt,pa,al,pr,la,co,sp⟩:Gm)=⟨t,g,s,p,d,e,wt,pa,al,pr,la,co,sp⟩)=true:=decide_eq_true rfl
 refine enT Tryz.func29 Tryz.ntmps29 ?_
 have hU:=And.intro @hG ( And.intro @intD ( And.intro @boolD ( And.intro @flD ( And.intro @eocI (@eocB)))))
 repeat'(first|refine goR ?_|refine zd fun K hK=>?_|(refine zj (f:=73) rfl Tryz.call73 (h:=AEq.pure' agT (zrd _ _ _ _ _ _ aoT) (hq:=?_)))|(refine zj (f:=72) rfl Tryz.call72 (h:=AEq.pure' agT (zq1 _ _ _ _ _ _ _ _ _ _ _ _ _ _ _ _ _ _ _ _ _ _ _ _ _ _ _ _ _ _ aoT aoT) (hq:=?_)))|((refine zo [] (by rw[Tryz.results29,Lf.zI]) (zw ?_) ?_)<;>(try exact uT))|refine hK _ _ ?_;clear hK K)
theorem znC(f q:Bool)(l:List WyF)(h:l.length<=100000)(hy:∀y∈l,y.y.length<=100000): AEq Tryz.prog 27 [.sl f q (l.map wyA)] [] (.sl false false ((l.map wyZ).map wyA)) []:=by
 refine enT Tryz.func27 Tryz.ntmps27 ?_
 have hU:=And.intro @eocI ( And.intro @eocB (@beqN))
 repeat'(first|refine goR ?_|refine zd fun K hK=>?_|refine hK _ _ ?_;clear hK K)
 refine kD 3 107 4 (by decide) (by rfl) rfl rfl ?_
 refine zN [3,5,6,8,11,12,13,14,15,16,17,18,19,20,21,22,23,24,25,26,27,28,29,30,31,32,33,34,35,36,37,38,39,40,41,42,43,44,45,46] (fun i:Nat=>[(11,i64 i),(3,.row 0 i)]) (fun i=>[.row i 107 4 (((l.take i).map wyZ).map wyA)]) (fun i=>i<=l.length) (fun i=>l.length-i) 0 (Nat.zero_le _) ?_ (by first|rfl|(dsimp only;done)|(dsimp only;rfl)) ?_
 ·try dsimp only
  (refine⟨⟨_,sT,?_⟩,⟨_,sT,?_⟩,trivial⟩<;>(try exact zu))
 ·rintro i hi
  simp only[yN,List.map_cons,List.map_nil,List.cons_append,List.nil_append]
  by_cases hlt:i<l.length
  ·obtain⟨⟨zf,z,yf,y,pf,ps,pd⟩,hx⟩:=vR hlt
   have hyl:=hy _ (List.mem_of_getElem? hx)
   dsimp only at hyl
   have hap:=znB hx
   have htl:(((l.take i).map wyZ)).length=i:=by rw[List.length_map,List.length_take];omega
   have hU:=And.intro @hap ( And.intro @eocI ( And.intro @eocB (@beqN)))
   repeat'(first|refine goR ?_|(guard_target =~ PWp _ _ _ _ _ _ _;(guard_target =~ PWp _ _ _ (Code.seq (Code.region 6 _ _) _) _ _ _);refine kD 6 144 4 (by decide) (by rfl) rfl rfl ?_)|refine zd fun K hK=>?_|refine zc ?_ ?_<;>intro hcd<;>(try simp only[hcP]at hcd)<;>try exact cdT|refine hK _ _ ?_;clear hK K)
   refine zN [6,8,18,19,20,21,22,23,24,25,26,27,28,29,30,31,32,33,34] (fun j:Nat=>[(18,i64 j),(6,.row 2 j)]) (fun j=>[.row i 107 4 (((l.take i).map wyZ).map wyA),.box [.sl zf false (z.map yz),.sl yf false (y.map opA),.sl pf false (ps.map yz),i64 pd],.row j 144 4 ((y.take j).map opA)]) (fun j=>j<=y.length) (fun j=>y.length-j) 0 (Nat.zero_le _) ?_ (by first|rfl|(dsimp only;done)|(dsimp only;rfl)) ?_
   ·try dsimp only
    (refine⟨⟨_,sT,?_⟩,⟨_,sT,?_⟩,trivial⟩<;>(try exact zu))
   ·rintro j hj
    simp only[yN,List.map_cons,List.map_nil,List.cons_append,List.nil_append]
    by_cases hlt2:j<y.length
    ·obtain⟨⟨ow,o1,o2,o3⟩,hx2⟩:=vR hlt2
     have hap2:=zqX hx2
     have htl2:(y.take j).length=j:=by rw[List.length_take];omega
     dsimp only at hap2
     have hU:=And.intro @hap2 ( And.intro @eocI ( And.intro @eocB (@beqN)))
     repeat'(first|refine goS ?_|refine zd fun K hK=>?_|refine zc ?_ ?_<;>intro hcd<;>(try simp only[hcP]at hcd)<;>try exact cdT|refine hK _ _ ?_;clear hK K)
     refine⟨j+1,[0,1,2],by omega,by omega,rfl,?_,arT,?_⟩
     ·try dsimp only
      (refine⟨⟨_,sT,?_⟩,⟨_,sT,?_⟩,trivial⟩<;>(try exact zu))
     ·try dsimp only
      first|rfl|(simp(disch:=omega)only[go_sem,seval,↓reduceIte,hap2,eocI,eocB,beqN];done)|(simp(disch:=omega)only[go_sem,seval,↓reduceIte,hap2,eocI,eocB,beqN];rfl)|trace_state
    ·have he : y.take j = y := List.take_of_length_le (by omega)
     rw[he]
     by_cases hj0:j=0
     ·subst hj0
      have hjf:(True=True)=True:=by simp
      repeat'(first|refine y2c ?_|refine goS ?_|refine zd fun K hK=>?_|refine zc ?_ ?_<;>intro hcd<;>(try simp only[hcP]at hcd)<;>try exact cdT|refine hK _ _ ?_;clear hK K|(apply_assumption (exfalso:=false) (symm:=false)))
      refine⟨i+1,[0],by omega,by omega,rfl,?_,arT,?_⟩
      ·try dsimp only
       (refine⟨⟨_,sT,?_⟩,⟨_,sT,?_⟩,trivial⟩<;>(try exact zu))
      ·try dsimp only
       first|rfl|(simp(disch:=omega)only[go_sem,seval,↓reduceIte,hap,eocI,eocB,beqN];done)|(simp(disch:=omega)only[go_sem,seval,↓reduceIte,hap,eocI,eocB,beqN];rfl)|trace_state
     ·have hjf:(j=0)=False:=eq_false hj0
      have hU:=And.intro @hap ( And.intro @eocI ( And.intro @eocB ( And.intro @beqN (@hjf))))
      repeat'(first|refine y2c ?_|refine goS ?_|refine zd fun K hK=>?_|refine zc ?_ ?_<;>intro hcd<;>(try simp only[hcP]at hcd)<;>try exact cdT|refine hK _ _ ?_;clear hK K|(apply_assumption (exfalso:=false) (symm:=false)))
      refine⟨i+1,[0],by omega,by omega,rfl,?_,arT,?_⟩
      ·try dsimp only
       (refine⟨⟨_,sT,?_⟩,⟨_,sT,?_⟩,trivial⟩<;>(try exact zu))
      ·try dsimp only
       first|rfl|(simp(disch:=omega)only[go_sem,seval,↓reduceIte,hap,eocI,eocB,beqN,hjf];done)|(simp(disch:=omega)only[go_sem,seval,↓reduceIte,hap,eocI,eocB,beqN,hjf];rfl)|trace_state
  ·have he : l.take i = l := List.take_of_length_le (by omega)
   rw[he]
   have hU:=True.intro
   repeat'(first|refine goR ?_|refine zd fun K hK=>?_|refine zc ?_ ?_<;>intro hcd<;>(try simp only[hcP]at hcd)<;>try exact cdT|((refine zo [] (by rw[Tryz.results27,Lf.zI]) (zw ?_) ?_)<;>(try exact uT))|refine hK _ _ ?_;clear hK K|(apply_assumption (exfalso:=false) (symm:=false)))
instance (w t g st p:Int) (d:List UInt8) (e:List (Int×Int)) (wt pa:Int) (al:Bool) (pr la co sp:Int):Decidable (zkG w t g st p d e wt pa al pr la co sp):=by unfold zkG;infer_instance
instance (w:Int) (f:Gm):Decidable (emG w f):=by unfold emG;infer_instance
def alF: List Fl:=[⟨⟨#[97]⟩,⟨#[]⟩,false⟩,⟨⟨#[98]⟩,⟨#[]⟩,false⟩,⟨⟨#[99]⟩,⟨#[]⟩,false⟩]
def alI: List ItF:=[⟨0,⟨1,0,1,-1,true,[],true,[],0,0,false,0,0,0,0⟩,true,true,alF⟩]
def alP: List Int:=[1,1]
def alW: List WyF:=[⟨true,[],true,[],true,alP,-1⟩]
def alB: List UInt8:=[64,1,97,0,64,1,98,0,64,1,99,0]
theorem zvF: (jL [] alF [] dt0).o=alB:=by kernel_rfl
def zwt: Gm:=⟨1,0,1,-1,[64],[],0,0,false,0,0,0,0⟩
def zwu: Gm:=⟨9,0,1,-1,[1],[],0,0,false,0,0,0,0⟩
def zwv: Gm:=⟨9,4,1,-1,[97,0,64,1,98,0,64,1,99,0],[],0,0,false,0,0,0,0⟩
theorem zrz: emG 0 zwt:=by decide
theorem zrA: emG 0 zwu:=by decide
theorem zrB: emG 0 zwv:=by decide
theorem zvG: yD ⟨0,⟨1,0,1,-1,[],[],0,0,false,0,0,0,0⟩,true,alF⟩:=⟨.inl rfl,rfl,fun h=>absurd h (by decide),fun _=>⟨.inl rfl,rfl,by decide,by decide⟩⟩
def alR: List Fr:=[rwF 0 zwt,rwF 0 zwu,rwF 0 zwv]
theorem zrC: itM ⟨0,⟨1,0,1,-1,[],[],0,0,false,0,0,0,0⟩,true,alF⟩ (kx (alW.map wyG) 0) dt0=([zwt,zwu,zwv],true,(jL [] alF [] dt0).t):=by
 have hw:kx (alW.map wyG) 0=⟨[],[],alP,-1⟩:=rfl
 rw[hw]
 unfold itM
 rw[if_neg (fun h=>h.elim (fun h=>h zvG) (fun h=>absurd h (by decide))),if_neg (fun h=>by have:=h.2;simp[zaV]at this)]
 rw[show wvI ⟨0,⟨1,0,1,-1,[],[],0,0,false,0,0,0,0⟩,true,alF⟩ ⟨[],[],alP,-1⟩ dt0=([zwt,zwu,zwv],(jL [] alF [] dt0).t)from by
  rw[znk,zvF];rfl]
 rw[zrs (by
  intro f hf
  simp only[List.mem_cons,List.not_mem_nil,or_false]at hf
  rcases hf with rfl|rfl|rfl
  ·exact zrz
  ·exact zrA
  ·exact zrB)]
theorem al_weave: wvR (wvM (alW.map wyG) 0 (alI.map itG) dt0 dt0 frE)=.tu [.sl false false (alR.map frA),i64 0]:=by
 have h:wvM (alW.map wyG) 0 (alI.map itG) dt0 dt0 frE=some alR:=by
  show wvM (alW.map wyG) 0 (⟨0,⟨1,0,1,-1,[],[],0,0,false,0,0,0,0⟩,true,alF⟩::[]) dt0 dt0 frE=some alR
  rw[zrw rfl zrC]
  rfl
 rw[h];rfl
theorem alR_len: alR.length=3:=rfl
def alB2: List UInt8:=wrB 9 0 (-1) [1] [] 0 0 false 0 0 0 0
def zzP: List UInt8:=wrB 9 4 (-1) [97,0,64,1,98,0,64,1,99,0] [] 0 0 false 0 0 0 0
theorem alB2_len: alB2.length=1:=by decide
theorem zy5: alR[1]?=some ⟨false,0,9,0,1,false,alB2⟩:=rfl
theorem zy6: alR[2]?=some ⟨false,0,9,4,1,false,zzP⟩:=rfl
theorem zy7: ∀x∈alI,ItK x:=by
 intro x hx
 rw[alI,List.mem_singleton]at hx
 subst hx
 exact⟨by simp,by simp,by simp,by simp[alF],by intro f hf;simp only[alF,List.mem_cons,List.not_mem_nil,or_false]at hf;rcases hf with rfl|rfl|rfl<;>decide⟩
theorem zy8: ∀y∈alW,WyK y:=by
 intro y hy
 rw[alW,List.mem_singleton]at hy
 subst hy
 exact⟨by simp,by simp,by simp[alP]⟩
theorem zrD: alI.length=1:=rfl
theorem zrE: alW.length=1:=rfl
attribute [local irreducible] wvM jL dt0 alR alB2 zzP
theorem zb6: AEq Tryz.prog 19 [] [] (bl true) []:=by
 have h1:=zy7
 have h2:=zy8
 have h3:=zrD
 have h4:=zrE
 have h5:=zy5
 have h6:=zy6
 have hl0:0<alW.length:=by omega
 have hl1:alW.length<=1000:=by omega
 have hl2:alI.length<=1000:=by omega
 refine enT Tryz.func19 Tryz.ntmps19 ?_
 have hU:=And.intro @al_weave ( And.intro @alR_len ( And.intro @alB2_len ( And.intro @eocI (@eocB))))
 repeat'(first|refine goR ?_|refine zd fun K hK=>?_|(guard_target =~ SOp _ _ ⟨_,.buildSlice _ _ _,_,_,_,none⟩ _ _ _;refine ks (xs:=List.map (flA) (alF)) rfl (he:=eoT) (hc:=hcT) (hK:=?_))|(guard_target =~ SOp _ _ ⟨_,.buildSlice _ _ _,_,_,_,none⟩ _ _ _;refine ks (xs:=List.map (itA) (alI)) rfl (he:=eoT) (hc:=hcT) (hK:=?_))|(guard_target =~ SOp _ _ ⟨_,.buildSlice _ _ _,_,_,_,none⟩ _ _ _;refine ks (xs:=List.map (yz) (alP)) rfl (he:=eoT) (hc:=hcT) (hK:=?_))|(guard_target =~ SOp _ _ ⟨_,.buildSlice _ _ _,_,_,_,none⟩ _ _ _;refine ks (xs:=List.map (wyA) (alW)) rfl (he:=eoT) (hc:=hcT) (hK:=?_))|refine y1Q ?_|((refine zo [] (by rw[Tryz.results19,Lf.zI]) (zw ?_) ?_)<;>(try exact uT))|refine hK _ _ ?_;clear hK K)
end Go.Proofs.YtdalcgfnlbofdaaGreatDoor
