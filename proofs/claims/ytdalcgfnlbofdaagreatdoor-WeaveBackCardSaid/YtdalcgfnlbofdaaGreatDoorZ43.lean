import Derived.Test.YtdalcgfnlbofdaaGreatDoorZ42
set_option linter.unusedVariables false
set_option linter.unusedSimpArgs false
namespace Go.Proofs.YtdalcgfnlbofdaaGreatDoor
open Go Go.Lf Go.Proofs
attribute [local irreducible] Lf.rg Lf.ro Lf.PWp Lf.SOp Lf.ACall Lf.Scoped Lf.dg Lf.dw
set_option maxRecDepth 20000
set_option maxHeartbeats 4000000
def zrx(x:ItF): Bool:=decide (200<x.f.d.length\/30<x.f.st.length) || zqW x.fl 12 100
def zry(y:WyF): Bool:=decide (6<y.z.length\/10<y.y.length\/10<y.ps.length)
def zlr: List ItF->Bool
 | []=>false
 | x::l=>if zrx x=true then true else zlr l
def zls: List WyF->Bool
 | []=>false
 | x::l=>if zry x=true then true else zls l
def zlb(l:List ItF)(ws:List WyF): Bool:=if 20<l.length\/20<ws.length then true else if zlr l=true then true else zls ws
theorem zlc: ∀{l:List ItF},zlr l=false->∀x∈l,zrx x=false
 | [],_,x,hx=>by simp at hx
 | y::l,h,x,hx=>by
  unfold zlr at h
  split at h
  ·cases h
  ·rename_i hy
   rcases List.mem_cons.1 hx with rfl|hx
   ·simpa using hy
   ·exact zlc h x hx
theorem zld: ∀{l:List WyF},zls l=false->∀x∈l,zry x=false
 | [],_,x,hx=>by simp at hx
 | y::l,h,x,hx=>by
  unfold zls at h
  split at h
  ·cases h
  ·rename_i hy
   rcases List.mem_cons.1 hx with rfl|hx
   ·simpa using hy
   ·exact zld h x hx
theorem zhm{l:List ItF}{i:Nat}{w:Int}{t g s p:Int}{fd:Bool}{d:List UInt8}{fs:Bool}{e:List (Int×Int)}{wt pa:Int}{al:Bool}{pr la co sp:Int}{bk ff:Bool}{fl:List Fl}(h:l[i]?=some ⟨w,⟨t,g,s,p,fd,d,fs,e,wt,pa,al,pr,la,co,sp⟩,bk,ff,fl⟩):
    List.map itA (l.take i)++[[i64 w,i64 t,i64 g,i64 s,i64 p,.sl fd false (d.map zk),.sl fs false (e.map z7),i64 wt,i64 pa,bl al,i64 pr,i64 la,i64 co,i64 sp,bl bk,.sl ff false (fl.map flA)]]=List.map itA (l.take (i+1)):=by
  rw[zar h,List.map_append];rfl
theorem zeG(f q f2 q2:Bool)(l:List ItF)(ws:List WyF)(hl:l.length<=9223372036854775807)(hws:ws.length<=9223372036854775807)(hli:∀x∈l,x.f.d.length<=9223372036854775807/\x.f.st.length<=9223372036854775807/\x.fl.length<=9223372036854775807)(hwi:∀y∈ws,y.z.length<=9223372036854775807/\y.y.length<=9223372036854775807/\y.ps.length<=9223372036854775807): AEq Tryz.prog 24 [.sl f q (l.map itA),.sl f2 q2 (ws.map wyA)] [] (bl (zlb l ws)) []:=by
 by_cases h20:20<l.length\/20<ws.length
 ·rw[show zlb l ws=true from if_pos h20]
  refine enT Tryz.func24 Tryz.ntmps24 ?_
  by_cases h1:20<l.length
  ·have hU:=True.intro
   exact wJ
  ·have h2 : 20 < ws.length := by omega
   have hU:=True.intro
   exact wJ
 have h1:¬20<l.length:=by omega
 have h2:¬20<ws.length:=by omega
 have hL:zlb l ws=if zlr l=true then true else zls ws:=if_neg h20
 refine enT Tryz.func24 Tryz.ntmps24 ?_
 have hU:=True.intro
 repeat'(first|refine goR ?_|refine zd fun K hK=>?_|refine zc ?_ ?_<;>intro hcd<;>(try simp only[hcP]at hcd)<;>try exact cdT|refine hK _ _ ?_;clear hK K)
 refine zO [4,5,15,16,17,18,19,20,21,22,23,24,25,26,27,28,29,30,31,32,33,34,35,36,37,38,39,40,41,42,43,44,45,46] (fun i:Nat=>[(5,i64 i)]) (fun _=>[]) (fun i=>i<=l.length/\zlr l=zlr (l.drop i)) (fun i=>l.length-i) 0 ⟨Nat.zero_le _,rfl⟩ ?_ rfl ?_
 ·(refine⟨⟨_,sT,?_⟩,trivial⟩<;>(try exact zu))
 ·rintro i ⟨hi,hk⟩
  simp only[yN,List.map_cons,List.map_nil,List.cons_append,List.nil_append]
  by_cases hlt:i<l.length
  ·obtain⟨⟨w,⟨xt,xg,xs,xp,xfd,xd,xfs,xe,xwt,xpa,xal,xpr,xla,xco,xsp⟩,bk,ff,fl⟩,hd⟩:=vR hlt
   obtain⟨hm1,hm2,hm3⟩:=hli _ (List.mem_of_getElem? hd)
   dsimp only at hm1 hm2 hm3
   rw[kp hd,zlr]at hk
   by_cases c1:200<xd.length
   ·rw [if_pos (by simp [zrx, c1])] at hk
    rw[show zlb l ws=true by rw[hL,if_pos hk]]
    exact w8
   ·by_cases c2:30<xe.length
    ·rw [if_pos (by simp [zrx, c2])] at hk
     rw[show zlb l ws=true by rw[hL,if_pos hk]]
     exact w8
    ·cases c3:zqW fl 12 100 with
     | true=>
      rw[if_pos (by simp[zrx,c3])]at hk
      rw[show zlb l ws=true by rw[hL,if_pos hk]]
      have hU:=@c3
      repeat'(first|refine goR ?_|refine zd fun K hK=>?_|refine zc ?_ ?_<;>intro hcd<;>(try simp only[hcP]at hcd)<;>try exact cdT|(guard_target =~ rg _ _ _ (⟨_,_,_,_,_,some _⟩::_) _ _ _;(first|refine zP gT (fun hcd=>?_) (fun hcd=>?_)|refine zK gT (fun hcd=>?_) (fun hcd=>?_))<;>(try simp only[hcd])<;>(try(simp only[Bool.not_eq_true',Bool.not_eq_false']at hcd;try simp only[hcd]))<;>(refine kC (Γ2:=_) ewT ?_)<;>(try simp only[hcP]at hcd)<;>(try exact cdT))|(refine zj (f:=30) rfl Tryz.call30 (h:=AEq.pure' agT (zgZ _ _ _ _ _ (by assumption)) (hq:=?_)))|((refine zo [] (by rw[Tryz.results24,Lf.zI]) (zw ?_) ?_)<;>(try exact uT))|refine hK _ _ ?_;clear hK K)
     | false=>
      rw[if_neg (by simp[zrx,c3,c1,c2])]at hk
      have hU:=@c3
      repeat'(first|refine goR ?_|refine zd fun K hK=>?_|refine zc ?_ ?_<;>intro hcd<;>(try simp only[hcP]at hcd)<;>try exact cdT|(guard_target =~ rg _ _ _ (⟨_,_,_,_,_,some _⟩::_) _ _ _;(first|refine zP gT (fun hcd=>?_) (fun hcd=>?_)|refine zK gT (fun hcd=>?_) (fun hcd=>?_))<;>(try simp only[hcd])<;>(try(simp only[Bool.not_eq_true',Bool.not_eq_false']at hcd;try simp only[hcd]))<;>(refine kC (Γ2:=_) ewT ?_)<;>(try simp only[hcP]at hcd)<;>(try exact cdT))|(refine zj (f:=30) rfl Tryz.call30 (h:=AEq.pure' agT (zgZ _ _ _ _ _ (by assumption)) (hq:=?_)))|refine hK _ _ ?_;clear hK K)
      refine⟨i+1,⟨by omega,hk⟩,by omega,?_,arT,srT⟩
      (refine⟨⟨_,sT,?_⟩,trivial⟩<;>(try exact zu))
  ·rw [List.drop_eq_nil_of_le (by omega), zlr] at hk
   have hL2:zlb l ws=zls ws:=by rw[hL,if_neg (by rw[hk];simp)]
   repeat'(first|refine goR ?_|refine zd fun K hK=>?_|refine zc ?_ ?_<;>intro hcd<;>(try simp only[hcP]at hcd)<;>try exact cdT|refine hK _ _ ?_;clear hK K|(apply_assumption (exfalso:=false) (symm:=false)))
   refine zO [4,6,47,48,49,50,51,52,53,54,55,56,57,58,59,60,61,62,63,64,65,66,67,68,69,70,71,72,73,74,75,76,77] (fun i:Nat=>[(6,i64 i)]) (fun _=>[]) (fun i=>i<=ws.length/\zls ws=zls (ws.drop i)) (fun i=>ws.length-i) 0 ⟨Nat.zero_le _,rfl⟩ ?_ rfl ?_
   ·(refine⟨⟨_,sT,?_⟩,trivial⟩<;>(try exact zu))
   ·rintro j ⟨hj,hk2⟩
    simp only[yN,List.map_cons,List.map_nil,List.cons_append,List.nil_append]
    by_cases hlt2:j<ws.length
    ·obtain⟨⟨zf,z,yf,y,pf,ps,pd⟩,hd⟩:=vR hlt2
     obtain⟨hm1,hm2,hm3⟩:=hwi _ (List.mem_of_getElem? hd)
     dsimp only at hm1 hm2 hm3
     rw[kp hd,zls]at hk2
     by_cases c1:6<z.length
     ·rw [if_pos (by simp [zry, c1])] at hk2
      rw[hL2,hk2]
      exact w8
     ·by_cases c2:10<y.length
      ·rw [if_pos (by simp [zry, c2])] at hk2
       rw[hL2,hk2]
       exact w8
      ·by_cases c3:10<ps.length
       ·rw [if_pos (by simp [zry, c3])] at hk2
        rw[hL2,hk2]
        exact w8
       ·rw [if_neg (by simp [zry, c1, c2, c3])] at hk2
        repeat'(first|refine goR ?_|refine zd fun K hK=>?_|refine zc ?_ ?_<;>intro hcd<;>(try simp only[hcP]at hcd)<;>try exact cdT|(guard_target =~ rg _ _ _ (⟨_,_,_,_,_,some _⟩::_) _ _ _;(first|refine zP gT (fun hcd=>?_) (fun hcd=>?_)|refine zK gT (fun hcd=>?_) (fun hcd=>?_))<;>(try simp only[hcd])<;>(try(simp only[Bool.not_eq_true',Bool.not_eq_false']at hcd;try simp only[hcd]))<;>(refine kC (Γ2:=_) ewT ?_)<;>(try simp only[hcP]at hcd)<;>(try exact cdT))|refine hK _ _ ?_;clear hK K)
        refine⟨j+1,⟨by omega,hk2⟩,by omega,?_,arT,srT⟩
        (refine⟨⟨_,sT,?_⟩,trivial⟩<;>(try exact zu))
    ·rw [List.drop_eq_nil_of_le (by omega), zls] at hk2
     repeat'(first|refine goR ?_|refine zd fun K hK=>?_|refine zc ?_ ?_<;>intro hcd<;>(try simp only[hcP]at hcd)<;>try exact cdT|((refine zo [] (by rw[Tryz.results24,Lf.zI]) (zw ?_) ?_)<;>(try exact uT))|refine hK _ _ ?_;clear hK K|(apply_assumption (exfalso:=false) (symm:=false)))
     all_goals exact zJ (by rw[hL2,hk2])
theorem zws(f q:Bool)(l:List ItF)(h:l.length<=100000): AEq Tryz.prog 26 [.sl f q (l.map itA)] [] (.sl false false (l.map itA)) []:=by
 refine enT Tryz.func26 Tryz.ntmps26 ?_
 have hU:=And.intro @eocI ( And.intro @eocB (@beqN))
 repeat'(first|refine goR ?_|refine zd fun K hK=>?_|refine hK _ _ ?_;clear hK K)
 refine kD 3 70 16 (by decide) (by rfl) rfl rfl ?_
 refine zN [3,5,8,9,10,11,12,13,14,15,16,17,18,19,20,21,22,23,24] (fun i:Nat=>[(8,i64 i),(3,.row 0 i)]) (fun i=>[.row i 70 16 ((l.take i).map itA)]) (fun i=>i<=l.length) (fun i=>l.length-i) 0 (Nat.zero_le _) ?_ (by first|rfl|(dsimp only;done)|(dsimp only;rfl)) ?_
 ·try dsimp only
  (refine⟨⟨_,sT,?_⟩,⟨_,sT,?_⟩,trivial⟩<;>(try exact zu))
 ·rintro i hi
  simp only[yN,List.map_cons,List.map_nil,List.cons_append,List.nil_append]
  by_cases hlt:i<l.length
  ·obtain⟨⟨w,⟨xt,xg,xs,xp,xfd,xd,xfs,xe,xwt,xpa,xal,xpr,xla,xco,xsp⟩,bk,ff,fl⟩,hx⟩:=vR hlt
   have hap:=zhm hx
   have htl:(l.take i).length=i:=by rw[List.length_take];omega
   have hU:=And.intro @hap ( And.intro @eocI ( And.intro @eocB (@beqN)))
   repeat'(first|refine goS ?_|refine zd fun K hK=>?_|refine zc ?_ ?_<;>intro hcd<;>(try simp only[hcP]at hcd)<;>try exact cdT|refine hK _ _ ?_;clear hK K)
   refine⟨i+1,[0],by omega,by omega,rfl,?_,arT,?_⟩
   ·try dsimp only
    (refine⟨⟨_,sT,?_⟩,⟨_,sT,?_⟩,trivial⟩<;>(try exact zu))
   ·try dsimp only
    first|rfl|(simp(disch:=omega)only[go_sem,seval,↓reduceIte,hap,eocI,eocB,beqN];done)|(simp(disch:=omega)only[go_sem,seval,↓reduceIte,hap,eocI,eocB,beqN];rfl)|trace_state
  ·have he : l.take i = l := List.take_of_length_le (by omega)
   rw[he]
   have hU:=True.intro
   repeat'(first|refine goR ?_|refine zd fun K hK=>?_|refine zc ?_ ?_<;>intro hcd<;>(try simp only[hcP]at hcd)<;>try exact cdT|((refine zo [] (by rw[Tryz.results26,Lf.zI]) (zw ?_) ?_)<;>(try exact uT))|refine hK _ _ ?_;clear hK K|(apply_assumption (exfalso:=false) (symm:=false)))
theorem zzO(f q:Bool)(l:List ItF)(h:l.length<=100000): AEq Tryz.prog 23 [.sl f q (l.map itA)] [] (.sl false false (l.map itA)) []:=by
 refine enT Tryz.func23 Tryz.ntmps23 ?_
 have hU:=And.intro @eocI ( And.intro @eocB (@beqN))
 repeat'(first|refine goR ?_|refine zd fun K hK=>?_|refine hK _ _ ?_;clear hK K)
 refine kD 3 73 16 (by decide) (by rfl) rfl rfl ?_
 refine zN [3,5,8,9,10,11,12,13,14,15,16,17,18,19,20,21,22,23,24] (fun i:Nat=>[(8,i64 i),(3,.row 0 i)]) (fun i=>[.row i 73 16 ((l.take i).map itA)]) (fun i=>i<=l.length) (fun i=>l.length-i) 0 (Nat.zero_le _) ?_ (by first|rfl|(dsimp only;done)|(dsimp only;rfl)) ?_
 ·try dsimp only
  (refine⟨⟨_,sT,?_⟩,⟨_,sT,?_⟩,trivial⟩<;>(try exact zu))
 ·rintro i hi
  simp only[yN,List.map_cons,List.map_nil,List.cons_append,List.nil_append]
  by_cases hlt:i<l.length
  ·obtain⟨⟨w,⟨xt,xg,xs,xp,xfd,xd,xfs,xe,xwt,xpa,xal,xpr,xla,xco,xsp⟩,bk,ff,fl⟩,hx⟩:=vR hlt
   have hap:=zhm hx
   have htl:(l.take i).length=i:=by rw[List.length_take];omega
   have hU:=And.intro @hap ( And.intro @eocI ( And.intro @eocB (@beqN)))
   repeat'(first|refine goS ?_|refine zd fun K hK=>?_|refine zc ?_ ?_<;>intro hcd<;>(try simp only[hcP]at hcd)<;>try exact cdT|refine hK _ _ ?_;clear hK K)
   refine⟨i+1,[0],by omega,by omega,rfl,?_,arT,?_⟩
   ·try dsimp only
    (refine⟨⟨_,sT,?_⟩,⟨_,sT,?_⟩,trivial⟩<;>(try exact zu))
   ·try dsimp only
    first|rfl|(simp(disch:=omega)only[go_sem,seval,↓reduceIte,hap,eocI,eocB,beqN];done)|(simp(disch:=omega)only[go_sem,seval,↓reduceIte,hap,eocI,eocB,beqN];rfl)|trace_state
  ·have he : l.take i = l := List.take_of_length_le (by omega)
   rw[he]
   have hU:=True.intro
   repeat'(first|refine goR ?_|refine zd fun K hK=>?_|refine zc ?_ ?_<;>intro hcd<;>(try simp only[hcP]at hcd)<;>try exact cdT|((refine zo [] (by rw[Tryz.results23,Lf.zI]) (zw ?_) ?_)<;>(try exact uT))|refine hK _ _ ?_;clear hK K|(apply_assumption (exfalso:=false) (symm:=false)))
end Go.Proofs.YtdalcgfnlbofdaaGreatDoor
