import Derived.Test.YtdalcgfnlbofdaaGreatDoorZ17
set_option linter.unusedVariables false
set_option linter.unusedSimpArgs false
namespace Go.Proofs.YtdalcgfnlbofdaaGreatDoor
open Go Go.Lf Go.Proofs
attribute [local irreducible] Lf.rg Lf.ro Lf.PWp Lf.SOp Lf.ACall Lf.Scoped Lf.dg Lf.dw
set_option maxRecDepth 20000
set_option maxHeartbeats 4000000
theorem zou{α:Type}{l:List α}{i:Nat}(h:i<l.length): ∃x,l[i]?=some x:=⟨l[i],List.getElem?_eq_getElem h⟩
theorem zm8{α:Type}{a b:List α}(hl:a.length=b.length): (∀i:Nat,i<a.length->a[i]?=b[i]?)->a=b:=by
 intro h
 apply List.ext_getElem?
 intro i
 by_cases hi:i<a.length
 ·exact h i hi
 ·rw[List.getElem?_eq_none (by omega),List.getElem?_eq_none (by omega)]
theorem zhY{α:Type}{a b:List α}{i:Nat}{x y:α}(hx:a[i]?=some x)(hy:b[i]?=some y)(h:∀j:Nat,j<i->a[j]?=b[j]?)(e:x=y): ∀j:Nat,j<i+1->a[j]?=b[j]?:=by
 intro j hj
 by_cases hji:j<i
 ·exact h j hji
 ·obtain rfl : j = i := by omega
  rw[hx,hy,e]
theorem zkv{α:Type}{a b:List α}{i:Nat}{x y:α}(hx:a[i]?=some x)(hy:b[i]?=some y)(e:¬x=y): ¬a=b:=by
 intro h
 subst h
 rw[hx]at hy
 exact e (Option.some.inj hy)
theorem zu9{x y:Int×Int}: x=y↔x.1=y.1/\x.2=y.2:=by
 obtain⟨a,b⟩:=x;obtain⟨c,d⟩:=y;simp
theorem zm9(f g q r:Bool)(a b:List (Int×Int))(ha:a.length<=1000000): AEq Tryz.prog 123 [.sl f q (a.map z7),.sl g r (b.map z7)] [] (bl (decide (a=b))) []:=by
 by_cases hl:a.length=b.length
 ·refine enT Tryz.func123 Tryz.ntmps123 ?_
  have hU:=True.intro
  repeat'(first|refine goR ?_|refine zd fun K hK=>?_|refine zc ?_ ?_<;>intro hcd<;>(try simp only[hcP]at hcd)<;>try exact cdT|refine hK _ _ ?_;clear hK K)
  refine zO [4,5,13,14,15,16,17,18,19,20,21,22,23,24,25] (fun i:Nat=>[(13,i64 i)]) (fun _=>[]) (fun i=>i<=a.length/\∀j:Nat,j<i->a[j]?=b[j]?) (fun i=>a.length-i) 0 ⟨Nat.zero_le _,fun j hj=>by omega⟩ ?_ rfl ?_
  ·(refine⟨⟨_,sT,?_⟩,trivial⟩<;>(try exact zu))
  ·rintro i ⟨hi,hk⟩
   simp only[yN,List.map_cons,List.map_nil,List.cons_append,List.nil_append]
   by_cases hlt:i<a.length
   ·obtain⟨x,hx⟩:=zou hlt
    obtain⟨y,hy⟩:=zou (l:=b) (i:=i) (by omega)
    by_cases hxy:x=y
    ·subst hxy
     repeat'(first|refine goR ?_|refine zd fun K hK=>?_|refine y7 ?_|refine zc ?_ ?_<;>intro hcd<;>(try simp only[hcP]at hcd)<;>try exact cdT|refine hK _ _ ?_;clear hK K|(guard_target =~ dg _ _ _ _ _ _ _;first|(guard_target =~ dg _ _ _ (⟨_,.binOp _ _ _ _ _,_,_,_,none⟩::_) _ _ _;(refine vz (x:=_) (h:=zH (h:=zS (ne:=true) rfl (by first|exact ki|fail) (hc:=rfl) (hK:=zl ⟨rfl,rfl⟩))) (hk:=?_)))|(guard_target =~ dg _ _ _ (⟨_,.indexAddr _ _ _,_,_,_,none⟩::_) _ _ _;(refine vz (x:=_) (h:=zH (h:=zZ rfl (hK:=zl ⟨rfl,rfl⟩))) (hk:=?_))))|(rw[if_pos rfl]))
     refine⟨i+1,⟨by omega,zhY hx hy hk rfl⟩,by omega,?_,arT,srT⟩
     (refine⟨⟨_,sT,?_⟩,trivial⟩<;>(try exact zu))
    ·have hne:=zkv hx hy hxy
     rw[zu9]at hxy
     repeat'(first|refine goR ?_|refine zd fun K hK=>?_|refine y7 ?_|refine zc ?_ ?_<;>intro hcd<;>(try simp only[hcP]at hcd)<;>try exact cdT|((refine zo [] (by rw[Tryz.results123,Lf.zI]) (zw ?_) ?_)<;>(try exact uT))|(guard_target =~ dg _ _ _ _ _ _ _;first|(guard_target =~ dg _ _ _ (⟨_,.binOp _ _ _ _ _,_,_,_,none⟩::_) _ _ _;(refine vz (x:=_) (h:=zH (h:=zS (ne:=true) rfl (by first|exact ki|fail) (hc:=rfl) (hK:=zl ⟨rfl,rfl⟩))) (hk:=?_)))|(guard_target =~ dg _ _ _ (⟨_,.indexAddr _ _ _,_,_,_,none⟩::_) _ _ _;(refine vz (x:=_) (h:=zH (h:=zZ rfl (hK:=zl ⟨rfl,rfl⟩))) (hk:=?_))))|refine hK _ _ ?_;clear hK K)
     all_goals exact zJ (by symm;rw[decide_eq_false_iff_not];exact hne)
   ·have he : a = b := zm8 hl (fun j hj => hk j (by omega))
    repeat'(first|refine goR ?_|refine zd fun K hK=>?_|refine zc ?_ ?_<;>intro hcd<;>(try simp only[hcP]at hcd)<;>try exact cdT|((refine zo [] (by rw[Tryz.results123,Lf.zI]) (zw ?_) ?_)<;>(try exact uT))|refine hK _ _ ?_;clear hK K|(apply_assumption (exfalso:=false) (symm:=false)))
    exact zJ (by symm;rw[decide_eq_true_eq];exact he)
 ·have hne : ¬ a = b := fun e => hl (by rw [e])
  refine enT Tryz.func123 Tryz.ntmps123 ?_
  have hU:=True.intro
  repeat'(first|refine goR ?_|refine zd fun K hK=>?_|refine zc ?_ ?_<;>intro hcd<;>(try simp only[hcP]at hcd)<;>try exact cdT|((refine zo [] (by rw[Tryz.results123,Lf.zI]) (zw ?_) ?_)<;>(try exact uT))|refine hK _ _ ?_;clear hK K)
  exact zJ (by symm;rw[decide_eq_false_iff_not];exact hne)
structure Gm where
 (t g s p:Int) (d:List UInt8) (st:List (Int×Int)) (wt pa:Int) (al:Bool) (pr la co sp:Int)
deriving DecidableEq
theorem zkw(t g s p:Int)(fd:Bool)(d:List UInt8)(fs:Bool)(e:List (Int×Int))(wt pa:Int)(al:Bool)(pr la co sp:Int)(t' g' s' p':Int)(fd':Bool)(d':List UInt8)(fs':Bool)(e':List (Int×Int))(wt' pa':Int)(al':Bool)(pr' la' co' sp':Int)(hd:d.length<=1000000000)(he:e.length<=1000000): AEq Tryz.prog 70 [.ag [i64 t,i64 g,i64 s,i64 p,.sl fd false (d.map zk),.sl fs false (e.map z7),i64 wt,i64 pa,bl al,i64 pr,i64 la,i64 co,i64 sp],.ag [i64 t',i64 g',i64 s',i64 p',.sl fd' false (d'.map zk),.sl fs' false (e'.map z7),i64 wt',i64 pa',bl al',i64 pr',i64 la',i64 co',i64 sp']] [] (bl (decide ((⟨t,g,s,p,d,e,wt,pa,al,pr,la,co,sp⟩:Gm)=(⟨t',g',s',p',d',e',wt',pa',al',pr',la',co',sp'⟩:Gm)))) []:=by
 refine enT Tryz.func70 Tryz.ntmps70 ?_
 have hU:=True.intro
 repeat'(first|refine goR ?_|refine zd fun K hK=>?_|refine zc ?_ ?_<;>intro hcd<;>(try simp only[hcP]at hcd)<;>try exact cdT|(guard_target =~ rg _ _ _ (⟨_,_,_,_,_,some _⟩::_) _ _ _;(first|refine zP gT (fun hcd=>?_) (fun hcd=>?_)|refine zK gT (fun hcd=>?_) (fun hcd=>?_))<;>(try simp only[hcd])<;>(try(simp only[Bool.not_eq_true',Bool.not_eq_false']at hcd;try simp only[hcd]))<;>(refine kC (Γ2:=_) ewT ?_)<;>(try simp only[hcP]at hcd)<;>(try exact cdT))|(guard_target =~ SOp _ _ ⟨_,.binOp _ _ _ _ _,_,_,_,none⟩ _ _ _;refine zS (ne:=false) rfl (by first|exact ky|exact ki|exact ztA|fail) (hc:=rfl) (hK:=?_))|(refine zj (f:=122) rfl Tryz.call122 (h:=AEq.pure' agT (zmT _ _ _ _ _ _) (hq:=?_)))|(refine zj (f:=123) rfl Tryz.call123 (h:=AEq.pure' agT (zm9 _ _ _ _ _ _ (by assumption)) (hq:=?_)))|(guard_target =~ SOp _ _ ⟨_,.binOp _ _ _ _ _,_,_,_,some _⟩ _ _ _;refine zS (ne:=false) rfl (by first|exact ky|exact ki|exact ztA|fail) (hc:=rfl) (hK:=?_))|((refine zo [] (by rw[Tryz.results70,Lf.zI]) (zw ?_) ?_)<;>(try exact uT))|refine hK _ _ ?_;clear hK K)
 all_goals first|exact zJ (by grind)|trace_state
theorem zq1(t g s p:Int)(fd:Bool)(d:List UInt8)(fs:Bool)(e:List (Int×Int))(wt pa:Int)(al:Bool)(pr la co sp:Int)(t' g' s' p':Int)(fd':Bool)(d':List UInt8)(fs':Bool)(e':List (Int×Int))(wt' pa':Int)(al':Bool)(pr' la' co' sp':Int)(hd:d.length<=1000000000)(he:e.length<=1000000): AEq Tryz.prog 72 [.ag [i64 t,i64 g,i64 s,i64 p,.sl fd false (d.map zk),.sl fs false (e.map z7),i64 wt,i64 pa,bl al,i64 pr,i64 la,i64 co,i64 sp],.ag [i64 t',i64 g',i64 s',i64 p',.sl fd' false (d'.map zk),.sl fs' false (e'.map z7),i64 wt',i64 pa',bl al',i64 pr',i64 la',i64 co',i64 sp']] [] (bl (decide ((⟨t,g,s,p,d,e,wt,pa,al,pr,la,co,sp⟩:Gm)=(⟨t',g',s',p',d',e',wt',pa',al',pr',la',co',sp'⟩:Gm)))) []:=by
 refine enT Tryz.func72 Tryz.ntmps72 ?_
 have hU:=True.intro
 repeat'(first|refine goR ?_|refine zd fun K hK=>?_|refine hK _ _ ?_;clear hK K)
 all_goals simp only[List.append_eq,List.cons_append,List.nil_append]
 repeat'(first|refine goR ?_|(guard_target =~ rg _ _ _ (⟨_,_,_,_,_,some _⟩::_) _ _ _;(first|refine zP gT (fun hcd=>?_) (fun hcd=>?_)|refine zK gT (fun hcd=>?_) (fun hcd=>?_))<;>(try simp only[hcd])<;>(try(simp only[Bool.not_eq_true',Bool.not_eq_false']at hcd;try simp only[hcd]))<;>(refine kC (Γ2:=_) ewT ?_)<;>(try simp only[hcP]at hcd)<;>(try exact cdT))|(refine zj (f:=75) rfl Tryz.call75 (h:=AEq.pure' agT (zpD _ _ _ _ _ _ (by omega)) (hq:=?_)))|(refine zj (f:=124) rfl Tryz.call124 (h:=AEq.pure' agT (zjV _ _ _ _ _ _ (by omega)) (hq:=?_)))|((refine zo [] (by rw[Tryz.results72,Lf.zI]) (zw ?_) ?_)<;>(try exact uT))|refine hK _ _ ?_;clear hK K)
 all_goals first|exact zJ (by grind)|trace_state
def gm(f:Fm): Gm:=⟨f.t,f.g,f.s,f.p,f.d,f.st,f.wt,f.pa,f.al,f.pr,f.la,f.co,f.sp⟩
theorem zq2{t g s:Int}{b:List UInt8}(h:kM t g s b=(0,0)): zaU t s=true:=by
 cases e:zaU t s with
 | true=>rfl
 | false=>unfold kM at h;rw[if_pos e]at h;exact absurd h (by decide)
theorem ko{b:List UInt8}{k:Int}(h0:0<=k)(h:k<=b.length): byL b k (b.length-k)=b.drop k.toNat:=by
 have e:byE b k ((b.length:Int)-k)=0:=by unfold byE;rw[if_neg (by omega),if_neg (by omega)]
 unfold byL
 rw[if_pos e,List.take_of_length_le (by rw[List.length_drop];omega)]
theorem zfB{b:List UInt8}{k m:Int}(h0:0<=k)(hm:0<=m)(h:k+m<=b.length): byL b k (b.length-k-m)=(b.take ((b.length:Int)-m).toNat).drop k.toNat:=by
 have e:byE b k ((b.length:Int)-k-m)=0:=by unfold byE;rw[if_neg (by omega),if_neg (by omega)]
 unfold byL
 rw[if_pos e,List.drop_take]
 congr 1
 omega
theorem kQ{t g s:Int}{b:List UInt8}{n:Nm}{p:Int}(hp:kv t g b=p)(hn:yl t g b (vt t g b)=n)(hs:(z6 t g 8 && shB b 0 1)=false)(hn2:n.sh=false)(h:¬(b.length:Int)-n.pos<p):
    zcm t g s b=(if t=4 then⟨t,g,s,p,true,[],false,zlp b,n.wt,n.pa,n.al,n.pr,n.la,n.co,n.sp⟩else⟨t,g,s,p,false,byL b n.pos (b.length-n.pos-max p 0),true,[],n.wt,n.pa,n.al,n.pr,n.la,n.co,n.sp⟩,0,0):=by
  have hS:zbR t g b=false:=by unfold zbR;rw[hs,hn,hn2];rfl
  unfold zcm
  dsimp only
  rw[if_neg (by rw[hS];simp),hn,hp,if_neg h]
  split<;>rfl
theorem zbX{t g s:Int}{b:List UInt8}(h:kM t g s b=(0,0)): (yK t g s b).2=(0,0)/\gm (yK t g s b).1=gm (rfM t g s b):=by
 have hst:=zq2 h
 obtain⟨hL,_,_⟩:=zod h
 have e0:yK t g s b=zcm t g s b:=by
  unfold yK;rw[if_neg (by rw[hst];simp),if_neg (by rw[hL];simp)]
 rw[e0]
 rcases zj8 h with⟨rfl,hx8,hx32,hgx,hgy,hne,hln,e⟩|⟨rfl,hx8,hx32,hgx,hgy,hne,hln,e⟩|⟨rfl,hx8,hx32,hgx,hgy,hne,hln,e⟩|⟨rfl,hx8,hx32,hgx,hgy,hne,hln,e⟩|⟨x,rfl,hx8,hx32,hgx,hgy,hne,hx,⟨hpb,hpb0⟩,hln,e⟩|⟨rfl,hx8,hx32,hgx,hgy,hne,hln,e⟩|⟨y,rfl,hx8,hx32,hgx,hgy,hne,hy,⟨hu0,hu1⟩,hln,e⟩|⟨x,y,⟨m2,m3,m4,m5,m7,m8⟩,hx8,hx32,hgx,hgy,hne,hx,⟨hpb,hpb0⟩,hy,⟨hu0,hu1⟩,hln,e⟩|⟨y,⟨m2,m3,m4,m5,m7,m8⟩,hx8,hx32,hgx,hgy,hne,hy,⟨hu0,hu1⟩,hln,e⟩|⟨x,⟨m2,m3,m4,m5,m7,m8⟩,hx8,hx32,hgx,hgy,hne,hx,⟨hpb,hpb0⟩,hln,e⟩|⟨⟨m2,m3,m4,m5,m7,m8⟩,hx8,hx32,hgx,hgy,hne,hln,e⟩
 ·rw[e]
  have hA:vt 3 g b=0:=f_f hx8
  have hs:(z6 3 g 8 && shB b 0 1)=false:=by rw[hx8];rfl
  have hp:kv 3 g b = -1:=f_f hx8
  have hn:yl 3 g b (vt 3 g b)=⟨0,0,false,0,0,u4 b 0,0,shB b 0 4,4⟩:=by rw[hA];rw[show yl 3 g b 0=⟨0,0,false,0,0,u4 b 0,0,shB b 0 4,yB b 0 4⟩from rfl];rw[yy (show(0:Int)+4<=b.length by omega)];rfl
  rw[kQ hp hn hs (jf (by omega)) (by dsimp only;omega)]
  refine⟨rfl,?_⟩
  rw[if_neg (by decide)]
  unfold gm
  dsimp only
  rw[show max (-1:Int) 0=0 from rfl,Int.sub_zero,ko (by decide) (by omega),List.drop_of_length_le (by show b.length<=4;omega)]
  all_goals rfl
 ·rw[e]
  have hA:vt 4 g b=0:=f_f hx8
  have hs:(z6 4 g 8 && shB b 0 1)=false:=by rw[hx8];rfl
  have hp:kv 4 g b = -1:=f_f hx8
  have hn:yl 4 g b (vt 4 g b)=⟨0,0,false,0,0,0,0,false,0⟩:=by rw[hA];rw[show yl 4 g b 0=⟨0,0,false,0,0,0,0,false,0⟩from rfl]
  rw[kQ hp hn hs rfl (by dsimp only;omega)]
  refine⟨rfl,?_⟩
  rw[if_pos rfl]
  all_goals rfl
 ·rw[e]
  have hA:vt 8 g b=0:=f_f hx8
  have hs:(z6 8 g 8 && shB b 0 1)=false:=by rw[hx8];rfl
  have hp:kv 8 g b = -1:=f_f hx8
  have hn:yl 8 g b (vt 8 g b)=⟨0,0,false,0,0,0,vH (u4 b 0),shB b 0 4,4⟩:=by rw[hA];rw[show yl 8 g b 0=⟨0,0,false,0,0,0,vH (u4 b 0),shB b 0 4,yB b 0 4⟩from rfl];rw[yy (show(0:Int)+4<=b.length by omega)];rfl
  rw[kQ hp hn hs (jf (by omega)) (by dsimp only;omega)]
  refine⟨rfl,?_⟩
  rw[if_neg (by decide)]
  unfold gm
  dsimp only
  rw[show max (-1:Int) 0=0 from rfl,Int.sub_zero,ko (by decide) (by omega),List.drop_of_length_le (by show b.length<=4;omega)]
  all_goals rfl
 ·rw[e]
  have hA:vt 7 g b=0:=f_f hx8
  have hs:(z6 7 g 8 && shB b 0 1)=false:=by rw[hx8];rfl
  have hp:kv 7 g b = -1:=f_f hx8
  have hn:yl 7 g b (vt 7 g b)=⟨0,0,false,0,vH (u4 b 0),u4 b 4,0,shB b 0 8,8⟩:=by rw[hA];rw[show yl 7 g b 0=⟨0,0,false,0,vH (u4 b 0),u4 b (yB b 0 4),0,shB b 0 8,yB b (yB b 0 4) 4⟩from rfl];rw[yy (show(0:Int)+4<=b.length by omega),yy (show(0+4:Int)+4<=b.length by omega)];rfl
  rw[kQ hp hn hs (jf (by omega)) (by dsimp only;omega)]
  refine⟨rfl,?_⟩
  rw[if_neg (by decide)]
  unfold gm
  dsimp only
  rw[show max (-1:Int) 0=0 from rfl,Int.sub_zero,ko (by decide) (by omega)]
  all_goals rfl
 ·rw[e]
  have hA:vt 5 g b=1:=(f_t hx8).trans (yy (by omega))
  have hs:(z6 5 g 8 && shB b 0 1)=false:=by rw[hx8,jf (by omega)];rfl
  have hp:kv 5 g b=z4 b 1:=f_t hx8
  have hn:yl 5 g b (vt 5 g b)=⟨0,0,false,vH (u4 b 1),0,0,0,shB b 1 4,5⟩:=by rw[hA];rw[show yl 5 g b 1=⟨0,0,false,vH (u4 b 1),0,0,0,shB b 1 4,yB b 1 4⟩from rfl];rw[yy (show(1:Int)+4<=b.length by omega)];rfl
  rw[kQ hp hn hs (jf (by omega)) (by dsimp only;omega)]
  refine⟨rfl,?_⟩
  rw[if_neg (by decide)]
  unfold gm
  dsimp only
  rw[show max (z4 b 1) 0=z4 b 1 from by omega,zfB (by decide) hpb0 (by omega)]
  all_goals rfl
 ·rw[e]
  have hA:vt 5 g b=0:=f_f hx8
  have hs:(z6 5 g 8 && shB b 0 1)=false:=by rw[hx8];rfl
  have hp:kv 5 g b = -1:=f_f hx8
  have hn:yl 5 g b (vt 5 g b)=⟨0,0,false,vH (u4 b 0),0,0,0,shB b 0 4,4⟩:=by rw[hA];rw[show yl 5 g b 0=⟨0,0,false,vH (u4 b 0),0,0,0,shB b 0 4,yB b 0 4⟩from rfl];rw[yy (show(0:Int)+4<=b.length by omega)];rfl
  rw[kQ hp hn hs (jf (by omega)) (by dsimp only;omega)]
  refine⟨rfl,?_⟩
  rw[if_neg (by decide)]
  unfold gm
  dsimp only
  rw[show max (-1:Int) 0=0 from rfl,Int.sub_zero,ko (by decide) (by omega)]
  all_goals rfl
 ·rw[e]
  have hA:vt 2 g b=0:=f_f hx8
  have hs:(z6 2 g 8 && shB b 0 1)=false:=by rw[hx8];rfl
  have hp:kv 2 g b = -1:=f_f hx8
  have hn:yl 2 g b (vt 2 g b)=⟨u1 b 4,vH (u4 b 0),hiN (u4 b 0),0,0,0,0,shB b 0 5,5⟩:=by rw[hA];rw[show yl 2 g b 0=⟨u1 b (yB b 0 4),vH (u4 b 0),hiN (u4 b 0),0,0,0,0,shB b 0 5,yB b (yB b 0 4) 1⟩from rfl];rw[yy (show(0:Int)+4<=b.length by omega),yy (show(0+4:Int)+1<=b.length by omega)];rfl
  rw[kQ hp hn hs (jf (by omega)) (by dsimp only;omega)]
  refine⟨rfl,?_⟩
  rw[if_neg (by decide)]
  unfold gm
  dsimp only
  rw[show max (-1:Int) 0=0 from rfl,Int.sub_zero,ko (by decide) (by omega)]
  all_goals rfl
 ·obtain rfl : t = 1 := by apply Decidable.byContradiction; intro hn1; rw [yx hn1] at hx32; exact absurd hx32 (by simp)
  rw[e]
  have hA:vt 1 g b=1:=(f_t hx8).trans (yy (by omega))
  have hs:(z6 1 g 8 && shB b 0 1)=false:=by rw[hx8,jf (by omega)];rfl
  have hp:kv 1 g b=z4 b 1:=f_t hx8
  have hn:yl 1 g b (vt 1 g b)=⟨u1 b 5,vH (u4 b 1),hiN (u4 b 1),0,0,0,0,shB b 1 5,6⟩:=by rw[hA];rw[show yl 1 g b 1=⟨u1 b (yB b 1 4),vH (u4 b 1),hiN (u4 b 1),0,0,0,0,shB b 1 5,yB b (yB b 1 4) 1⟩from(if_pos rfl).trans (if_pos hx32)];rw[yy (show(1:Int)+4<=b.length by omega),yy (show(1+4:Int)+1<=b.length by omega)];rfl
  rw[kQ hp hn hs (jf (by omega)) (by dsimp only;omega)]
  refine⟨rfl,?_⟩
  rw[if_neg (by decide)]
  unfold gm
  dsimp only
  rw[show max (z4 b 1) 0=z4 b 1 from by omega,zfB (by decide) hpb0 (by omega)]
  all_goals rfl
 ·obtain rfl : t = 1 := by apply Decidable.byContradiction; intro hn1; rw [yx hn1] at hx32; exact absurd hx32 (by simp)
  rw[e]
  have hA:vt 1 g b=0:=f_f hx8
  have hs:(z6 1 g 8 && shB b 0 1)=false:=by rw[hx8];rfl
  have hp:kv 1 g b = -1:=f_f hx8
  have hn:yl 1 g b (vt 1 g b)=⟨u1 b 4,vH (u4 b 0),hiN (u4 b 0),0,0,0,0,shB b 0 5,5⟩:=by rw[hA];rw[show yl 1 g b 0=⟨u1 b (yB b 0 4),vH (u4 b 0),hiN (u4 b 0),0,0,0,0,shB b 0 5,yB b (yB b 0 4) 1⟩from(if_pos rfl).trans (if_pos hx32)];rw[yy (show(0:Int)+4<=b.length by omega),yy (show(0+4:Int)+1<=b.length by omega)];rfl
  rw[kQ hp hn hs (jf (by omega)) (by dsimp only;omega)]
  refine⟨rfl,?_⟩
  rw[if_neg (by decide)]
  unfold gm
  dsimp only
  rw[show max (-1:Int) 0=0 from rfl,Int.sub_zero,ko (by decide) (by omega)]
  all_goals rfl
 ·rw[e]
  have hA:vt t g b=1:=(f_t hx8).trans (yy (by omega))
  have hs:(z6 t g 8 && shB b 0 1)=false:=by rw[hx8,jf (by omega)];rfl
  have hp:kv t g b=z4 b 1:=f_t hx8
  have hn:yl t g b (vt t g b)=⟨0,0,false,0,0,0,0,false,1⟩:=by rw[hA];rw[show yl t g b 1=⟨0,0,false,0,0,0,0,false,1⟩from by unfold yl;split;exact if_neg (by rw[show z6 1 g 32=z6 t g 32 from by subst_vars;rfl,hx32];simp);simp[m2,m3,m5,m7,m8]]
  rw[kQ hp hn hs rfl (by dsimp only;omega)]
  refine⟨rfl,?_⟩
  rw[if_neg m4]
  unfold gm
  dsimp only
  rw[show max (z4 b 1) 0=z4 b 1 from by omega,zfB (by decide) hpb0 (by omega)]
  all_goals rfl
 ·rw[e]
  have hA:vt t g b=0:=f_f hx8
  have hs:(z6 t g 8 && shB b 0 1)=false:=by rw[hx8];rfl
  have hp:kv t g b = -1:=f_f hx8
  have hn:yl t g b (vt t g b)=⟨0,0,false,0,0,0,0,false,0⟩:=by rw[hA];rw[show yl t g b 0=⟨0,0,false,0,0,0,0,false,0⟩from by unfold yl;split;exact if_neg (by rw[show z6 1 g 32=z6 t g 32 from by subst_vars;rfl,hx32];simp);simp[m2,m3,m5,m7,m8]]
  rw[kQ hp hn hs rfl (by dsimp only;omega)]
  refine⟨rfl,?_⟩
  rw[if_neg m4]
  unfold gm
  dsimp only
  rw[show max (-1:Int) 0=0 from rfl,Int.sub_zero,ko (by decide) (by omega)]
  all_goals rfl
theorem zva{t g:Int}(h:z6 t g 8=true): t=0\/t=1\/t=5:=by
 apply Decidable.byContradiction
 intro hn
 rw[jJ (by omega) (by omega) (by omega)]at h
 exact absurd h (by simp)
theorem zkx{t g:Int}(h:z6 t g 32=true): t=1:=by
 apply Decidable.byContradiction
 intro hn
 rw[yx hn]at h
 exact absurd h (by simp)
theorem zky{t g:Int}{b:List UInt8}(h:(b.length:Int)<ahI t g): zbR t g b=true:=by
 obtain⟨c8,c32,h8,h32,hc⟩:=zj7 t g
 rcases hc with⟨h5,rfl,rfl,ha⟩|⟨h5,rfl,rfl,ha⟩|⟨h5,rfl,rfl,ha⟩|⟨h5,rfl,rfl,ha⟩|⟨h5,rfl,rfl,ha⟩|⟨h5,rfl,rfl,ha⟩
 ·subst h5
  by_cases h1:b.length<1
  ·unfold zbR;rw[h8,zcl (by omega)];rfl
  ·have hA : vt 5 g b = 1 := (f_t h8).trans (yy (by omega))
   unfold zbR
   rw[hA,show(yl 5 g b 1).sh=shB b 1 4 from rfl,zcl (a:=1) (by omega),Bool.or_true]
 ·subst h5
  have hA:vt 5 g b=0:=f_f h8
  unfold zbR
  rw[hA,show(yl 5 g b 0).sh=shB b 0 4 from rfl,zcl (a:=0) (n:=4) (by omega),Bool.or_true]
 ·obtain rfl:=zkx h32
  by_cases h1:b.length<1
  ·unfold zbR;rw[h8,zcl (by omega)];rfl
  ·have hA : vt 1 g b = 1 := (f_t h8).trans (yy (by omega))
   unfold zbR
   rw[hA,show(yl 1 g b 1).sh=shB b 1 5 from by unfold yl;rw[if_pos rfl,if_pos h32],zcl (a:=1) (n:=5) (by omega),Bool.or_true]
 ·obtain rfl:=zkx h32
  have hA:vt 1 g b=0:=f_f h8
  unfold zbR
  rw[hA,show(yl 1 g b 0).sh=shB b 0 5 from by unfold yl;rw[if_pos rfl,if_pos h32],zcl (a:=0) (n:=5) (by omega),Bool.or_true]
 ·unfold zbR;rw[h8,zcl (a:=0) (n:=1) (by omega)];rfl
 ·omega
theorem zq3{t g s:Int}{b:List UInt8}(h8:z6 t g 8=true)(h:¬(b.length:Int)<ahI t g)(hp:(b.length:Int)-ahI t g<z4 b 1): zcm t g s b=(fm0,2,1):=by
 have hk2:=zuP (t:=t) (g:=g)
 have hk:kI t g=1:=f_t h8
 have hA:vt t g b=1:=(f_t h8).trans (yy (by omega))
 have hpd:kv t g b=z4 b 1:=f_t h8
 have key:(yl t g b 1).sh=false/\(yl t g b 1).pos=ahI t g:=by
  rcases zva h8 with rfl|rfl|rfl
  ·have ha : ahI 0 g = 1 := by unfold ahI; rw [hk, f_f (yx (by decide)), if_neg (by decide)]; rfl
   rw[ha];exact⟨rfl,rfl⟩
  ·rcases bTF (c:=z6 1 g 32)with h32 | h32
   ·have ha : ahI 1 g = 6 := by unfold ahI; rw [hk, f_t h32, if_neg (by decide)]; rfl
    rw[show yl 1 g b 1=⟨u1 b (yB b 1 4),vH (u4 b 1),hiN (u4 b 1),0,0,0,0,shB b 1 5,yB b (yB b 1 4) 1⟩from(if_pos rfl).trans (if_pos h32),ha]
    refine⟨jf (by omega),?_⟩
    show yB b (yB b 1 4) 1=6
    rw[yy (show(1:Int)+4<=b.length by omega),yy (show(1+4:Int)+1<=b.length by omega)];rfl
   ·have ha : ahI 1 g = 1 := by unfold ahI; rw [hk, f_f h32, if_neg (by decide)]; rfl
    rw[show yl 1 g b 1=⟨0,0,false,0,0,0,0,false,1⟩from(if_pos rfl).trans (if_neg (by rw[h32];simp)),ha]
    exact⟨rfl,rfl⟩
  ·have ha : ahI 5 g = 5 := by unfold ahI; rw [hk, f_f (yx (by decide)), if_pos rfl]; rfl
   rw[ha]
   refine⟨jf (a:=1) (n:=4) (by omega),?_⟩
   show yB b 1 4=5
   rw[yy (show(1:Int)+4<=b.length by omega)];rfl
 have hS:zbR t g b=false:=by unfold zbR;rw[hA,key.1,h8,jf (by omega)];rfl
 unfold zcm
 dsimp only
 rw[if_neg (by rw[hS];simp),hA,key.2,hpd,if_pos hp]
theorem zov{t g s:Int}{b:List UInt8}(h:¬kM t g s b=(0,0)): yK t g s b=(fm0,kM t g s b):=by
 rcases bTF (c:=zaU t s)with h1|h1
 ·have n1 : ¬ zaU t s = false := by rw [h1]; simp
  rcases bTF (c:=zcF t g b.length)with h2|h2
  ·have n2 : ¬ zcF t g b.length = false := by rw [h2]; simp
   have e:yK t g s b=zcm t g s b:=by unfold yK;rw[if_neg n1,if_neg n2]
   rw[e]
   by_cases hS:(b.length:Int)<ahI t g
   ·have hk:=zuP (t:=t) (g:=g)
    have e2:kM t g s b=(if t=0 then 1 else 2,6):=by unfold kM;rw[if_neg n1,if_neg n2,if_pos hS]
    rw[e2,<-zuQ (t:=t) (g:=g) (by omega)]
    unfold zcm
    dsimp only
    rw[if_pos (zky hS)]
   ·by_cases hP:z6 t g 8=true/\(b.length:Int)-ahI t g<z4 b 1
    ·have e2 : kM t g s b = (2, 1) := by unfold kM; rw [if_neg n1, if_neg n2, if_neg hS, if_pos hP]
     rw[e2]
     exact zq3 hP.1 hS hP.2
    ·exfalso
     apply h
     unfold kM;rw[if_neg n1,if_neg n2,if_neg hS,if_neg hP]
  ·have e2 : kM t g s b = (if t = 2 then 1 else 2, 6) := by unfold kM; rw [if_neg n1, if_pos h2]
   rw[e2,<-zqD h2]
   unfold yK;rw[if_neg n1,if_pos h2]
 ·have e2:kM t g s b=(2,1):=if_pos h1
  rw[e2]
  unfold yK;rw[if_pos h1]
def nS: List (Int×Int):=[]
def rfR(t g s:Int)(b:List UInt8): Fm:=if kM t g s b=(0,0)then rfM t g s b else fm0
theorem zq4{t g s:Int}{b:List UInt8}(h:(kM t g s b).1=0): kM t g s b=(0,0):=by
 unfold kM at h ⊢
 repeat' split at h
 all_goals first|(exact absurd h (by decide))|(simp only[*,if_true,if_false];done)|skip
 all_goals(repeat' split)
 all_goals first|rfl|(exfalso;simp_all;done)
theorem zq5(t g s:Int)(b:List UInt8): (yK t g s b).2=kM t g s b/\gm (yK t g s b).1=gm (rfR t g s b):=by
 unfold rfR
 by_cases h:kM t g s b=(0,0)
 ·obtain⟨h1,h2⟩:=zbX h
  rw[if_pos h,h1,h2,h];exact⟨rfl,rfl⟩
 ·rw[if_neg h,zov h];exact⟨rfl,rfl⟩
theorem zq6(b:List UInt8)(a n:Int): (byL b a n).length<=b.length:=by
 unfold byL
 split
 ·rw[List.length_take,List.length_drop];omega
 ·exact Nat.zero_le _
theorem zkz(b:List UInt8): (zlp b).length<=b.length:=by
 unfold zlp
 split
 ·rw[zgF];omega
 ·exact Nat.zero_le _
theorem zdM(t g s:Int)(b:List UInt8): (yK t g s b).1.d.length<=b.length/\(yK t g s b).1.st.length<=b.length:=by
 have h1:=zq6 b
 have h2:=zkz b
 unfold yK
 split
 ·exact⟨Nat.zero_le _,Nat.zero_le _⟩
 ·split
  ·exact⟨Nat.zero_le _,Nat.zero_le _⟩
  ·unfold zcm
   dsimp only
   repeat' split
   all_goals(refine⟨?_,?_⟩<;>(first|exact h1 _ _|exact h2|exact Nat.zero_le _))
structure Fr where
 (f:Bool) (w t g s:Int) (r:Bool) (b:List UInt8)
@[go_sem] def frA(f:Fr): List AV:=[i64 f.w,i64 f.t,i64 f.g,i64 f.s,bl f.r,.sl f.f false (f.b.map zk)]
@[go_sem] theorem zwi(l:List Fr): y9 (l.map frA).flatten=true:=ze (fun a=>by simp[frA,y9,pur]) l
@[go_sem] theorem zwj{κ:List Nat}{σ:Sto}(l:List Fr): List.map (fzl κ σ) (l.map frA)=l.map frA:=vc (fun _=>rfl) l
theorem vR{α:Type}{l:List α}{i:Nat}(h:i<l.length): ∃x,l[i]?=some x:=⟨l[i],List.getElem?_eq_getElem h⟩
theorem kp{α:Type}{l:List α}{i:Nat}{x:α}(h:l[i]?=some x): l.drop i=x::l.drop (i+1):=by
 obtain⟨h1,h2⟩:=List.getElem?_eq_some_iff.1 h
 rw[List.drop_eq_getElem_cons h1,h2]
structure Rq where
 (w t g s:Int) (r:Bool) (b:List UInt8)
deriving DecidableEq
def okQ(r:Rq): Prop:=zcj ⟨r.b.length,r.t,r.g,r.s,r.r⟩/\kM r.t r.g r.s r.b=(0,0)
instance (r:Rq):Decidable (okQ r):=by unfold okQ;infer_instance
structure Ow where
 (n:Int) (p:List (List UInt8))
end Go.Proofs.YtdalcgfnlbofdaaGreatDoor
