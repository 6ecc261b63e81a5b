import Derived.Test.YtdalcgfnlbofdaaGreatDoorZ16
set_option linter.unusedVariables false
set_option linter.unusedSimpArgs false
namespace Go.Proofs.YtdalcgfnlbofdaaGreatDoor
open Go Go.Lf Go.Proofs
attribute [local irreducible] Lf.rg Lf.ro Lf.PWp Lf.SOp Lf.ACall Lf.Scoped Lf.dg Lf.dw
set_option maxRecDepth 20000
set_option maxHeartbeats 4000000
structure Fm where
 (t g s p:Int) (fd:Bool) (d:List UInt8) (fs:Bool) (st:List (Int×Int)) (wt pa:Int) (al:Bool) (pr la co sp:Int)
@[go_sem] def fmA(f:Fm): List AV:=[i64 f.t,i64 f.g,i64 f.s,i64 f.p,.sl f.fd false (f.d.map zk),.sl f.fs false (f.st.map z7),i64 f.wt,i64 f.pa,bl f.al,i64 f.pr,i64 f.la,i64 f.co,i64 f.sp]
def fm0: Fm:=⟨0,0,0,0,true,[],true,[],0,0,false,0,0,0,0⟩
def kv(t g:Int)(b:List UInt8): Int:=if z6 t g 8=true then z4 b 1 else -1
theorem jJ{t g:Int}(h0:¬t=0)(h1:¬t=1)(h5:¬t=5): z6 t g 8=false:=by
 unfold z6 zck
 rw[if_neg (by decide),if_neg (by decide),if_pos rfl,decide_eq_false (by omega)];rfl
theorem yx{t g:Int}(h1:¬t=1): z6 t g 32=false:=by
 unfold z6 zck
 rw[if_neg (by decide),if_neg (by decide),if_neg (by decide),if_pos rfl,decide_eq_false h1];rfl
theorem f_t{α:Type}{c:Bool}{x y:α}(h:c=true): (if c=true then x else y)=x:=if_pos h
theorem f_f{α:Type}{c:Bool}{x y:α}(h:c=false): (if c=true then x else y)=y:=if_neg (by rw[h];simp)
structure Nm where
 (wt pa:Int) (al:Bool) (pr la co sp:Int) (sh:Bool) (pos:Int)
def yl(t g:Int)(b:List UInt8)(a:Int): Nm:=
 if t=1 then(if z6 1 g 32=true then⟨z4 (b.drop (yB b a 4).toNat) 1,vH (z4 (b.drop a.toNat) 4),hiN (z4 (b.drop a.toNat) 4),0,0,0,0,shB b a 5,yB b (yB b a 4) 1⟩else⟨0,0,false,0,0,0,0,false,a⟩)
 else if t=2 then⟨z4 (b.drop (yB b a 4).toNat) 1,vH (z4 (b.drop a.toNat) 4),hiN (z4 (b.drop a.toNat) 4),0,0,0,0,shB b a 5,yB b (yB b a 4) 1⟩
 else if t=3 then⟨0,0,false,0,0,(z4 (b.drop a.toNat) 4),0,shB b a 4,yB b a 4⟩
 else if t=5 then⟨0,0,false,vH (z4 (b.drop a.toNat) 4),0,0,0,shB b a 4,yB b a 4⟩
 else if t=7 then⟨0,0,false,0,vH (z4 (b.drop a.toNat) 4),z4 (b.drop (yB b a 4).toNat) 4,0,shB b a 8,yB b (yB b a 4) 4⟩
 else if t=8 then⟨0,0,false,0,0,0,vH (z4 (b.drop a.toNat) 4),shB b a 4,yB b a 4⟩
 else⟨0,0,false,0,0,0,0,false,a⟩
theorem zgI(t g:Int)(b:List UInt8)(a:Int)(h0:0<=a)(h1:a<=b.length): 0<=(yl t g b a).pos/\(yl t g b a).pos<=b.length:=by
 obtain⟨p0,p1⟩:=zbQ b a 4 h0 h1 (by decide)
 unfold yl
 repeat' split
 all_goals first|exact zbQ b _ _ p0 p1 (by decide)|exact⟨p0,p1⟩|exact⟨h0,h1⟩
theorem zzI(f:Bool)(b:List UInt8)(a:Int)(sh:Bool)(t:Int)(g s p:Int)(h0:0<=a)(h1:a<=b.length)(h2:b.length<=1000000000)(hg0:0<=g)(hg1:g<256): AEq Tryz.prog 97 [.ptr 1 0,.ptr 0 0] [.box [i64 t,i64 g,i64 s,i64 p,.sl true false [],.sl true false [],i64 0,i64 0,bl false,i64 0,i64 0,i64 0,i64 0],.box [.ptr 2 0,bl sh],.box [.sl f false (b.map zk),i64 a]] (.tu []) [.box [i64 t,i64 g,i64 s,i64 p,.sl true false [],.sl true false [],i64 (yl t g b a).wt,i64 (yl t g b a).pa,bl (yl t g b a).al,i64 (yl t g b a).pr,i64 (yl t g b a).la,i64 (yl t g b a).co,i64 (yl t g b a).sp],.box [.ptr 2 0,bl (sh || (yl t g b a).sh)],.box [.sl f false (b.map zk),i64 (yl t g b a).pos]]:=by
 by_cases c1:t=1
 ·subst c1
  rcases(show z6 1 g 32=true\/z6 1 g 32=false by cases z6 1 g 32<;>simp)with hH|hH
  ·rw[show yl 1 g b a=⟨z4 (b.drop (yB b a 4).toNat) 1,vH (z4 (b.drop a.toNat) 4),hiN (z4 (b.drop a.toNat) 4),0,0,0,0,shB b a 5,yB b (yB b a 4) 1⟩from(if_pos rfl).trans (if_pos hH)]
   exact zqB f b a sh g s p h0 h1 h2 hg0 hg1 hH
  ·rw [show yl 1 g b a = ⟨0, 0, false, 0, 0, 0, 0, false, a⟩ from (if_pos rfl).trans (if_neg (by rw [hH]; simp)), Bool.or_false]
   exact zqC f b a sh g s p h0 h1 h2 hg0 hg1 hH
 by_cases c2:t=2
 ·subst c2;exact zuI f b a sh g s p h0 h1 h2 hg0 hg1
 by_cases c3:t=3
 ·subst c3;exact zuJ f b a sh g s p h0 h1 h2 hg0 hg1
 by_cases c5:t=5
 ·subst c5;exact zuK f b a sh g s p h0 h1 h2 hg0 hg1
 by_cases c7:t=7
 ·subst c7;exact zuL f b a sh g s p h0 h1 h2 hg0 hg1
 by_cases c8:t=8
 ·subst c8;exact zuM f b a sh g s p h0 h1 h2 hg0 hg1
 rw[show yl t g b a=⟨0,0,false,0,0,0,0,false,a⟩from by unfold yl;rw[if_neg c1,if_neg c2,if_neg c3,if_neg c5,if_neg c7,if_neg c8],Bool.or_false]
 exact zuN f b a sh t g s p h0 h1 h2 hg0 hg1 c1 c2 c3 c5 c7 c8
def vt(t g:Int)(b:List UInt8): Int:=if z6 t g 8=true then yB b 0 1 else 0
def zbR(t g:Int)(b:List UInt8): Bool:=(z6 t g 8 && shB b 0 1) || (yl t g b (vt t g b)).sh
def zcm(t g s:Int)(b:List UInt8): Fm×Int×Int:=
 let n:=yl t g b (vt t g b)
 if zbR t g b=true then(fm0,scI t,6)
 else if(b.length:Int)-n.pos<kv t g b then(fm0,2,1)
 else if t=4 then(⟨t,g,s,kv t g b,true,[],false,zlp b,n.wt,n.pa,n.al,n.pr,n.la,n.co,n.sp⟩,0,0)
 else(⟨t,g,s,kv t g b,false,byL b n.pos (b.length-n.pos-max (kv t g b) 0),true,[],n.wt,n.pa,n.al,n.pr,n.la,n.co,n.sp⟩,0,0)
theorem zhV(t g s:Int)(b:List UInt8):
    (zbR t g b=true/\zcm t g s b=(fm0,scI t,6)) \/
    (zbR t g b=false/\(b.length:Int)-(yl t g b (vt t g b)).pos<kv t g b/\zcm t g s b=(fm0,2,1)) \/
    (zbR t g b=false/\¬(b.length:Int)-(yl t g b (vt t g b)).pos<kv t g b/\t=4/\zcm t g s b=(⟨t,g,s,kv t g b,true,[],false,zlp b,(yl t g b (vt t g b)).wt,(yl t g b (vt t g b)).pa,(yl t g b (vt t g b)).al,(yl t g b (vt t g b)).pr,(yl t g b (vt t g b)).la,(yl t g b (vt t g b)).co,(yl t g b (vt t g b)).sp⟩,0,0)) \/
    (zbR t g b=false/\¬(b.length:Int)-(yl t g b (vt t g b)).pos<kv t g b/\¬t=4/\zcm t g s b=(⟨t,g,s,kv t g b,false,byL b (yl t g b (vt t g b)).pos (b.length-(yl t g b (vt t g b)).pos-max (kv t g b) 0),true,[],(yl t g b (vt t g b)).wt,(yl t g b (vt t g b)).pa,(yl t g b (vt t g b)).al,(yl t g b (vt t g b)).pr,(yl t g b (vt t g b)).la,(yl t g b (vt t g b)).co,(yl t g b (vt t g b)).sp⟩,0,0)):=by
  cases h:zbR t g b with
  | true=>exact .inl ⟨rfl,by unfold zcm;rw[if_pos h]⟩
  | false=>
    have hn:¬zbR t g b=true:=by rw[h];simp
    by_cases h2:(b.length:Int)-(yl t g b (vt t g b)).pos<kv t g b
    · exact .inr (.inl ⟨rfl,h2,by unfold zcm;dsimp only;rw[if_neg hn,if_pos h2]⟩)
    · by_cases h4:t=4
      · exact .inr (.inr (.inl ⟨rfl,h2,h4,by unfold zcm;dsimp only;rw[if_neg hn,if_neg h2,if_pos h4]⟩))
      · exact .inr (.inr (.inr ⟨rfl,h2,h4,by unfold zcm;dsimp only;rw[if_neg hn,if_neg h2,if_neg h4]⟩))
set_option maxRecDepth 20000 in
set_option maxHeartbeats 40000000 in
theorem zEz(w t g s:Int)(r f:Bool)(b:List UInt8)(hg0:0<=g)(hg1:g<256)(hb:b.length<=1000000000): AEq Tryz.prog 56 [.ag [i64 w,i64 t,i64 g,i64 s,bl r,.sl f false (b.map zk)]] [] (.tu [.ag (fmA (zcm t g s b).1),.ag [i64 (zcm t g s b).2.1,i64 (zcm t g s b).2.2]]) []:=by
 have hgb:=zat b 1
 have hgb0:=hgb.1
 have hgb1:=hgb.2
 have hpp:=zbQ b 0 1 (by decide) (by omega) (by decide)
 have hpp0:=hpp.1
 have hpp1:=hpp.2
 have hcs:=zhV t g s b
 rcases(show z6 t g 8=true\/z6 t g 8=false by cases z6 t g 8<;>simp)with h8|h8
 ·have hA:vt t g b=yB b 0 1:=f_t h8
  have hp:kv t g b=z4 b 1:=f_t h8
  have hS:zbR t g b=(shB b 0 1 || (yl t g b (yB b 0 1)).sh):=by unfold zbR;rw[hA,h8];rfl
  have hmx:max (z4 b 1) 0=z4 b 1:=by omega
  rw[hA,hp,hS,hmx]at hcs
  obtain⟨hq0,hq1⟩:=zgI t g b (yB b 0 1) hpp0 hpp1
  generalize hn:yl t g b (yB b 0 1)=n at hcs hq0 hq1
  obtain⟨wt,pa,al,pr,la,co,sp,sh,pos⟩:=n
  dsimp only at hcs hq0 hq1
  rcases hcs with⟨e1,e⟩|⟨e1,e2,e⟩|⟨e1,e2,e3,e⟩|⟨e1,e2,e3,e⟩
  all_goals rw[e]
  all_goals dsimp only
  all_goals(refine enT Tryz.func56 Tryz.ntmps56 ?_)
  all_goals(have hU:=And.intro @h8 ( And.intro @hn ( And.intro @e1 ( And.intro @Bool.false_or (@Int.zero_add)))))
  all_goals(repeat'(first|refine goR ?_|refine y1U ?_|refine zd fun K hK=>?_|refine y7 ?_|refine zc ?_ ?_<;>intro hcd<;>(try simp only[hcP]at hcd)<;>try exact cdT|refine y1E ?_|(refine zj (f:=97) rfl Tryz.call97 (h:=AEq.sub' [_,_,_] (hc:=zzI _ _ _ _ _ _ _ _ aoT aoT aoT aoT aoT) (hq:=?_)))|(refine zj (f:=99) rfl Tryz.call99 (h:=AEq.pure' agT (zep _ _ _ aoT) (hq:=?_)))|(refine zj (f:=94) rfl Tryz.call94 (h:=AEq.pure' agT (zuG _ _ _ aoT aoT aoT) (hq:=?_)))|(refine zj (f:=95) rfl Tryz.call95 (h:=AEq.sub' [] (hc:=zfu _ _ _ aoT) (hq:=?_)))|refine y1F ?_|refine y16 ?_|((refine zX [] exT (by rfl) (by rw[Tryz.results56];exact Lf.vF roT roT) sT sT (zF ?_ ?_) ?_)<;>(try exact uT))|refine y1V ?_|(guard_target =~ dw _ _ _ _ _ _ _ _ _ _;first|(guard_target =~ dw _ _ _ _ _ (8::_) _ _ _ _;(refine kZ rfl rfl (h:=zH (h:=zj (f:=98) rfl Tryz.call98 (h:=AEq.sub' [_] (hc:=km _ _ _ aoT aoT) (hq:=zl ⟨rfl,rfl⟩)))) (hk:=?_)))|(guard_target =~ dw _ _ _ _ _ (11::_) _ _ _ _;(refine vp rfl rfl (h:=(fun τ=>zH (h:=zbG rfl sT sT lmT (zl ⟨rfl,rfl⟩)))) (hk:=?_)))|(guard_target =~ dw _ _ _ _ _ (13::_) _ _ _ _;(refine yn rfl rfl (h:=zH (h:=zj (f:=100) rfl Tryz.call100 (h:=AEq.sub' [_] (hc:=zn7 _ _ _ _ aoT aoT aoT) (hq:=zl ⟨rfl,rfl⟩)))) (hk:=?_)))|(guard_target =~ dw _ _ _ _ _ (18::_) _ _ _ _;(refine vg rfl rfl (h:=zaj (h:=zW rfl (hK:=zl ⟨rfl,rfl⟩))) (hk:=?_))))|refine hK _ _ ?_;clear hK K))
 ·have hA:vt t g b=0:=f_f h8
  have hp:kv t g b = -1:=f_f h8
  have hS:zbR t g b=(yl t g b 0).sh:=by unfold zbR;rw[hA,h8];rfl
  rw[hA,hp,hS]at hcs
  obtain⟨hq0,hq1⟩:=zgI t g b 0 (by decide) (by omega)
  generalize hn:yl t g b 0=n at hcs hq0 hq1
  obtain⟨wt,pa,al,pr,la,co,sp,sh,pos⟩:=n
  dsimp only at hcs hq0 hq1
  rcases hcs with⟨e1,e⟩|⟨e1,e2,e⟩|⟨e1,e2,e3,e⟩|⟨e1,e2,e3,e⟩
  all_goals rw[e]
  all_goals dsimp only
  all_goals(refine enT Tryz.func56 Tryz.ntmps56 ?_)
  all_goals(have hU:=And.intro @h8 ( And.intro @hn ( And.intro @e1 (@Bool.false_or))))
  all_goals(repeat'(first|refine goR ?_|refine y1U ?_|refine zd fun K hK=>?_|refine y7 ?_|refine zc ?_ ?_<;>intro hcd<;>(try simp only[hcP]at hcd)<;>try exact cdT|refine y1E ?_|(refine zj (f:=97) rfl Tryz.call97 (h:=AEq.sub' [_,_,_] (hc:=zzI _ _ _ _ _ _ _ _ aoT aoT aoT aoT aoT) (hq:=?_)))|(refine zj (f:=99) rfl Tryz.call99 (h:=AEq.pure' agT (zep _ _ _ aoT) (hq:=?_)))|(refine zj (f:=94) rfl Tryz.call94 (h:=AEq.pure' agT (zuG _ _ _ aoT aoT aoT) (hq:=?_)))|(refine zj (f:=95) rfl Tryz.call95 (h:=AEq.sub' [] (hc:=zfu _ _ _ aoT) (hq:=?_)))|refine y1F ?_|((refine zX [] exT (by rfl) (by rw[Tryz.results56];exact Lf.vF roT roT) sT sT (zF ?_ ?_) ?_)<;>(try exact uT))|refine y1V ?_|(guard_target =~ dw _ _ _ _ _ _ _ _ _ _;first|(guard_target =~ dw _ _ _ _ _ (8::_) _ _ _ _;(refine kZ rfl rfl (h:=zH (h:=zj (f:=98) rfl Tryz.call98 (h:=AEq.sub' [_] (hc:=km _ _ _ aoT aoT) (hq:=zl ⟨rfl,rfl⟩)))) (hk:=?_)))|(guard_target =~ dw _ _ _ _ _ (11::_) _ _ _ _;(refine vp rfl rfl (h:=(fun τ=>zH (h:=zfj rfl sT sT lmT (zl ⟨rfl,rfl⟩)))) (hk:=?_)))|(guard_target =~ dw _ _ _ _ _ (13::_) _ _ _ _;(refine yn rfl rfl (h:=zH (h:=zj (f:=100) rfl Tryz.call100 (h:=AEq.sub' [_] (hc:=zn7 _ _ _ _ aoT aoT aoT) (hq:=zl ⟨rfl,rfl⟩)))) (hk:=?_)))|(guard_target =~ dw _ _ _ _ _ (18::_) _ _ _ _;(refine vg rfl rfl (h:=zaj (h:=zW rfl (hK:=zl ⟨rfl,rfl⟩))) (hk:=?_))))|refine hK _ _ ?_;clear hK K))
def yK(t g s:Int)(b:List UInt8): Fm×Int×Int:=if zaU t s=false then(fm0,2,1)else if zcF t g b.length=false then(fm0,scI t,6)else zcm t g s b
theorem zav(w t g s:Int)(r f:Bool)(b:List UInt8)(hb:b.length<=1000000000)(ho:¬zcj ⟨b.length,t,g,s,r⟩): AEq Tryz.prog 18 [.ag [i64 w,i64 t,i64 g,i64 s,bl r,.sl f false (b.map zk)]] [] (.tu [.ag (fmA fm0),.ag [i64 0,i64 0],i64 1]) []:=by
 have hd:decide (zcj ⟨b.length,t,g,s,r⟩)=false:=decide_eq_false ho
 refine enT Tryz.func18 Tryz.ntmps18 ?_
 have hU:=@hd
 repeat'(first|refine goR ?_|refine zd fun K hK=>?_|refine zc ?_ ?_<;>intro hcd<;>(try simp only[hcP]at hcd)<;>try exact cdT|(refine zj (f:=50) rfl Tryz.call50 (h:=AEq.pure' agT (zn9 _ _ _ _ _) (hq:=?_)))|(refine zj (f:=51) rfl Tryz.call51 (h:=AEq.pure' agT (hof _ _ _ _ _ _ _ (by omega)) (hq:=?_)))|((refine zX [] exT (by rfl) (by rw[Tryz.results18];exact Lf.vC roT roT roT) sT sT (yI ?_ ?_ ?_) ?_)<;>(try exact uT))|refine hK _ _ ?_;clear hK K)
 all_goals exact yo rfl
theorem v5(w t g s:Int)(r f:Bool)(b:List UInt8)(hb:b.length<=1000000000)(ho:zcj ⟨b.length,t,g,s,r⟩): AEq Tryz.prog 18 [.ag [i64 w,i64 t,i64 g,i64 s,bl r,.sl f false (b.map zk)]] [] (.tu [.ag (fmA (yK t g s b).1),.ag [i64 (yK t g s b).2.1,i64 (yK t g s b).2.2],i64 0]) []:=by
 have hd:decide (zcj ⟨b.length,t,g,s,r⟩)=true:=decide_eq_true ho
 obtain⟨_,_,_,_,hg0,hg2,_,_⟩:=ho
 dsimp only at hg0 hg2
 have hg1:g<256:=by omega
 have key:(∃a c,zaU t s=a/\zcF t g b.length=c):=⟨_,_,rfl,rfl⟩
 obtain⟨a,c,h1,h2⟩:=key
 have e:yK t g s b=if a=false then(fm0,2,1)else if c=false then(fm0,scI t,6)else zcm t g s b:=by unfold yK;rw[h1,h2]
 cases a
 all_goals cases c
 all_goals rw[e]
 all_goals simp only[Bool.true_eq_false,if_true,if_false]
 all_goals(refine enT Tryz.func18 Tryz.ntmps18 ?_)
 all_goals(have hU:=And.intro @hd ( And.intro @h1 (@h2)))
 all_goals(repeat'(first|refine goR ?_|(guard_target =~ PWp _ _ _ _ _ _ _;refine zv (id:=8) [0,2,1,3,4] [2,3] mixed (by kernel_rfl) (by kernel_rfl) ?_)|refine zd fun K hK=>?_|refine zc ?_ ?_<;>intro hcd<;>(try simp only[hcP]at hcd)<;>try exact cdT|refine y1E ?_|(refine zj (f:=50) rfl Tryz.call50 (h:=AEq.pure' agT (zn9 _ _ _ _ _) (hq:=?_)))|(refine zj (f:=52) rfl Tryz.call52 (h:=AEq.pure' agT (zj6 _ _ _ _ _ _ _) (hq:=?_)))|(refine zj (f:=54) rfl Tryz.call54 (h:=AEq.pure' agT (zuO _ _ _ _ _ _ _ aoT aoT aoT) (hq:=?_)))|(refine zj (f:=56) rfl Tryz.call56 (h:=AEq.pure' agT (zEz _ _ _ _ _ _ _ aoT aoT aoT) (hq:=?_)))|refine y1F ?_|(refine zj (f:=51) rfl Tryz.call51 (h:=AEq.pure' agT (hof _ _ _ _ _ _ _ aoT) (hq:=?_)))|((refine zX [] exT (by rfl) (by rw[Tryz.results18];exact Lf.vC roT roT roT) sT sT (yI ?_ ?_ ?_) ?_)<;>(try exact uT))|(guard_target =~ dw _ _ _ _ _ _ _ _ _ _;first|((first|guard_target =~ dw _ _ _ _ _ (2::_) _ _ _ _|guard_target =~ dw _ _ _ _ _ (3::_) _ _ _ _);(refine vg rfl rfl (h:=zaj (h:=zW rfl (hK:=zl ⟨rfl,rfl⟩))) (hk:=?_))))|refine hK _ _ ?_;clear hK K))
 all_goals exact yo rfl
theorem bTF{c:Bool}: c=true\/c=false:=by cases c<;>simp
def kI(t g:Int): Int:=if z6 t g 8=true then 1 else 0
def ahI(t g:Int): Int:=kI t g+(if z6 t g 32=true then 5 else 0)+(if t=5 then 4 else 0)
def u4(b:List UInt8)(k:Int): Int:=z4 (b.drop k.toNat) 4
def u1(b:List UInt8)(k:Int): Int:=z4 (b.drop k.toNat) 1
theorem zj7(t g:Int): ∃c8 c32,z6 t g 8=c8/\z6 t g 32=c32 /\
    ((t=5/\c8=true/\c32=false/\ahI t g=5)\/(t=5/\c8=false/\c32=false/\ahI t g=4)\/(¬t=5/\c8=true/\c32=true/\ahI t g=6)\/(¬t=5/\c8=false/\c32=true/\ahI t g=5)\/(¬t=5/\c8=true/\c32=false/\ahI t g=1)\/(¬t=5/\c8=false/\c32=false/\ahI t g=0)):=by
  refine⟨_,_,rfl,rfl,?_⟩
  by_cases h5:t=5
  · subst h5
    have h32:=yx (t:=5) (g:=g) (by decide)
    rcases bTF (c:=z6 5 g 8)with h8|h8
    · exact .inl ⟨rfl,h8,h32,by unfold ahI kI;rw[f_t h8,f_f h32,if_pos rfl];rfl⟩
    · exact .inr (.inl ⟨rfl,h8,h32,by unfold ahI kI;rw[f_f h8,f_f h32,if_pos rfl];rfl⟩)
  · rcases bTF (c:=z6 t g 32)with h32 | h32
    · rcases bTF (c:=z6 t g 8)with h8 | h8
      · exact .inr (.inr (.inl ⟨h5,h8,h32,by unfold ahI kI;rw[f_t h8,f_t h32,if_neg h5];rfl⟩))
      · exact .inr (.inr (.inr (.inl ⟨h5,h8,h32,by unfold ahI kI;rw[f_f h8,f_t h32,if_neg h5];rfl⟩)))
    · rcases bTF (c:=z6 t g 8)with h8 | h8
      · exact .inr (.inr (.inr (.inr (.inl ⟨h5,h8,h32,by unfold ahI kI;rw[f_t h8,f_f h32,if_neg h5];rfl⟩))))
      · exact .inr (.inr (.inr (.inr (.inr ⟨h5,h8,h32,by unfold ahI kI;rw[f_f h8,f_f h32,if_neg h5];rfl⟩))))
theorem zuP{t g:Int}: 0<=kI t g/\kI t g<=ahI t g/\ahI t g<=10:=by
 unfold ahI kI
 repeat' split
 all_goals omega
theorem zqD{t g:Int}{n:Nat}(h:zcF t g n=false): scI t=if t=2 then 1 else 2:=by
 unfold scI
 by_cases h2:t=2
 ·rw[if_pos (.inr h2),if_pos h2]
 ·by_cases h0:t=0
  ·subst h0;rw[show zcF 0 g n=true from rfl]at h;exact absurd h (by simp)
  ·rw[if_neg (by omega),if_neg h2]
theorem zuQ{t g:Int}(h:0<ahI t g): scI t=if t=0 then 1 else 2:=by
 unfold scI
 by_cases h0:t=0
 ·rw[if_pos (.inl h0),if_pos h0]
 ·by_cases h2:t=2
  ·subst h2
   exfalso
   unfold ahI kI at h
   rw[f_f (jJ (by decide) (by decide) (by decide)),f_f (yx (by decide)),if_neg (by decide)]at h
   omega
  ·rw[if_neg (by omega),if_neg h0]
theorem zaw{b:List UInt8}{x:UInt8}(h:b[0]?=some x): z4 b 1=x.toNat:=by
 have:=zgG b 0 x h
 rwa [List.drop_zero]at this
def kM(t g s:Int)(b:List UInt8): Int×Int:=
 if zaU t s=false then(2,1)else if zcF t g b.length=false then(if t=2 then 1 else 2,6)else if(b.length:Int)<ahI t g then(if t=0 then 1 else 2,6)
 else if z6 t g 8=true/\(b.length:Int)-ahI t g<z4 b 1 then(2,1)else(0,0)
def rfD(t g:Int)(b:List UInt8)(k:Nat): List UInt8:=if z6 t g 8=true then(b.take ((b.length:Int)-z4 b 1).toNat).drop k else b.drop k
def kN(t g:Int): Nat:=if z6 t g 8=true then 1 else 0
def rfM(t g s:Int)(b:List UInt8): Fm:=
 if t=3 then⟨3,g,s,-1,true,[],true,[],0,0,false,0,0,u4 b 0,0⟩
 else if t=4 then⟨4,g,s,-1,true,[],false,zlp b,0,0,false,0,0,0,0⟩
 else if t=8 then⟨8,g,s,-1,true,[],true,[],0,0,false,0,0,0,vH (u4 b 0)⟩
 else if t=7 then⟨7,g,s,-1,false,b.drop 8,true,[],0,0,false,0,vH (u4 b 0),u4 b 4,0⟩
 else if t=5 then⟨5,g,s,kv 5 g b,false,rfD 5 g b (kN 5 g+4),true,[],0,0,false,vH (u4 b (kN 5 g)),0,0,0⟩
 else if t=2\/z6 t g 32=true then⟨t,g,s,kv t g b,false,rfD t g b (kN t g+5),true,[],u1 b ((kN t g:Int)+4),vH (u4 b (kN t g)),hiN (u4 b (kN t g)),0,0,0,0⟩
 else⟨t,g,s,kv t g b,false,rfD t g b (kN t g),true,[],0,0,false,0,0,0,0⟩
theorem zod{t g s:Int}{b:List UInt8}(h:kM t g s b=(0,0)): zcF t g b.length=true/\¬(b.length:Int)<ahI t g/\(z6 t g 8=true->z4 b 1<=(b.length:Int)-ahI t g):=by
 unfold kM at h
 split at h
 ·exact absurd h (by decide)
 ·split at h
  ·split at h<;>exact absurd h (by decide)
  ·rename_i h2
   split at h
   ·split at h<;>exact absurd h (by decide)
   ·rename_i h3
    split at h
    ·exact absurd h (by decide)
    ·rename_i h4
     refine⟨by cases e:zcF t g b.length;exact absurd e h2;rfl,h3,fun h8=>?_⟩
     apply Decidable.byContradiction
     intro hn
     exact h4 ⟨h8,by omega⟩
theorem zqE{b:List UInt8}{k:Nat}{y:UInt8}(h:b[k]?=some y): ((y.toNat:Nat):Int)=u1 b k:=by
 unfold u1
 rw[show((k:Nat):Int).toNat=k from Int.toNat_natCast k,zgG b k y h]
theorem zrX{b:List UInt8}{k:Nat}(h:k<b.length): ∃y,b[k]?=some y:=⟨b[k],List.getElem?_eq_getElem h⟩
theorem zj8{t g s:Int}{b:List UInt8}(h:kM t g s b=(0,0)):
    (t=3/\z6 t g 8=false/\z6 t g 32=false/\(0:Int)=0/\(0:Int)=0/\(0:Int)=0/\b.length=4/\rfM t g s b=⟨3,g,s,-1,true,[],true,[],0,0,false,0,0,u4 b 0,0⟩) \/
    (t=4/\z6 t g 8=false/\z6 t g 32=false/\(0:Int)=0/\(0:Int)=0/\(0:Int)=0/\True/\rfM t g s b=⟨4,g,s,-1,true,[],false,zlp b,0,0,false,0,0,0,0⟩) \/
    (t=8/\z6 t g 8=false/\z6 t g 32=false/\(0:Int)=0/\(0:Int)=0/\(0:Int)=0/\b.length=4/\rfM t g s b=⟨8,g,s,-1,true,[],true,[],0,0,false,0,0,0,vH (u4 b 0)⟩) \/
    (∃(_:t=7),z6 t g 8=false/\z6 t g 32=false/\(0:Int)=0/\(0:Int)=0/\(0:Int)=0/\8<=b.length/\rfM t g s b=⟨7,g,s,-1,false,b.drop 8,true,[],0,0,false,0,vH (u4 b 0),u4 b 4,0⟩) \/
    (∃x:UInt8,∃(_:t=5),z6 t g 8=true/\z6 t g 32=false/\((x.toNat:Nat):Int)=z4 b 1/\(0:Int)=0/\(0:Int)=0/\b[0]?=some x/\(z4 b 1<=(b.length:Int)-5/\0<=z4 b 1)/\5<=b.length/\rfM t g s b=⟨5,g,s,z4 b 1,false,(b.take ((b.length:Int)-z4 b 1).toNat).drop 5,true,[],0,0,false,vH (u4 b 1),0,0,0⟩) \/
    (∃(_:t=5),z6 t g 8=false/\z6 t g 32=false/\(0:Int)=0/\(0:Int)=0/\(0:Int)=0/\4<=b.length/\rfM t g s b=⟨5,g,s,-1,false,b.drop 4,true,[],0,0,false,vH (u4 b 0),0,0,0⟩) \/
    (∃y:UInt8,∃(_:t=2),z6 t g 8=false/\z6 t g 32=false/\(0:Int)=0/\((y.toNat:Nat):Int)=u1 b 4/\(0:Int)=0/\b[4]?=some y/\(0<=u1 b 4/\u1 b 4<4294967296)/\5<=b.length/\rfM t g s b=⟨2,g,s,-1,false,b.drop 5,true,[],u1 b 4,vH (u4 b 0),hiN (u4 b 0),0,0,0,0⟩) \/
    (∃x:UInt8,∃y:UInt8,∃(_:¬t=2/\¬t=3/\¬t=4/\¬t=5/\¬t=7/\¬t=8),z6 t g 8=true/\z6 t g 32=true/\((x.toNat:Nat):Int)=z4 b 1/\((y.toNat:Nat):Int)=u1 b 5/\(0:Int)=0/\b[0]?=some x/\(z4 b 1<=(b.length:Int)-6/\0<=z4 b 1)/\b[5]?=some y/\(0<=u1 b 5/\u1 b 5<4294967296)/\6<=b.length/\rfM t g s b=⟨t,g,s,z4 b 1,false,(b.take ((b.length:Int)-z4 b 1).toNat).drop 6,true,[],u1 b 5,vH (u4 b 1),hiN (u4 b 1),0,0,0,0⟩) \/
    (∃y:UInt8,∃(_:¬t=2/\¬t=3/\¬t=4/\¬t=5/\¬t=7/\¬t=8),z6 t g 8=false/\z6 t g 32=true/\(0:Int)=0/\((y.toNat:Nat):Int)=u1 b 4/\(0:Int)=0/\b[4]?=some y/\(0<=u1 b 4/\u1 b 4<4294967296)/\5<=b.length/\rfM t g s b=⟨t,g,s,-1,false,b.drop 5,true,[],u1 b 4,vH (u4 b 0),hiN (u4 b 0),0,0,0,0⟩) \/
    (∃x:UInt8,∃(_:¬t=2/\¬t=3/\¬t=4/\¬t=5/\¬t=7/\¬t=8),z6 t g 8=true/\z6 t g 32=false/\((x.toNat:Nat):Int)=z4 b 1/\(0:Int)=0/\(0:Int)=0/\b[0]?=some x/\(z4 b 1<=(b.length:Int)-1/\0<=z4 b 1)/\1<=b.length/\rfM t g s b=⟨t,g,s,z4 b 1,false,(b.take ((b.length:Int)-z4 b 1).toNat).drop 1,true,[],0,0,false,0,0,0,0⟩) \/
    (∃(_:¬t=2/\¬t=3/\¬t=4/\¬t=5/\¬t=7/\¬t=8),z6 t g 8=false/\z6 t g 32=false/\(0:Int)=0/\(0:Int)=0/\(0:Int)=0/\0<=b.length/\rfM t g s b=⟨t,g,s,-1,false,b,true,[],0,0,false,0,0,0,0⟩):=by
  obtain⟨hL,hA,hP⟩:=zod h
  have hgb:=zat b 1
  by_cases c3:t=3
  · subst c3
    have h8:=jJ (t:=3) (g:=g) (by decide) (by decide) (by decide)
    have h32:=yx (t:=3) (g:=g) (by decide)
    exact .inl ⟨rfl,h8,h32,rfl,rfl,rfl,of_decide_eq_true (show decide (b.length=4)=true from hL),rfl⟩
  by_cases c4:t=4
  · subst c4
    have h8:=jJ (t:=4) (g:=g) (by decide) (by decide) (by decide)
    have h32:=yx (t:=4) (g:=g) (by decide)
    exact .inr (.inl ⟨rfl,h8,h32,rfl,rfl,rfl,trivial,rfl⟩)
  by_cases c8:t=8
  · subst c8
    have h8:=jJ (t:=8) (g:=g) (by decide) (by decide) (by decide)
    have h32:=yx (t:=8) (g:=g) (by decide)
    exact .inr (.inr (.inl ⟨rfl,h8,h32,rfl,rfl,rfl,of_decide_eq_true (show decide (b.length=4)=true from hL),rfl⟩))
  by_cases c7:t=7
  · subst c7
    have h8:=jJ (t:=7) (g:=g) (by decide) (by decide) (by decide)
    have h32:=yx (t:=7) (g:=g) (by decide)
    have hl:=of_decide_eq_true (show decide (8<=b.length)=true from hL)
    have e:rfM 7 g s b=⟨7,g,s,-1,false,b.drop 8,true,[],0,0,false,0,vH (u4 b 0),u4 b 4,0⟩:=rfl
    exact .inr (.inr (.inr (.inl ⟨rfl,h8,h32,rfl,rfl,rfl,by omega,e⟩)))
  by_cases c5:t=5
  · subst c5
    have h32:=yx (t:=5) (g:=g) (by decide)
    rcases bTF (c:=z6 5 g 8)with h8|h8
    · have hk:kN 5 g=1:=f_t h8
      have ha:ahI 5 g=5:=by unfold ahI kI;rw[f_t h8,f_f h32,if_pos rfl];rfl
      have hp:kv 5 g b=z4 b 1:=f_t h8
      have hd:rfD 5 g b (kN 5 g+4)=(b.take ((b.length:Int)-z4 b 1).toNat).drop 5:=by rw[hk];exact f_t h8
      have hp2:=hP h8
      have e:rfM 5 g s b=⟨5,g,s,z4 b 1,false,(b.take ((b.length:Int)-z4 b 1).toNat).drop 5,true,[],0,0,false,vH (u4 b 1),0,0,0⟩:=by unfold rfM;rw[if_neg (by decide),if_neg (by decide),if_neg (by decide),if_neg (by decide),if_pos rfl,hp,hd,hk];rfl
      obtain⟨x,hx⟩:=zrX (b:=b) (k:=0) (by omega)
      have hgx:((x.toNat:Nat):Int)=z4 b 1:=(zaw hx).symm
      exact .inr (.inr (.inr (.inr (.inl ⟨x,rfl,h8,h32,hgx,rfl,rfl,hx,⟨by omega,by omega⟩,by omega,e⟩))))
    · have hk:kN 5 g=0:=f_f h8
      have ha:ahI 5 g=4:=by unfold ahI kI;rw[f_f h8,f_f h32,if_pos rfl];rfl
      have hp:kv 5 g b = -1:=f_f h8
      have hd:rfD 5 g b (kN 5 g+4)=b.drop 4:=by rw[hk];exact f_f h8
      have e:rfM 5 g s b=⟨5,g,s,-1,false,b.drop 4,true,[],0,0,false,vH (u4 b 0),0,0,0⟩:=by unfold rfM;rw[if_neg (by decide),if_neg (by decide),if_neg (by decide),if_neg (by decide),if_pos rfl,hp,hd,hk];rfl
      exact .inr (.inr (.inr (.inr (.inr (.inl ⟨rfl,h8,h32,rfl,rfl,rfl,by omega,e⟩)))))
  by_cases c2:t=2
  · subst c2
    have h8:=jJ (t:=2) (g:=g) (by decide) (by decide) (by decide)
    have h32:=yx (t:=2) (g:=g) (by decide)
    have hl:=of_decide_eq_true (show decide (b.length=5)=true from hL)
    have hk:kN 2 g=0:=f_f h8
    have hp:kv 2 g b = -1:=f_f h8
    have hd:rfD 2 g b (kN 2 g+5)=b.drop 5:=by rw[hk];exact f_f h8
    have e:rfM 2 g s b=⟨2,g,s,-1,false,b.drop 5,true,[],u1 b 4,vH (u4 b 0),hiN (u4 b 0),0,0,0,0⟩:=by unfold rfM;rw[if_neg (by decide),if_neg (by decide),if_neg (by decide),if_neg (by decide),if_neg (by decide),if_pos (.inl rfl),hp,hd,hk];rfl
    obtain⟨y,hy⟩:=zrX (b:=b) (k:=4) (by omega)
    have hgy:=zqE hy
    exact .inr (.inr (.inr (.inr (.inr (.inr (.inl ⟨y,rfl,h8,h32,rfl,hgy,rfl,hy,zat _ 1,by omega,e⟩))))))
  have c3':=c3
  have c8t:=c8
  rcases bTF (c:=z6 t g 32)with h32|h32
  · rcases bTF (c:=z6 t g 8)with h8 | h8
    · have hk:kN t g=1:=f_t h8
      have ha:ahI t g=6:=by unfold ahI kI;rw[f_t h8,f_t h32,if_neg c5];rfl
      have hp:kv t g b=z4 b 1:=f_t h8
      have hd:rfD t g b (kN t g+5)=(b.take ((b.length:Int)-z4 b 1).toNat).drop 6:=by rw[hk];exact f_t h8
      have hp2:=hP h8
      have e:rfM t g s b=⟨t,g,s,z4 b 1,false,(b.take ((b.length:Int)-z4 b 1).toNat).drop 6,true,[],u1 b 5,vH (u4 b 1),hiN (u4 b 1),0,0,0,0⟩:=by unfold rfM;rw[if_neg c3,if_neg c4,if_neg c8t,if_neg c7,if_neg c5,if_pos (.inr h32),hp,hd,hk];rfl
      obtain⟨x,hx⟩:=zrX (b:=b) (k:=0) (by omega)
      have hgx:((x.toNat:Nat):Int)=z4 b 1:=(zaw hx).symm
      obtain⟨y,hy⟩:=zrX (b:=b) (k:=5) (by omega)
      have hgy:=zqE hy
      exact .inr (.inr (.inr (.inr (.inr (.inr (.inr (.inl ⟨x,y,⟨c2,c3,c4,c5,c7,c8t⟩,h8,h32,hgx,hgy,rfl,hx,⟨by omega,by omega⟩,hy,zat _ 1,by omega,e⟩)))))))
    · have hk:kN t g=0:=f_f h8
      have ha:ahI t g=5:=by unfold ahI kI;rw[f_f h8,f_t h32,if_neg c5];rfl
      have hp:kv t g b = -1:=f_f h8
      have hd:rfD t g b (kN t g+5)=b.drop 5:=by rw[hk];exact f_f h8
      have e:rfM t g s b=⟨t,g,s,-1,false,b.drop 5,true,[],u1 b 4,vH (u4 b 0),hiN (u4 b 0),0,0,0,0⟩:=by unfold rfM;rw[if_neg c3,if_neg c4,if_neg c8t,if_neg c7,if_neg c5,if_pos (.inr h32),hp,hd,hk];rfl
      obtain⟨y,hy⟩:=zrX (b:=b) (k:=4) (by omega)
      have hgy:=zqE hy
      exact .inr (.inr (.inr (.inr (.inr (.inr (.inr (.inr (.inl ⟨y,⟨c2,c3,c4,c5,c7,c8t⟩,h8,h32,rfl,hgy,rfl,hy,zat _ 1,by omega,e⟩))))))))
  · rcases bTF (c:=z6 t g 8)with h8 | h8
    · have hk:kN t g=1:=f_t h8
      have ha:ahI t g=1:=by unfold ahI kI;rw[f_t h8,f_f h32,if_neg c5];rfl
      have hp:kv t g b=z4 b 1:=f_t h8
      have hd:rfD t g b (kN t g)=(b.take ((b.length:Int)-z4 b 1).toNat).drop 1:=by rw[hk];exact f_t h8
      have hp2:=hP h8
      have e:rfM t g s b=⟨t,g,s,z4 b 1,false,(b.take ((b.length:Int)-z4 b 1).toNat).drop 1,true,[],0,0,false,0,0,0,0⟩:=by unfold rfM;rw[if_neg c3,if_neg c4,if_neg c8t,if_neg c7,if_neg c5,if_neg (by rw[h32];simpa using c2),hp,hd]
      obtain⟨x,hx⟩:=zrX (b:=b) (k:=0) (by omega)
      have hgx:((x.toNat:Nat):Int)=z4 b 1:=(zaw hx).symm
      exact .inr (.inr (.inr (.inr (.inr (.inr (.inr (.inr (.inr (.inl ⟨x,⟨c2,c3,c4,c5,c7,c8t⟩,h8,h32,hgx,rfl,rfl,hx,⟨by omega,by omega⟩,by omega,e⟩)))))))))
    · have hk:kN t g=0:=f_f h8
      have ha:ahI t g=0:=by unfold ahI kI;rw[f_f h8,f_f h32,if_neg c5];rfl
      have hp:kv t g b = -1:=f_f h8
      have hd:rfD t g b (kN t g)=b:=by rw[hk];exact(f_f h8).trans (List.drop_zero)
      have e:rfM t g s b=⟨t,g,s,-1,false,b,true,[],0,0,false,0,0,0,0⟩:=by unfold rfM;rw[if_neg c3,if_neg c4,if_neg c8t,if_neg c7,if_neg c5,if_neg (by rw[h32];simpa using c2),hp,hd]
      exact .inr (.inr (.inr (.inr (.inr (.inr (.inr (.inr (.inr (.inr (⟨⟨c2,c3,c4,c5,c7,c8t⟩,h8,h32,rfl,rfl,rfl,by omega,e⟩))))))))))
end Go.Proofs.YtdalcgfnlbofdaaGreatDoor
