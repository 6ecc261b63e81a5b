import Derived.Test.YtdalcgfnlbofdaaGreatDoorZ15
import Derived.Test.YtdalcgfnlbofdaaGreatDoorZ14
import Derived.Test.YtdalcgfnlbofdaaGreatDoorZ03
set_option linter.unusedVariables false
set_option linter.unusedSimpArgs false
namespace Go.Proofs.YtdalcgfnlbofdaaGreatDoor
open Go Go.Lf Go.Proofs
attribute [local irreducible] Lf.rg Lf.ro Lf.PWp Lf.SOp Lf.ACall Lf.Scoped Lf.dg Lf.dw
set_option maxRecDepth 20000
set_option maxHeartbeats 4000000
def hiN(m:Int): Bool:=decide (2147483648<=m)
def yB(b:List UInt8)(a n:Int): Int:=if a+n<=b.length then a+n else a
def shB(b:List UInt8)(a n:Int): Bool:=decide ((b.length:Int)<a+n)
theorem zbQ(b:List UInt8)(a n:Int)(h0:0<=a)(h1:a<=b.length)(hn:0<=n): 0<=yB b a n/\yB b a n<=b.length:=by
 unfold yB;split<;>omega
theorem yy{b:List UInt8}{a n:Int}(h:a+n<=b.length): yB b a n=a+n:=if_pos h
theorem zcl{b:List UInt8}{a n:Int}(h:(b.length:Int)<a+n): shB b a n=true:=decide_eq_true h
theorem jf{b:List UInt8}{a n:Int}(h:¬(b.length:Int)<a+n): shB b a n=false:=decide_eq_false h
theorem zj3{b:List UInt8}{a n:Int}(h0:0<=a)(h1:a<=b.length)(hn1:1<=n)(hn4:n<=4): zdj (b.drop a.toNat) n=if(b.length:Int)<a+n then 3 else 0:=by
 have hl:((b.drop a.toNat).length:Int)=b.length-a:=by rw[List.length_drop];omega
 unfold zdj
 rw[if_neg (by rw[vE ⟨hn1,hn4⟩];simp),hl]
 by_cases h:(b.length:Int)<a+n
 ·rw[if_pos (by omega),if_pos h]
 ·rw[if_neg (by omega),if_neg h]
theorem zmX{b:List UInt8}{a n:Int}(h0:0<=a)(h1:a<=b.length)(hn1:1<=n)(hn4:n<=4): zmU b a n=yB b a n:=by
 unfold zmU yB
 rw[zj3 h0 h1 hn1 hn4]
 by_cases h:(b.length:Int)<a+n
 ·rw[if_pos h,if_neg (by decide),if_neg (by omega)]
 ·rw[if_neg h,if_pos rfl,if_pos (by omega)]
theorem zob{b:List UInt8}{a n m:Int}{sh:Bool}(hn:0<n)(hm:0<m): ((sh || shB b a n) || shB b (yB b a n) m)=(sh || shB b a (n+m)):=by
 rw[Bool.or_assoc]
 congr 1
 by_cases h:a+n<=b.length
 ·rw [yy h, jf (by omega), Bool.false_or]
  unfold shB
  rw[show a+n+m=a+(n+m)from by omega]
 ·rw[zcl (by omega),Bool.true_or,zcl (by omega)]
theorem zqA(n:Int)(h0:0<=n)(h1:n<4294967296): AEq Tryz.prog 185 [i64 n] [] (.tu [i64 (vH n),bl (hiN n)]) []:=by
 by_cases h:n<2147483648
 ·rw[show vH n=n from if_pos h,show hiN n=false from decide_eq_false (by omega)];exact zjS n h0 h
 ·rw[show vH n=n-2147483648 from if_neg h,show hiN n=true from decide_eq_true (by omega)];exact zjT n (by omega) h1
theorem kL(f:Bool)(b:List UInt8)(a n:Int)(sh:Bool)(h0:0<=a)(h1:a<=b.length)(hn1:1<=n)(hn4:n<=4)(h2:b.length<=1000000000): AEq Tryz.prog 96 [.ptr 0 0,i64 n] [.box [.ptr 1 0,bl sh],.box [.sl f false (b.map zk),i64 a]] (i64 (z4 (b.drop a.toNat) n)) [.box [.ptr 1 0,bl (sh || shB b a n)],.box [.sl f false (b.map zk),i64 (yB b a n)]]:=by
 have hc:=zmX h0 h1 hn1 hn4
 have hE:=zj3 h0 h1 hn1 hn4
 by_cases h:(b.length:Int)<a+n
 ·rw[if_pos h]at hE
  have hs:=zcl h
  cases sh with
  | true=>
   refine enT Tryz.func96 Tryz.ntmps96 ?_
   have hU:=And.intro @hc ( And.intro @hE ( And.intro @hs ( And.intro @Bool.or_true (@Bool.true_or))))
   exact wa
  | false=>
   refine enT Tryz.func96 Tryz.ntmps96 ?_
   have hU:=And.intro @hc ( And.intro @hE ( And.intro @hs ( And.intro @Bool.or_true (@Bool.true_or))))
   exact wa
 ·rw[if_neg h]at hE
  have hs:=jf h
  cases sh with
  | true=>
   refine enT Tryz.func96 Tryz.ntmps96 ?_
   have hU:=And.intro @hc ( And.intro @hE ( And.intro @hs ( And.intro @Bool.or_true (@Bool.true_or))))
   exact wa
  | false=>
   refine enT Tryz.func96 Tryz.ntmps96 ?_
   have hU:=And.intro @hc ( And.intro @hE ( And.intro @hs ( And.intro @Bool.or_false (@Bool.false_or))))
   exact wa
theorem zgH(f:Bool)(b:List UInt8)(a:Int)(sh:Bool)(h0:0<=a)(h1:a<=b.length)(h2:b.length<=1000000000): AEq Tryz.prog 146 [.ptr 0 0] [.box [.ptr 1 0,bl sh],.box [.sl f false (b.map zk),i64 a]] (.tu [i64 (vH (z4 (b.drop a.toNat) 4)),bl (hiN (z4 (b.drop a.toNat) 4))]) [.box [.ptr 1 0,bl (sh || shB b a 4)],.box [.sl f false (b.map zk),i64 (yB b a 4)]]:=by
 have hg:=zat (b.drop a.toNat) 4
 have hg1:=hg.1
 have hg2:=hg.2
 refine enT Tryz.func146 Tryz.ntmps146 ?_
 have hU:=True.intro
 repeat'(first|refine goR ?_|refine zd fun K hK=>?_|(refine zj (f:=185) rfl Tryz.call185 (h:=AEq.pure' agT (zqA _ aoT aoT) (hq:=?_)))|refine y16 ?_|((refine zo [0,1] (by rw[Tryz.results146,Lf.ym]) (zF ?_ ?_) ?_)<;>(try exact uT))|refine hK _ _ ?_;clear hK K)
theorem zcE(f:Bool)(b:List UInt8)(a:Int)(sh:Bool)(t g s p:Int)(h0:0<=a)(h1:a<=b.length)(h2:b.length<=1000000000): AEq Tryz.prog 145 [.ptr 1 0,.ptr 0 0] [.box [i64 t,i64 g,i64 s,i64 p,.sl true false [],.sl true false [],i64 0,i64 0,bl false,i64 0,i64 0,i64 0,i64 0],.box [.ptr 2 0,bl sh],.box [.sl f false (b.map zk),i64 a]] (.tu []) [.box [i64 t,i64 g,i64 s,i64 p,.sl true false [],.sl true false [],i64 (z4 (b.drop (yB b a 4).toNat) 1),i64 (vH (z4 (b.drop a.toNat) 4)),bl (hiN (z4 (b.drop a.toNat) 4)),i64 0,i64 0,i64 0,i64 0],.box [.ptr 2 0,bl (sh || shB b a 5)],.box [.sl f false (b.map zk),i64 (yB b (yB b a 4) 1)]]:=by
 have hp:=zbQ b a 4 h0 h1 (by decide)
 have hp1:=hp.1
 have hp2:=hp.2
 have hs:=zob (b:=b) (a:=a) (n:=4) (m:=1) (sh:=sh) (by decide) (by decide)
 rw[show(4:Int)+1=5 from rfl]at hs
 refine enT Tryz.func145 Tryz.ntmps145 ?_
 have hU:=@hs
 repeat'(first|refine goR ?_|refine zd fun K hK=>?_|refine y16 ?_|(refine zj (f:=146) rfl Tryz.call146 (h:=AEq.sub' [_,_] (hc:=zgH _ _ _ _ aoT aoT aoT) (hq:=?_)))|((refine zo [0,1,2] (by rw[Tryz.results145,Lf.jC]) yH ?_)<;>(try exact uT))|refine hK _ _ ?_;clear hK K)
theorem zqB(f:Bool)(b:List UInt8)(a:Int)(sh:Bool)(g s p:Int)(h0:0<=a)(h1:a<=b.length)(h2:b.length<=1000000000)(hg0:0<=g)(hg1:g<256)(hH:z6 1 g 32=true): AEq Tryz.prog 97 [.ptr 1 0,.ptr 0 0] [.box [i64 1,i64 g,i64 s,i64 p,.sl true false [],.sl true false [],i64 0,i64 0,bl false,i64 0,i64 0,i64 0,i64 0],.box [.ptr 2 0,bl sh],.box [.sl f false (b.map zk),i64 a]] (.tu []) [.box [i64 1,i64 g,i64 s,i64 p,.sl true false [],.sl true false [],i64 (z4 (b.drop (yB b a 4).toNat) 1),i64 (vH (z4 (b.drop a.toNat) 4)),bl (hiN (z4 (b.drop a.toNat) 4)),i64 0,i64 0,i64 0,i64 0],.box [.ptr 2 0,bl (sh || shB b a 5)],.box [.sl f false (b.map zk),i64 (yB b (yB b a 4) 1)]]:=by
 refine enT Tryz.func97 Tryz.ntmps97 ?_
 have hU:=@hH
 repeat'(first|refine goR ?_|refine zd fun K hK=>?_|refine y7 ?_|refine zc ?_ ?_<;>intro hcd<;>(try simp only[hcP]at hcd)<;>try exact cdT|(refine zj (f:=145) rfl Tryz.call145 (h:=AEq.sub' [_,_,_] (hc:=zcE _ _ _ _ _ _ _ _ aoT aoT aoT) (hq:=?_)))|((refine zo [0,1,2] (by rw[Tryz.results97,Lf.jC]) yH ?_)<;>(try exact uT))|refine y1T ?_|refine hK _ _ ?_;clear hK K)
theorem zqC(f:Bool)(b:List UInt8)(a:Int)(sh:Bool)(g s p:Int)(h0:0<=a)(h1:a<=b.length)(h2:b.length<=1000000000)(hg0:0<=g)(hg1:g<256)(hH:z6 1 g 32=false): AEq Tryz.prog 97 [.ptr 1 0,.ptr 0 0] [.box [i64 1,i64 g,i64 s,i64 p,.sl true false [],.sl true false [],i64 0,i64 0,bl false,i64 0,i64 0,i64 0,i64 0],.box [.ptr 2 0,bl sh],.box [.sl f false (b.map zk),i64 a]] (.tu []) [.box [i64 1,i64 g,i64 s,i64 p,.sl true false [],.sl true false [],i64 0,i64 0,bl false,i64 0,i64 0,i64 0,i64 0],.box [.ptr 2 0,bl sh],.box [.sl f false (b.map zk),i64 (a)]]:=by
 refine enT Tryz.func97 Tryz.ntmps97 ?_
 have hU:=@hH
 repeat'(first|refine goR ?_|refine zd fun K hK=>?_|refine y7 ?_|refine zc ?_ ?_<;>intro hcd<;>(try simp only[hcP]at hcd)<;>try exact cdT|((refine zo [0,1,2] (by rw[Tryz.results97,Lf.jC]) yH ?_)<;>(try exact uT))|refine y1T ?_|refine hK _ _ ?_;clear hK K)
theorem zuI(f:Bool)(b:List UInt8)(a:Int)(sh:Bool)(g s p:Int)(h0:0<=a)(h1:a<=b.length)(h2:b.length<=1000000000)(hg0:0<=g)(hg1:g<256): AEq Tryz.prog 97 [.ptr 1 0,.ptr 0 0] [.box [i64 2,i64 g,i64 s,i64 p,.sl true false [],.sl true false [],i64 0,i64 0,bl false,i64 0,i64 0,i64 0,i64 0],.box [.ptr 2 0,bl sh],.box [.sl f false (b.map zk),i64 a]] (.tu []) [.box [i64 2,i64 g,i64 s,i64 p,.sl true false [],.sl true false [],i64 (z4 (b.drop (yB b a 4).toNat) 1),i64 (vH (z4 (b.drop a.toNat) 4)),bl (hiN (z4 (b.drop a.toNat) 4)),i64 0,i64 0,i64 0,i64 0],.box [.ptr 2 0,bl (sh || shB b a 5)],.box [.sl f false (b.map zk),i64 (yB b (yB b a 4) 1)]]:=by
 refine enT Tryz.func97 Tryz.ntmps97 ?_
 have hU:=True.intro
 repeat'(first|refine goR ?_|refine zd fun K hK=>?_|refine zc ?_ ?_<;>intro hcd<;>(try simp only[hcP]at hcd)<;>try exact cdT|(refine zj (f:=145) rfl Tryz.call145 (h:=AEq.sub' [_,_,_] (hc:=zcE _ _ _ _ _ _ _ _ (by assumption) (by assumption) (by assumption)) (hq:=?_)))|((refine zo [0,1,2] (by rw[Tryz.results97,Lf.jC]) yH ?_)<;>(try exact uT))|refine hK _ _ ?_;clear hK K)
theorem zuJ(f:Bool)(b:List UInt8)(a:Int)(sh:Bool)(g s p:Int)(h0:0<=a)(h1:a<=b.length)(h2:b.length<=1000000000)(hg0:0<=g)(hg1:g<256): AEq Tryz.prog 97 [.ptr 1 0,.ptr 0 0] [.box [i64 3,i64 g,i64 s,i64 p,.sl true false [],.sl true false [],i64 0,i64 0,bl false,i64 0,i64 0,i64 0,i64 0],.box [.ptr 2 0,bl sh],.box [.sl f false (b.map zk),i64 a]] (.tu []) [.box [i64 3,i64 g,i64 s,i64 p,.sl true false [],.sl true false [],i64 0,i64 0,bl false,i64 0,i64 0,i64 (z4 (b.drop a.toNat) 4),i64 0],.box [.ptr 2 0,bl (sh || shB b a 4)],.box [.sl f false (b.map zk),i64 (yB b a 4)]]:=by
 refine enT Tryz.func97 Tryz.ntmps97 ?_
 have hU:=True.intro
 repeat'(first|refine goR ?_|refine zd fun K hK=>?_|refine zc ?_ ?_<;>intro hcd<;>(try simp only[hcP]at hcd)<;>try exact cdT|refine y16 ?_|((refine zo [0,1,2] (by rw[Tryz.results97,Lf.jC]) yH ?_)<;>(try exact uT))|refine hK _ _ ?_;clear hK K)
theorem zuK(f:Bool)(b:List UInt8)(a:Int)(sh:Bool)(g s p:Int)(h0:0<=a)(h1:a<=b.length)(h2:b.length<=1000000000)(hg0:0<=g)(hg1:g<256): AEq Tryz.prog 97 [.ptr 1 0,.ptr 0 0] [.box [i64 5,i64 g,i64 s,i64 p,.sl true false [],.sl true false [],i64 0,i64 0,bl false,i64 0,i64 0,i64 0,i64 0],.box [.ptr 2 0,bl sh],.box [.sl f false (b.map zk),i64 a]] (.tu []) [.box [i64 5,i64 g,i64 s,i64 p,.sl true false [],.sl true false [],i64 0,i64 0,bl false,i64 (vH (z4 (b.drop a.toNat) 4)),i64 0,i64 0,i64 0],.box [.ptr 2 0,bl (sh || shB b a 4)],.box [.sl f false (b.map zk),i64 (yB b a 4)]]:=by
 refine enT Tryz.func97 Tryz.ntmps97 ?_
 have hU:=True.intro
 exact wu
theorem zuL(f:Bool)(b:List UInt8)(a:Int)(sh:Bool)(g s p:Int)(h0:0<=a)(h1:a<=b.length)(h2:b.length<=1000000000)(hg0:0<=g)(hg1:g<256): AEq Tryz.prog 97 [.ptr 1 0,.ptr 0 0] [.box [i64 7,i64 g,i64 s,i64 p,.sl true false [],.sl true false [],i64 0,i64 0,bl false,i64 0,i64 0,i64 0,i64 0],.box [.ptr 2 0,bl sh],.box [.sl f false (b.map zk),i64 a]] (.tu []) [.box [i64 7,i64 g,i64 s,i64 p,.sl true false [],.sl true false [],i64 0,i64 0,bl false,i64 0,i64 (vH (z4 (b.drop a.toNat) 4)),i64 (z4 (b.drop (yB b a 4).toNat) 4),i64 0],.box [.ptr 2 0,bl (sh || shB b a 8)],.box [.sl f false (b.map zk),i64 (yB b (yB b a 4) 4)]]:=by
 have hp:=zbQ b a 4 h0 h1 (by decide)
 have hp1:=hp.1
 have hp2:=hp.2
 have hs:=zob (b:=b) (a:=a) (n:=4) (m:=4) (sh:=sh) (by decide) (by decide)
 rw[show(4:Int)+4=8 from rfl]at hs
 refine enT Tryz.func97 Tryz.ntmps97 ?_
 have hU:=@hs
 repeat'(first|refine goR ?_|refine zd fun K hK=>?_|refine zc ?_ ?_<;>intro hcd<;>(try simp only[hcP]at hcd)<;>try exact cdT|(refine zj (f:=146) rfl Tryz.call146 (h:=AEq.sub' [_,_] (hc:=zgH _ _ _ _ aoT aoT aoT) (hq:=?_)))|refine y16 ?_|((refine zo [0,1,2] (by rw[Tryz.results97,Lf.jC]) yH ?_)<;>(try exact uT))|refine hK _ _ ?_;clear hK K)
theorem zuM(f:Bool)(b:List UInt8)(a:Int)(sh:Bool)(g s p:Int)(h0:0<=a)(h1:a<=b.length)(h2:b.length<=1000000000)(hg0:0<=g)(hg1:g<256): AEq Tryz.prog 97 [.ptr 1 0,.ptr 0 0] [.box [i64 8,i64 g,i64 s,i64 p,.sl true false [],.sl true false [],i64 0,i64 0,bl false,i64 0,i64 0,i64 0,i64 0],.box [.ptr 2 0,bl sh],.box [.sl f false (b.map zk),i64 a]] (.tu []) [.box [i64 8,i64 g,i64 s,i64 p,.sl true false [],.sl true false [],i64 0,i64 0,bl false,i64 0,i64 0,i64 0,i64 (vH (z4 (b.drop a.toNat) 4))],.box [.ptr 2 0,bl (sh || shB b a 4)],.box [.sl f false (b.map zk),i64 (yB b a 4)]]:=by
 refine enT Tryz.func97 Tryz.ntmps97 ?_
 have hU:=True.intro
 exact wu
theorem zuN(f:Bool)(b:List UInt8)(a:Int)(sh:Bool)(t:Int)(g s p:Int)(h0:0<=a)(h1:a<=b.length)(h2:b.length<=1000000000)(hg0:0<=g)(hg1:g<256)(hh1:¬t=1)(hh2:¬t=2)(hh3:¬t=3)(hh5:¬t=5)(hh7:¬t=7)(hh8:¬t=8): AEq Tryz.prog 97 [.ptr 1 0,.ptr 0 0] [.box [i64 t,i64 g,i64 s,i64 p,.sl true false [],.sl true false [],i64 0,i64 0,bl false,i64 0,i64 0,i64 0,i64 0],.box [.ptr 2 0,bl sh],.box [.sl f false (b.map zk),i64 a]] (.tu []) [.box [i64 t,i64 g,i64 s,i64 p,.sl true false [],.sl true false [],i64 0,i64 0,bl false,i64 0,i64 0,i64 0,i64 0],.box [.ptr 2 0,bl sh],.box [.sl f false (b.map zk),i64 (a)]]:=by
 refine enT Tryz.func97 Tryz.ntmps97 ?_
 have hU:=True.intro
 repeat'(first|refine goR ?_|refine zd fun K hK=>?_|refine zc ?_ ?_<;>intro hcd<;>(try simp only[hcP]at hcd)<;>try exact cdT|((refine zo [0,1,2] (by rw[Tryz.results97,Lf.jC]) yH ?_)<;>(try exact uT))|refine hK _ _ ?_;clear hK K)
theorem zj4(a c:Int): AEq Tryz.prog 53 [i64 a,i64 c] [] (.ag [i64 a,i64 c]) []:=by
 refine enT Tryz.func53 Tryz.ntmps53 ?_
 have hU:=True.intro
 repeat'(first|refine goR ?_|refine zd fun K hK=>?_|((refine zX [] exT (by rfl) (by rw[Tryz.results53,Lf.zap];(try simp(disch:=omega)only[Lf.z3,go_sem,seval,↓reduceIte,hU]);rfl) sT sT (zw ?_) ?_)<;>(try exact uT))|refine hK _ _ ?_;clear hK K)
def scI(t:Int): Int:=if t=0\/t=2 then 1 else 2
theorem zj5(t:Int): AEq Tryz.prog 55 [i64 t] [] (i64 (scI t)) []:=by
 by_cases h:t=0\/t=2
 ·rw[show scI t=1 from if_pos h]
  rcases h with rfl|rfl
  ·refine enT Tryz.func55 Tryz.ntmps55 ?_
   have hU:=True.intro
   exact wi
  ·refine enT Tryz.func55 Tryz.ntmps55 ?_
   have hU:=True.intro
   exact wi
 ·rw[show scI t=2 from if_neg h]
  have h0:¬t=0:=by omega
  have h2:¬t=2:=by omega
  refine enT Tryz.func55 Tryz.ntmps55 ?_
  have hU:=True.intro
  exact wi
def zaU(t s:Int): Bool:=if zj1 t=0 then decide (s=0)else if zj1 t=1 then !decide (s=0)else true
theorem zj6(w t g s:Int)(r f:Bool)(b:List UInt8): AEq Tryz.prog 52 [.ag [i64 w,i64 t,i64 g,i64 s,bl r,.sl f false (b.map zk)]] [] (bl (zaU t s)) []:=by
 by_cases h0:zj1 t=0
 ·rw[show zaU t s=decide (s=0)from if_pos h0]
  refine enT Tryz.func52 Tryz.ntmps52 ?_
  have hU:=@h0
  repeat'(first|refine goR ?_|refine zd fun K hK=>?_|refine zc ?_ ?_<;>intro hcd<;>(try simp only[hcP]at hcd)<;>try exact cdT|refine y1D ?_|((refine zo [] (by rw[Tryz.results52,Lf.zI]) (zw ?_) ?_)<;>(try exact uT))|refine hK _ _ ?_;clear hK K)
  all_goals exact zJ (by first|rfl|(simp;done))
 ·by_cases h1:zj1 t=1
  ·rw[show zaU t s = !decide (s=0)from(if_neg h0).trans (if_pos h1)]
   refine enT Tryz.func52 Tryz.ntmps52 ?_
   have hU:=@h1
   repeat'(first|refine goR ?_|refine zd fun K hK=>?_|refine zc ?_ ?_<;>intro hcd<;>(try simp only[hcP]at hcd)<;>try exact cdT|refine y1D ?_|((refine zo [] (by rw[Tryz.results52,Lf.zI]) (zw ?_) ?_)<;>(try exact uT))|refine hK _ _ ?_;clear hK K)
   all_goals exact zJ (by first|rfl|(simp;done))
  ·rw[show zaU t s=true from(if_neg h0).trans (if_neg h1)]
   refine enT Tryz.func52 Tryz.ntmps52 ?_
   have hU:=True.intro
   repeat'(first|refine goR ?_|refine zd fun K hK=>?_|refine zc ?_ ?_<;>intro hcd<;>(try simp only[hcP]at hcd)<;>try exact cdT|refine y1D ?_|((refine zo [] (by rw[Tryz.results52,Lf.zI]) (zw ?_) ?_)<;>(try exact uT))|refine hK _ _ ?_;clear hK K)
def zcF(t g:Int)(n:Nat): Bool:=if t=2 then decide (n=5)else if t=3\/t=8 then decide (n=4)else if t=6 then decide (n=8)else if t=7 then decide (8<=n)else if t=4 then(if z6 4 g 1=true then decide (n=0)else decide (n % 6=0))else true
theorem zoc(g:Int)(n:Nat): zcF 4 g n=if z6 4 g 1=true then decide (n=0)else decide (n % 6=0):=rfl
theorem zuO(w t g s:Int)(r f:Bool)(b:List UInt8)(hg0:0<=g)(hg1:g<256)(hb:b.length<=1000000000): AEq Tryz.prog 54 [.ag [i64 w,i64 t,i64 g,i64 s,bl r,.sl f false (b.map zk)]] [] (bl (zcF t g b.length)) []:=by
 by_cases h2:t=2
 ·subst h2
  rw[show zcF 2 g b.length=decide (b.length=5)from rfl]
  refine enT Tryz.func54 Tryz.ntmps54 ?_
  have hU:=True.intro
  repeat'(first|refine goR ?_|refine zd fun K hK=>?_|refine zc ?_ ?_<;>intro hcd<;>(try simp only[hcP]at hcd)<;>try exact cdT|((refine zo [] (by rw[Tryz.results54,Lf.zI]) (zw ?_) ?_)<;>(try exact uT))|refine hK _ _ ?_;clear hK K)
  all_goals exact zJ (by grind)
 by_cases h3:t=3
 ·subst h3
  rw[show zcF 3 g b.length=decide (b.length=4)from rfl]
  refine enT Tryz.func54 Tryz.ntmps54 ?_
  have hU:=True.intro
  repeat'(first|refine goR ?_|refine zd fun K hK=>?_|refine zc ?_ ?_<;>intro hcd<;>(try simp only[hcP]at hcd)<;>try exact cdT|((refine zo [] (by rw[Tryz.results54,Lf.zI]) (zw ?_) ?_)<;>(try exact uT))|refine hK _ _ ?_;clear hK K)
  all_goals exact zJ (by grind)
 by_cases h8:t=8
 ·subst h8
  rw[show zcF 8 g b.length=decide (b.length=4)from rfl]
  refine enT Tryz.func54 Tryz.ntmps54 ?_
  have hU:=True.intro
  repeat'(first|refine goR ?_|refine zd fun K hK=>?_|refine zc ?_ ?_<;>intro hcd<;>(try simp only[hcP]at hcd)<;>try exact cdT|((refine zo [] (by rw[Tryz.results54,Lf.zI]) (zw ?_) ?_)<;>(try exact uT))|refine hK _ _ ?_;clear hK K)
  all_goals exact zJ (by grind)
 by_cases h6:t=6
 ·subst h6
  rw[show zcF 6 g b.length=decide (b.length=8)from rfl]
  refine enT Tryz.func54 Tryz.ntmps54 ?_
  have hU:=True.intro
  repeat'(first|refine goR ?_|refine zd fun K hK=>?_|refine zc ?_ ?_<;>intro hcd<;>(try simp only[hcP]at hcd)<;>try exact cdT|((refine zo [] (by rw[Tryz.results54,Lf.zI]) (zw ?_) ?_)<;>(try exact uT))|refine hK _ _ ?_;clear hK K)
  all_goals exact zJ (by grind)
 by_cases h7:t=7
 ·subst h7
  rw[show zcF 7 g b.length=decide (8<=b.length)from rfl]
  refine enT Tryz.func54 Tryz.ntmps54 ?_
  have hU:=True.intro
  repeat'(first|refine goR ?_|refine zd fun K hK=>?_|refine zc ?_ ?_<;>intro hcd<;>(try simp only[hcP]at hcd)<;>try exact cdT|((refine zo [] (by rw[Tryz.results54,Lf.zI]) (zw ?_) ?_)<;>(try exact uT))|refine hK _ _ ?_;clear hK K)
  all_goals exact zJ (by grind)
 by_cases h4:t=4
 ·subst h4
  cases hH:z6 4 g 1 with
  | true=>
   rw[show zcF 4 g b.length=decide (b.length=0)from(zoc g _).trans (if_pos hH)]
   refine enT Tryz.func54 Tryz.ntmps54 ?_
   have hU:=@hH
   repeat'(first|refine goR ?_|refine zd fun K hK=>?_|refine zc ?_ ?_<;>intro hcd<;>(try simp only[hcP]at hcd)<;>try exact cdT|(refine zj (f:=94) rfl Tryz.call94 (h:=AEq.pure' agT (zuH _ _ _ aoT aoT aoT) (hq:=?_)))|((refine zo [] (by rw[Tryz.results54,Lf.zI]) (zw ?_) ?_)<;>(try exact uT))|refine hK _ _ ?_;clear hK K)
   all_goals exact zJ (by grind)
  | false=>
   rw[show zcF 4 g b.length=decide (b.length % 6=0)from(zoc g _).trans (if_neg (by rw[hH];simp))]
   refine enT Tryz.func54 Tryz.ntmps54 ?_
   have hU:=@hH
   repeat'(first|refine goR ?_|refine zd fun K hK=>?_|refine zc ?_ ?_<;>intro hcd<;>(try simp only[hcP]at hcd)<;>try exact cdT|(refine zj (f:=94) rfl Tryz.call94 (h:=AEq.pure' agT (zuH _ _ _ aoT aoT aoT) (hq:=?_)))|((refine zo [] (by rw[Tryz.results54,Lf.zI]) (zw ?_) ?_)<;>(try exact uT))|refine hK _ _ ?_;clear hK K)
   all_goals exact zJ (by grind)
 rw[show zcF t g b.length=true from by unfold zcF;rw[if_neg h2,if_neg (by omega),if_neg h6,if_neg h7,if_neg h4]]
 refine enT Tryz.func54 Tryz.ntmps54 ?_
 have hU:=True.intro
 repeat'(first|refine goR ?_|refine zd fun K hK=>?_|refine zc ?_ ?_<;>intro hcd<;>(try simp only[hcP]at hcd)<;>try exact cdT|((refine zo [] (by rw[Tryz.results54,Lf.zI]) (zw ?_) ?_)<;>(try exact uT))|refine hK _ _ ?_;clear hK K)
end Go.Proofs.YtdalcgfnlbofdaaGreatDoor
