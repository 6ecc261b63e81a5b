import Derived.Test.YtdalcgfnlbofdaaGreatDoorZ07
import Derived.Test.YtdalcgfnlbofdaaGreatDoorZ18
import Derived.Test.YtdalcgfnlbofdaaGreatDoorZ11
set_option linter.unusedVariables false
set_option linter.unusedSimpArgs false
namespace Go.Proofs.YtdalcgfnlbofdaaGreatDoor
open Go Go.Lf Go.Proofs
attribute [local irreducible] Lf.rg Lf.ro Lf.PWp Lf.SOp Lf.ACall Lf.Scoped Lf.dg Lf.dw
set_option maxRecDepth 20000
set_option maxHeartbeats 4000000
section
def addX(xs:List Fl)(m:Int)(f:Fl): List Fl:=keptL xs (m-wt f)++[flN f]
theorem zkb(xs:List Fl)(m:Int)(f:Fl): keptL xs (m-wt f)++[flN f]=addX xs m f:=rfl
theorem zdz(xs:List Fl)(m:Int)(f:Fl): (addX xs m f).length<=xs.length+1:=by
 have:=yS (m-wt f) xs
 unfold addX
 rw[List.length_append,List.length_singleton];omega
theorem zgN{xs:List Fl}{m:Int}{f:Fl}(h:wt f<=m): zC (addX xs m f)<=m:=by
 have:=vO (m-wt f) (by omega) xs
 unfold addX
 rw[zde]
 simp only[zC,zzD];omega
def snI(S:List Int)(n:Int): List Int:=S++[n]
theorem zkc(S:List Int)(n:Int): List.map yz (snI S n)=List.map yz S++[[i64 n]]:=by unfold snI;rw[List.map_append];rfl
theorem zkd(S:List Int)(n:Int): (snI S n).length=S.length+1:=by unfold snI;rw[List.length_append];rfl
def snF(F:List Fl)(f:Fl): List Fl:=F++[f]
theorem zbT(F:List Fl)(f:Fl): List.map flA (snF F f)=List.map flA F++[[.lit (.string f.n),.lit (.string f.v),bl f.k]]:=by unfold snF;rw[List.map_append];rfl
theorem kO(F:List Fl)(f:Fl): (snF F f).length=F.length+1:=by unfold snF;rw[List.length_append];rfl
def zqF(f:Fl): List Fl:=[f]
def stF(i:Int): Fl:=⟨(v6 i).1,(v6 i).2,false⟩
def dAt(xs:List Fl)(i:Int): Option Fl:=if i<=61 then(if 1<=i then some (stF i)else none)else xs.reverse[(i-61).toNat-1]?
theorem zgO{xs:List Fl}{i:Int}(h1:1<=i)(h2:i<=61): dAt xs i=some (stF i):=by rw[dAt,if_pos h2,if_pos h1]
theorem zgP{xs:List Fl}{i:Int}(h:¬i<=61): dAt xs i=xs.reverse[(i-61).toNat-1]?:=by rw[dAt,if_neg h]
attribute [local irreducible] wt zC keptL flN addX v6 zqF snI snF
theorem zcH(xs:List Fl)(s:Nat)(m:Int)(n v:ByteArray)(k:Bool)(h:xs.length<=100000)(hS:zC xs<=4000000000)(hb:∀f∈xs,f.n.size<=1000000000/\f.v.size<=1000000000)(h1:n.size<=1000000000)(h2:v.size<=1000000000)(h3:0<=m)(h4:m<wt ⟨n,v,k⟩): AEq Tryz.prog 204 [.ptr 0 0,.ag [.lit (.string n),.lit (.string v),.lit (.bool k)]] [.box [.row 1 s,i64 (zC xs),i64 m],.row s 103 3 (xs.map flA)] (.tu []) [.box [.row 1 (s+1),i64 (zC xsE),i64 m],.row (s+1) 103 3 (xsE.map flA)]:=zjM xs s m ⟨n,v,k⟩ h hS hb h1 h2 h3 h4
set_option maxRecDepth 20000 in
theorem zer(F:List Fl)(S:List Int)(a c:Nat)(xs:List Fl)(s:Nat)(m i:Int)(g:Fl)(h:xs.length<=90000)(h1:1<=i)(h2:i<=2147483647)(hg:dAt xs i=some g): AEq Tryz.prog 214 [.ptr 0 0,i64 i] [.box [.row 1 a,.row 2 c,.ptr 3 0],.row a 103 3 (F.map flA),.row c 3 1 (S.map yz),.box [.row 4 s,i64 (zC xs),i64 m],.row s 103 3 (xs.map flA)] (.tu [.ag (flA g),i64 0]) [.box [.row 1 a,.row 2 c,.ptr 3 0],.row a 103 3 (F.map flA),.row c 3 1 (S.map yz),.box [.row 4 s,i64 (zC xs),i64 m],.row s 103 3 (xs.map flA)]:=by
 by_cases hi:i<=61
 ·rw[zgO h1 hi]at hg
  obtain rfl:=Option.some.inj hg
  refine enT Tryz.func214 Tryz.ntmps214 ?_
  have hU:=True.intro
  repeat'(first|refine goR ?_|refine zd fun K hK=>?_|refine zc ?_ ?_<;>intro hcd<;>(try simp only[hcP]at hcd)<;>try exact cdT|(refine zj (f:=234) rfl Tryz.call234 (h:=AEq.pure' agT (zax _ (by omega)) (hq:=?_)))|((refine zX [0,1,2,3,4] exT (by rfl) (by rw[Tryz.results214];exact Lf.vF roT roT) sT sT (zF ?_ ?_) ?_)<;>(try exact uT))|refine hK _ _ ?_;clear hK K)
 ·rw[zgP hi]at hg
  have hgl:=(List.getElem?_eq_some_iff.1 hg).1
  rw[List.length_reverse]at hgl
  refine enT Tryz.func214 Tryz.ntmps214 ?_
  have hU:=True.intro
  repeat'(first|refine goR ?_|refine zd fun K hK=>?_|refine zc ?_ ?_<;>intro hcd<;>(try simp only[hcP]at hcd)<;>try exact cdT|(refine zj (f:=234) rfl Tryz.call234 (h:=AEq.pure' agT (zcG _ aoT) (hq:=?_)))|refine y13 ?_|((refine zX [0,1,2,3,4] exT (by rfl) (by rw[Tryz.results214];exact Lf.vF roT roT) sT sT (zF ?_ ?_) ?_)<;>(try exact uT))|refine hK _ _ ?_;clear hK K)
set_option maxRecDepth 20000 in
theorem zuS(F:List Fl)(S:List Int)(a c:Nat)(xs:List Fl)(s:Nat)(m i:Int)(h:xs.length<=90000)(h1:1<=i)(h2:i<=2147483647)(hg:dAt xs i=none): AEq Tryz.prog 214 [.ptr 0 0,i64 i] [.box [.row 1 a,.row 2 c,.ptr 3 0],.row a 103 3 (F.map flA),.row c 3 1 (S.map yz),.box [.row 4 s,i64 (zC xs),i64 m],.row s 103 3 (xs.map flA)] (.tu [.ag (flA fl0),i64 12]) [.box [.row 1 a,.row 2 c,.ptr 3 0],.row a 103 3 (F.map flA),.row c 3 1 (S.map yz),.box [.row 4 s,i64 (zC xs),i64 m],.row s 103 3 (xs.map flA)]:=by
 by_cases hi:i<=61
 ·rw[zgO h1 hi]at hg
  exact absurd hg (by simp)
 ·rw[zgP hi]at hg
  have hgl:=List.getElem?_eq_none_iff.1 hg
  rw[List.length_reverse]at hgl
  refine enT Tryz.func214 Tryz.ntmps214 ?_
  have hU:=True.intro
  repeat'(first|refine goR ?_|refine zd fun K hK=>?_|refine zc ?_ ?_<;>intro hcd<;>(try simp only[hcP]at hcd)<;>try exact cdT|(refine zj (f:=234) rfl Tryz.call234 (h:=AEq.pure' agT (zcG _ (by omega)) (hq:=?_)))|(refine zj (f:=229) rfl Tryz.call229 (h:=AEq.sub' [_,_] (hc:=zqo _ _ _ _ _ (by omega)) (hq:=?_)))|((refine zX [0,1,2,3,4] exT (by rfl) (by rw[Tryz.results214];exact Lf.vF roT roT) sT sT (zF ?_ ?_) ?_)<;>(try exact uT))|refine hK _ _ ?_;clear hK K)
set_option maxRecDepth 20000 in
theorem zqG(F:List Fl)(S:List Int)(a c:Nat)(xs:List Fl)(s:Nat)(m n:Int)(hF0:0<F.length)(hF:F.length<=100000): AEq Tryz.prog 188 [.ptr 0 0,i64 n] [.box [.row 1 a,.row 2 c,.ptr 3 0],.row a 103 3 (F.map flA),.row c 3 1 (S.map yz),.box [.row 4 s,i64 (zC xs),i64 m],.row s 103 3 (xs.map flA)] (i64 13) [.box [.row 1 a,.row 2 c,.ptr 3 0],.row a 103 3 (F.map flA),.row c 3 1 (S.map yz),.box [.row 4 s,i64 (zC xs),i64 m],.row s 103 3 (xs.map flA)]:=by
 refine enT Tryz.func188 Tryz.ntmps188 ?_
 have hU:=True.intro
 repeat'(first|refine goR ?_|refine zd fun K hK=>?_|refine zc ?_ ?_<;>intro hcd<;>(try simp only[hcP]at hcd)<;>try exact cdT|((refine zo [0,1,2,3,4] (by rw[Tryz.results188,Lf.zI]) (zw ?_) ?_)<;>(try exact uT))|refine hK _ _ ?_;clear hK K)
set_option maxRecDepth 20000 in
theorem zqH(F:List Fl)(S:List Int)(a c:Nat)(xs:List Fl)(s:Nat)(m n:Int)(h:xs.length<=90000)(hS:zC xs<=2147483647)(hb:∀f∈xs,f.n.size<=1000000/\f.v.size<=1000000)(hm0:0<=m)(hm1:m<=2147483647)(hF:F.length<=100000)(hSl:S.length<=100000)(hF0:F.length=0)(hn0:0<=n)(hn1:n<=2147483647): AEq Tryz.prog 188 [.ptr 0 0,i64 n] [.box [.row 1 a,.row 2 c,.ptr 3 0],.row a 103 3 (F.map flA),.row c 3 1 (S.map yz),.box [.row 4 s,i64 (zC xs),i64 m],.row s 103 3 (xs.map flA)] (i64 0) [.box [.row 1 a,.row 2 (c+1),.ptr 3 0],.row a 103 3 (F.map flA),.row (c+1) 3 1 ((snI S n).map yz),.box [.row 4 (s+1),i64 (zC (keptL xs n)),i64 n],.row (s+1) 103 3 ((keptL xs n).map flA)]:=by
 have hbig:∀f∈xs,f.n.size<=1000000000/\f.v.size<=1000000000:=fun f hf=>by have:=hb f hf;omega
 have hap:List.map yz S++[[i64 n]]=List.map yz (snI S n):=(zkc S n).symm
 refine enT Tryz.func188 Tryz.ntmps188 ?_
 have hU:=@hap
 repeat'(first|refine goS ?_|refine zd fun K hK=>?_|refine zc ?_ ?_<;>intro hcd<;>(try simp only[hcP]at hcd)<;>try exact cdT|(refine zj (f:=175) rfl Tryz.call175 (h:=AEq.sub' [_,_] (hc:=zuw _ _ _ _ aoT aoT aoT aoT aoT) (hq:=?_)))|((refine zo [0,1,2,3,4] (by rw[Tryz.results188,Lf.zI]) (zw ?_) ?_)<;>(try exact uT))|refine hK _ _ ?_;clear hK K)
end
attribute [local irreducible] wt zC keptL flN addX v6 zqF snI snF dAt xsE
set_option maxRecDepth 20000 in
theorem zyr(F:List Fl)(S:List Int)(a c:Nat)(xs:List Fl)(s:Nat)(m:Int)(k i:Int)(nm:ByteArray)(ns:Bool)(vl:ByteArray)(vs:Bool)(sz:Int)(h:xs.length<=90000)(hi0:1<=i)(hi1:i<=2147483647)(hg:dAt xs i=none): AEq Tryz.prog 189 [.ptr 0 0,.ag [i64 k,i64 i,.lit (.string nm),bl ns,.lit (.string vl),bl vs,i64 sz]] [.box [.row 1 a,.row 2 c,.ptr 3 0],.row a 103 3 (F.map flA),.row c 3 1 (S.map yz),.box [.row 4 s,i64 (zC xs),i64 m],.row s 103 3 (xs.map flA)] (i64 12) [.box [.row 1 a,.row 2 c,.ptr 3 0],.row a 103 3 (F.map flA),.row c 3 1 (S.map yz),.box [.row 4 s,i64 (zC xs),i64 m],.row s 103 3 (xs.map flA)]:=by
 refine enT Tryz.func189 Tryz.ntmps189 ?_
 have hU:=True.intro
 repeat'(first|refine goR ?_|refine zd fun K hK=>?_|refine zc ?_ ?_<;>intro hcd<;>(try simp only[hcP]at hcd)<;>try exact cdT|(refine zj (f:=214) rfl Tryz.call214 (h:=AEq.sub' [_,_,_,_,_] (hc:=zuS _ _ _ _ _ _ _ _ (by assumption) (by assumption) (by assumption) (by assumption)) (hq:=?_)))|((refine zo [0,1,2,3,4] (by rw[Tryz.results189,Lf.zI]) (zw ?_) ?_)<;>(try exact uT))|refine hK _ _ ?_;clear hK K)
set_option maxRecDepth 20000 in
theorem zEA(F:List Fl)(S:List Int)(a c:Nat)(xs:List Fl)(s:Nat)(m:Int)(i:Int)(nm:ByteArray)(ns:Bool)(vl:ByteArray)(vs:Bool)(sz:Int)(h:xs.length<=90000)(hS:zC xs<=2147483647)(hb:∀f∈xs,f.n.size<=1000000/\f.v.size<=1000000)(hm0:0<=m)(hm1:m<=2147483647)(hF:F.length<=100000)(hSl:S.length<=100000)(g:Fl)(hg1:g.n.size<=1000000)(hg2:g.v.size<=1000000)(hv1:vl.size<=1000000)(hi0:0<=i)(hi1:i<=2147483647)(hbase:(0<i/\dAt xs i=some g)\/(i=0/\g=⟨nm,⟨#[]⟩,false⟩)): AEq Tryz.prog 189 [.ptr 0 0,.ag [i64 1,i64 i,.lit (.string nm),bl ns,.lit (.string vl),bl vs,i64 sz]] [.box [.row 1 a,.row 2 c,.ptr 3 0],.row a 103 3 (F.map flA),.row c 3 1 (S.map yz),.box [.row 4 s,i64 (zC xs),i64 m],.row s 103 3 (xs.map flA)] (i64 0) [.box [.row 1 (a+1),.row 2 c,.ptr 3 0],.row (a+1) 103 3 ((snF F g).map flA),.row c 3 1 (S.map yz),.box [.row 4 s,i64 (zC xs),i64 m],.row s 103 3 (xs.map flA)]:=by
 have hbig:∀f∈xs,f.n.size<=1000000000/\f.v.size<=1000000000:=fun f hf=>by have:=hb f hf;omega
 have hap:=(zbT F g).symm
 rcases hbase with⟨hi,hg⟩|⟨rfl,rfl⟩
 all_goals(try dsimp only at *)
 all_goals(refine enT Tryz.func189 Tryz.ntmps189 ?_)
 all_goals(have hU:=@hap)
 all_goals(repeat'(first|refine goR ?_|refine y17 ?_|refine zd fun K hK=>?_|refine zc ?_ ?_<;>intro hcd<;>(try simp only[hcP]at hcd)<;>try exact cdT|refine y1G ?_|((refine zo [0,1,2,3,4] (by rw[Tryz.results189,Lf.zI]) (zw ?_) ?_)<;>(try exact uT))|(guard_target =~ dw _ _ _ _ _ _ _ _ _ _;first|(guard_target =~ dw _ _ _ _ _ (7::_) _ _ _ _;(refine vp rfl rfl (h:=(fun τ=>zH (h:=ks rfl (he:=eoT) (hK:=zl ⟨rfl,rfl⟩)))) (hk:=?_)))|(guard_target =~ dw _ _ _ _ _ (8::_) _ _ _ _;(refine yn rfl rfl (h:=zH (h:=zM rfl (he:=eoT) (hK:=zl ⟨rfl,rfl⟩))) (hk:=?_)))|(guard_target =~ dw _ _ _ _ _ (12::_) _ _ _ _;(refine vg rfl rfl (h:=zaj (h:=zW rfl (hK:=zl ⟨rfl,rfl⟩))) (hk:=?_))))|refine hK _ _ ?_;clear hK K))
set_option maxRecDepth 20000 in
theorem zEB(F:List Fl)(S:List Int)(a c:Nat)(xs:List Fl)(s:Nat)(m:Int)(i:Int)(nm:ByteArray)(ns:Bool)(vl:ByteArray)(vs:Bool)(sz:Int)(h:xs.length<=90000)(hS:zC xs<=2147483647)(hb:∀f∈xs,f.n.size<=1000000/\f.v.size<=1000000)(hm0:0<=m)(hm1:m<=2147483647)(hF:F.length<=100000)(hSl:S.length<=100000)(g:Fl)(hg1:g.n.size<=1000000)(hg2:g.v.size<=1000000)(hv1:vl.size<=1000000)(hi0:0<=i)(hi1:i<=2147483647)(hbase:(0<i/\dAt xs i=some g)\/(i=0/\g=⟨nm,⟨#[]⟩,false⟩)): AEq Tryz.prog 189 [.ptr 0 0,.ag [i64 3,i64 i,.lit (.string nm),bl ns,.lit (.string vl),bl vs,i64 sz]] [.box [.row 1 a,.row 2 c,.ptr 3 0],.row a 103 3 (F.map flA),.row c 3 1 (S.map yz),.box [.row 4 s,i64 (zC xs),i64 m],.row s 103 3 (xs.map flA)] (i64 0) [.box [.row 1 (a+1),.row 2 c,.ptr 3 0],.row (a+1) 103 3 ((snF F ⟨g.n,vl,false⟩).map flA),.row c 3 1 (S.map yz),.box [.row 4 s,i64 (zC xs),i64 m],.row s 103 3 (xs.map flA)]:=by
 have hbig:∀f∈xs,f.n.size<=1000000000/\f.v.size<=1000000000:=fun f hf=>by have:=hb f hf;omega
 have hap:=(zbT F ⟨g.n,vl,false⟩).symm
 rcases hbase with⟨hi,hg⟩|⟨rfl,rfl⟩
 all_goals(try dsimp only at *)
 all_goals(refine enT Tryz.func189 Tryz.ntmps189 ?_)
 all_goals(have hU:=@hap)
 all_goals(repeat'(first|refine goR ?_|refine y17 ?_|refine zd fun K hK=>?_|refine zc ?_ ?_<;>intro hcd<;>(try simp only[hcP]at hcd)<;>try exact cdT|refine y1G ?_|((refine zo [0,1,2,3,4] (by rw[Tryz.results189,Lf.zI]) (zw ?_) ?_)<;>(try exact uT))|(guard_target =~ dw _ _ _ _ _ _ _ _ _ _;first|(guard_target =~ dw _ _ _ _ _ (7::_) _ _ _ _;(refine vp rfl rfl (h:=(fun τ=>zH (h:=ks rfl (he:=eoT) (hK:=zl ⟨rfl,rfl⟩)))) (hk:=?_)))|(guard_target =~ dw _ _ _ _ _ (8::_) _ _ _ _;(refine yn rfl rfl (h:=zH (h:=zM rfl (he:=eoT) (hK:=zl ⟨rfl,rfl⟩))) (hk:=?_)))|(guard_target =~ dw _ _ _ _ _ (12::_) _ _ _ _;(refine vg rfl rfl (h:=zaj (h:=zW rfl (hK:=zl ⟨rfl,rfl⟩))) (hk:=?_))))|refine hK _ _ ?_;clear hK K))
set_option maxRecDepth 20000 in
theorem zEC(F:List Fl)(S:List Int)(a c:Nat)(xs:List Fl)(s:Nat)(m:Int)(i:Int)(nm:ByteArray)(ns:Bool)(vl:ByteArray)(vs:Bool)(sz:Int)(h:xs.length<=90000)(hS:zC xs<=2147483647)(hb:∀f∈xs,f.n.size<=1000000/\f.v.size<=1000000)(hm0:0<=m)(hm1:m<=2147483647)(hF:F.length<=100000)(hSl:S.length<=100000)(g:Fl)(hg1:g.n.size<=1000000)(hg2:g.v.size<=1000000)(hv1:vl.size<=1000000)(hi0:0<=i)(hi1:i<=2147483647)(hbase:(0<i/\dAt xs i=some g)\/(i=0/\g=⟨nm,⟨#[]⟩,false⟩)): AEq Tryz.prog 189 [.ptr 0 0,.ag [i64 4,i64 i,.lit (.string nm),bl ns,.lit (.string vl),bl vs,i64 sz]] [.box [.row 1 a,.row 2 c,.ptr 3 0],.row a 103 3 (F.map flA),.row c 3 1 (S.map yz),.box [.row 4 s,i64 (zC xs),i64 m],.row s 103 3 (xs.map flA)] (i64 0) [.box [.row 1 (a+1),.row 2 c,.ptr 3 0],.row (a+1) 103 3 ((snF F ⟨g.n,vl,true⟩).map flA),.row c 3 1 (S.map yz),.box [.row 4 s,i64 (zC xs),i64 m],.row s 103 3 (xs.map flA)]:=by
 have hbig:∀f∈xs,f.n.size<=1000000000/\f.v.size<=1000000000:=fun f hf=>by have:=hb f hf;omega
 have hap:=(zbT F ⟨g.n,vl,true⟩).symm
 rcases hbase with⟨hi,hg⟩|⟨rfl,rfl⟩
 all_goals(try dsimp only at *)
 all_goals(refine enT Tryz.func189 Tryz.ntmps189 ?_)
 all_goals(have hU:=@hap)
 all_goals(repeat'(first|refine goR ?_|refine y17 ?_|refine zd fun K hK=>?_|refine zc ?_ ?_<;>intro hcd<;>(try simp only[hcP]at hcd)<;>try exact cdT|refine y1G ?_|((refine zo [0,1,2,3,4] (by rw[Tryz.results189,Lf.zI]) (zw ?_) ?_)<;>(try exact uT))|(guard_target =~ dw _ _ _ _ _ _ _ _ _ _;first|(guard_target =~ dw _ _ _ _ _ (7::_) _ _ _ _;(refine vp rfl rfl (h:=(fun τ=>zH (h:=ks rfl (he:=eoT) (hK:=zl ⟨rfl,rfl⟩)))) (hk:=?_)))|(guard_target =~ dw _ _ _ _ _ (8::_) _ _ _ _;(refine yn rfl rfl (h:=zH (h:=zM rfl (he:=eoT) (hK:=zl ⟨rfl,rfl⟩))) (hk:=?_)))|(guard_target =~ dw _ _ _ _ _ (12::_) _ _ _ _;(refine vg rfl rfl (h:=zaj (h:=zW rfl (hK:=zl ⟨rfl,rfl⟩))) (hk:=?_))))|refine hK _ _ ?_;clear hK K))
set_option maxRecDepth 20000 in
theorem zys(F:List Fl)(S:List Int)(a c:Nat)(xs:List Fl)(s:Nat)(m:Int)(i:Int)(nm:ByteArray)(ns:Bool)(vl:ByteArray)(vs:Bool)(sz:Int)(h:xs.length<=90000)(hS:zC xs<=2147483647)(hb:∀f∈xs,f.n.size<=1000000/\f.v.size<=1000000)(hm0:0<=m)(hm1:m<=2147483647)(hF:F.length<=100000)(hSl:S.length<=100000)(g:Fl)(hg1:g.n.size<=1000000)(hg2:g.v.size<=1000000)(hv1:vl.size<=1000000)(hi0:0<=i)(hi1:i<=2147483647)(hbase:(0<i/\dAt xs i=some g)\/(i=0/\g=⟨nm,⟨#[]⟩,false⟩))(hw:wt ⟨g.n,vl,false⟩<=m): AEq Tryz.prog 189 [.ptr 0 0,.ag [i64 2,i64 i,.lit (.string nm),bl ns,.lit (.string vl),bl vs,i64 sz]] [.box [.row 1 a,.row 2 c,.ptr 3 0],.row a 103 3 (F.map flA),.row c 3 1 (S.map yz),.box [.row 4 s,i64 (zC xs),i64 m],.row s 103 3 (xs.map flA)] (i64 0) [.box [.row 1 (a+1),.row 2 c,.ptr 3 0],.row (a+1) 103 3 ((snF F ⟨g.n,vl,false⟩).map flA),.row c 3 1 (S.map yz),.box [.row 4 (s+2),i64 (zC (addX xs m ⟨g.n,vl,false⟩)),i64 m],.row (s+2) 103 3 ((addX xs m ⟨g.n,vl,false⟩).map flA)]:=by
 have hbig:∀f∈xs,f.n.size<=1000000000/\f.v.size<=1000000000:=fun f hf=>by have:=hb f hf;omega
 have hap:=(zbT F ⟨g.n,vl,false⟩).symm
 have hax:=zkb xs m ⟨g.n,vl,false⟩
 rcases hbase with⟨hi,hg⟩|⟨rfl,rfl⟩
 all_goals(try dsimp only at *)
 all_goals(refine enT Tryz.func189 Tryz.ntmps189 ?_)
 all_goals(have hU:=And.intro @hap (@hax))
 all_goals(repeat'(first|refine goR ?_|(guard_target =~ PWp _ _ _ _ _ _ _;refine zv (id:=11) [0,1,2,3,4,5] [5] mixed (by kernel_rfl) (by kernel_rfl) ?_)|refine y17 ?_|refine zd fun K hK=>?_|refine zc ?_ ?_<;>intro hcd<;>(try simp only[hcP]at hcd)<;>try exact cdT|refine y1W ?_|((refine zo [0,1,2,3,4] (by rw[Tryz.results189,Lf.zI]) (zw ?_) ?_)<;>(try exact uT))|(guard_target =~ dw _ _ _ _ _ _ _ _ _ _;first|(guard_target =~ dw _ _ _ _ _ (5::_) _ _ _ _;(refine yn rfl rfl (h:=zH (h:=zj (f:=204) rfl Tryz.call204 (h:=AEq.sub' [_,_] (hc:=zjN _ _ _ _ _ _ aoT aoT aoT aoT aoT aoT aoT) (hq:=zl ⟨rfl,rfl⟩)))) (hk:=?_)))|(guard_target =~ dw _ _ _ _ _ (7::_) _ _ _ _;(refine vp rfl rfl (h:=(fun τ=>zH (h:=ks rfl (he:=eoT) (hK:=zl ⟨rfl,rfl⟩)))) (hk:=?_)))|(guard_target =~ dw _ _ _ _ _ (8::_) _ _ _ _;(refine yn rfl rfl (h:=zH (h:=zM rfl (he:=eoT) (hK:=zl ⟨rfl,rfl⟩))) (hk:=?_)))|(guard_target =~ dw _ _ _ _ _ (12::_) _ _ _ _;(refine vg rfl rfl (h:=zaj (h:=zW rfl (hK:=zl ⟨rfl,rfl⟩))) (hk:=?_))))|refine hK _ _ ?_;clear hK K))
set_option maxRecDepth 20000 in
theorem zyt(F:List Fl)(S:List Int)(a c:Nat)(xs:List Fl)(s:Nat)(m:Int)(i:Int)(nm:ByteArray)(ns:Bool)(vl:ByteArray)(vs:Bool)(sz:Int)(h:xs.length<=90000)(hS:zC xs<=2147483647)(hb:∀f∈xs,f.n.size<=1000000/\f.v.size<=1000000)(hm0:0<=m)(hm1:m<=2147483647)(hF:F.length<=100000)(hSl:S.length<=100000)(g:Fl)(hg1:g.n.size<=1000000)(hg2:g.v.size<=1000000)(hv1:vl.size<=1000000)(hi0:0<=i)(hi1:i<=2147483647)(hbase:(0<i/\dAt xs i=some g)\/(i=0/\g=⟨nm,⟨#[]⟩,false⟩))(hw:m<wt ⟨g.n,vl,false⟩): AEq Tryz.prog 189 [.ptr 0 0,.ag [i64 2,i64 i,.lit (.string nm),bl ns,.lit (.string vl),bl vs,i64 sz]] [.box [.row 1 a,.row 2 c,.ptr 3 0],.row a 103 3 (F.map flA),.row c 3 1 (S.map yz),.box [.row 4 s,i64 (zC xs),i64 m],.row s 103 3 (xs.map flA)] (i64 0) [.box [.row 1 (a+1),.row 2 c,.ptr 3 0],.row (a+1) 103 3 ((snF F ⟨g.n,vl,false⟩).map flA),.row c 3 1 (S.map yz),.box [.row 4 (s+1),i64 (zC xsE),i64 m],.row (s+1) 103 3 (xsE.map flA)]:=by
 have hbig:∀f∈xs,f.n.size<=1000000000/\f.v.size<=1000000000:=fun f hf=>by have:=hb f hf;omega
 have hap:=(zbT F ⟨g.n,vl,false⟩).symm
 rcases hbase with⟨hi,hg⟩|⟨rfl,rfl⟩
 all_goals(try dsimp only at *)
 all_goals(refine enT Tryz.func189 Tryz.ntmps189 ?_)
 all_goals(have hU:=@hap)
 all_goals(repeat'(first|refine goR ?_|(guard_target =~ PWp _ _ _ _ _ _ _;refine zv (id:=11) [0,1,2,3,4,5] [5] mixed (by kernel_rfl) (by kernel_rfl) ?_)|refine y17 ?_|refine zd fun K hK=>?_|refine zc ?_ ?_<;>intro hcd<;>(try simp only[hcP]at hcd)<;>try exact cdT|refine y1W ?_|((refine zo [0,1,2,3,4] (by rw[Tryz.results189,Lf.zI]) (zw ?_) ?_)<;>(try exact uT))|(guard_target =~ dw _ _ _ _ _ _ _ _ _ _;first|(guard_target =~ dw _ _ _ _ _ (5::_) _ _ _ _;(refine yn rfl rfl (h:=zH (h:=zj (f:=204) rfl Tryz.call204 (h:=AEq.sub' [_,_] (hc:=zcH _ _ _ _ _ _ aoT aoT aoT aoT aoT aoT aoT) (hq:=zl ⟨rfl,rfl⟩)))) (hk:=?_)))|(guard_target =~ dw _ _ _ _ _ (7::_) _ _ _ _;(refine vp rfl rfl (h:=(fun τ=>zH (h:=ks rfl (he:=eoT) (hK:=zl ⟨rfl,rfl⟩)))) (hk:=?_)))|(guard_target =~ dw _ _ _ _ _ (8::_) _ _ _ _;(refine yn rfl rfl (h:=zH (h:=zM rfl (he:=eoT) (hK:=zl ⟨rfl,rfl⟩))) (hk:=?_)))|(guard_target =~ dw _ _ _ _ _ (12::_) _ _ _ _;(refine vg rfl rfl (h:=zaj (h:=zW rfl (hK:=zl ⟨rfl,rfl⟩))) (hk:=?_))))|refine hK _ _ ?_;clear hK K))
end Go.Proofs.YtdalcgfnlbofdaaGreatDoor
