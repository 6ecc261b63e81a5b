import Derived.Test.YtdalcgfnlbofdaaGreatDoorZ25
set_option linter.unusedVariables false
set_option linter.unusedSimpArgs false
namespace Go.Proofs.YtdalcgfnlbofdaaGreatDoor
open Go Go.Lf Go.Proofs
attribute [local irreducible] Lf.rg Lf.ro Lf.PWp Lf.SOp Lf.ACall Lf.Scoped Lf.dg Lf.dw
set_option maxRecDepth 20000
set_option maxHeartbeats 4000000
structure StL where
 (k t n:Int) (e:Bool) (fl:List Fl) (ss:List (Int×Int))
deriving DecidableEq
@[go_sem] def stA(s:StL): List AV:=[i64 s.k,i64 s.t,i64 s.n,bl s.e,.sl false false (s.fl.map flA),.sl false false (s.ss.map z7)]
@[go_sem] theorem zwl(l:List StL): y9 (l.map stA).flatten=true:=ze (fun a=>by simp[stA,y9,pur]) l
@[go_sem] theorem zwm{κ:List Nat}{σ:Sto}(l:List StL): List.map (fzl κ σ) (l.map stA)=l.map stA:=vc (fun _=>rfl) l
theorem zg9{α:Type}{a b:List α}(hl:a.length=b.length): (∀i:Nat,i<a.length->a[i]?=b[i]?)->a=b:=by
 intro h
 apply List.ext_getElem?
 intro i
 by_cases hi:i<a.length
 ·exact h i hi
 ·rw[List.getElem?_eq_none (by omega),List.getElem?_eq_none (by omega)]
theorem zeA{α:Type}{a b:List α}{i:Nat}{x y:α}(hx:a[i]?=some x)(hy:b[i]?=some y)(h:∀j:Nat,j<i->a[j]?=b[j]?)(e:x=y): ∀j:Nat,j<i+1->a[j]?=b[j]?:=by
 intro j hj
 by_cases hji:j<i
 ·exact h j hji
 ·obtain rfl : j = i := by omega
  rw[hx,hy,e]
theorem zha{α:Type}{a b:List α}{i:Nat}{x y:α}(hx:a[i]?=some x)(hy:b[i]?=some y)(e:¬x=y): ¬a=b:=by
 intro h
 subst h
 rw[hx]at hy
 exact e (Option.some.inj hy)
theorem zvc{f g:Fl}: f=g↔f.n=g.n/\f.v=g.v/\f.k=g.k:=by
 constructor
 ·rintro rfl;exact⟨rfl,rfl,rfl⟩
 ·obtain⟨a,b,c⟩:=f;obtain⟨d,e,g⟩:=g
  rintro⟨h1,h2,h3⟩
  simp only at h1 h2 h3
  subst h1;subst h2;subst h3;rfl
theorem zrd(f g q r:Bool)(a b:List Fl)(ha:a.length<=1000000): AEq Tryz.prog 73 [.sl f q (a.map flA),.sl g r (b.map flA)] [] (bl (decide (a=b))) []:=by
 by_cases hl:a.length=b.length
 ·refine enT Tryz.func73 Tryz.ntmps73 ?_
  have hU:=True.intro
  repeat'(first|refine goR ?_|refine zd fun K hK=>?_|refine zc ?_ ?_<;>intro hcd<;>(try simp only[hcP]at hcd)<;>try exact cdT|refine hK _ _ ?_;clear hK K)
  refine zO [4,5,11,12,13,14,15,16,17,18,19,20,21,22,23,24,25] (fun i:Nat=>[(5,i64 i)]) (fun _=>[]) (fun i=>i<=a.length/\∀j:Nat,j<i->a[j]?=b[j]?) (fun i=>a.length-i) 0 ⟨Nat.zero_le _,fun j hj=>by omega⟩ ?_ rfl ?_
  ·(refine⟨⟨_,sT,?_⟩,trivial⟩<;>(try exact zu))
  ·rintro i ⟨hi,hk⟩
   simp only[yN,List.map_cons,List.map_nil,List.cons_append,List.nil_append]
   by_cases hlt:i<a.length
   ·obtain⟨x,hx⟩:=yv hlt
    obtain⟨y,hy⟩:=yv (l:=b) (i:=i) (by omega)
    by_cases hxy:x=y
    ·subst hxy
     repeat'(first|refine goR ?_|refine zd fun K hK=>?_|refine y7 ?_|refine zc ?_ ?_<;>intro hcd<;>(try simp only[hcP]at hcd)<;>try exact cdT|refine hK _ _ ?_;clear hK K|(guard_target =~ dg _ _ _ _ _ _ _;first|(guard_target =~ dg _ _ _ (⟨_,.binOp _ _ _ _ _,_,_,_,none⟩::_) _ _ _;(refine vz (x:=_) (h:=zH (h:=zS (ne:=true) rfl (by first|exact yC|fail) (hc:=rfl) (hK:=zl ⟨rfl,rfl⟩))) (hk:=?_)))|(guard_target =~ dg _ _ _ (⟨_,.indexAddr _ _ _,_,_,_,none⟩::_) _ _ _;(refine vz (x:=_) (h:=zH (h:=zZ rfl (hK:=zl ⟨rfl,rfl⟩))) (hk:=?_))))|(rw[if_pos rfl]))
     refine⟨i+1,⟨by omega,zeA hx hy hk rfl⟩,by omega,?_,arT,srT⟩
     (refine⟨⟨_,sT,?_⟩,trivial⟩<;>(try exact zu))
    ·have hne:=zha hx hy hxy
     rw[zvc]at hxy
     repeat'(first|refine goR ?_|refine zd fun K hK=>?_|refine y7 ?_|refine zc ?_ ?_<;>intro hcd<;>(try simp only[hcP]at hcd)<;>try exact cdT|((refine zo [] (by rw[Tryz.results73,Lf.zI]) (zw ?_) ?_)<;>(try exact uT))|(guard_target =~ dg _ _ _ _ _ _ _;first|(guard_target =~ dg _ _ _ (⟨_,.binOp _ _ _ _ _,_,_,_,none⟩::_) _ _ _;(refine vz (x:=_) (h:=zH (h:=zS (ne:=true) rfl (by first|exact yC|fail) (hc:=rfl) (hK:=zl ⟨rfl,rfl⟩))) (hk:=?_)))|(guard_target =~ dg _ _ _ (⟨_,.indexAddr _ _ _,_,_,_,none⟩::_) _ _ _;(refine vz (x:=_) (h:=zH (h:=zZ rfl (hK:=zl ⟨rfl,rfl⟩))) (hk:=?_))))|refine hK _ _ ?_;clear hK K)
     all_goals exact zJ (by symm;rw[decide_eq_false_iff_not];exact hne)
   ·have he : a = b := zg9 hl (fun j hj => hk j (by omega))
    repeat'(first|refine goR ?_|refine zd fun K hK=>?_|refine zc ?_ ?_<;>intro hcd<;>(try simp only[hcP]at hcd)<;>try exact cdT|((refine zo [] (by rw[Tryz.results73,Lf.zI]) (zw ?_) ?_)<;>(try exact uT))|refine hK _ _ ?_;clear hK K|(apply_assumption (exfalso:=false) (symm:=false)))
    exact zJ (by symm;rw[decide_eq_true_eq];exact he)
 ·have hne : ¬ a = b := fun e => hl (by rw [e])
  refine enT Tryz.func73 Tryz.ntmps73 ?_
  have hU:=True.intro
  repeat'(first|refine goR ?_|refine zd fun K hK=>?_|refine zc ?_ ?_<;>intro hcd<;>(try simp only[hcP]at hcd)<;>try exact cdT|((refine zo [] (by rw[Tryz.results73,Lf.zI]) (zw ?_) ?_)<;>(try exact uT))|refine hK _ _ ?_;clear hK K)
  exact zJ (by symm;rw[decide_eq_false_iff_not];exact hne)
theorem zre(f g q r:Bool)(a b:List Fl)(ha:a.length<=1000000): AEq Tryz.prog 71 [.sl f q (a.map flA),.sl g r (b.map flA)] [] (bl (decide (a=b))) []:=by
 by_cases hl:a.length=b.length
 ·refine enT Tryz.func71 Tryz.ntmps71 ?_
  have hU:=True.intro
  repeat'(first|refine goR ?_|refine zd fun K hK=>?_|refine zc ?_ ?_<;>intro hcd<;>(try simp only[hcP]at hcd)<;>try exact cdT|refine hK _ _ ?_;clear hK K)
  refine zO [4,5,13,14,15,16,17,18,19,20,21,22,23,24,25] (fun i:Nat=>[(13,i64 i)]) (fun _=>[]) (fun i=>i<=a.length/\∀j:Nat,j<i->a[j]?=b[j]?) (fun i=>a.length-i) 0 ⟨Nat.zero_le _,fun j hj=>by omega⟩ ?_ rfl ?_
  ·(refine⟨⟨_,sT,?_⟩,trivial⟩<;>(try exact zu))
  ·rintro i ⟨hi,hk⟩
   simp only[yN,List.map_cons,List.map_nil,List.cons_append,List.nil_append]
   by_cases hlt:i<a.length
   ·obtain⟨x,hx⟩:=yv hlt
    obtain⟨y,hy⟩:=yv (l:=b) (i:=i) (by omega)
    by_cases hxy:x=y
    ·subst hxy
     repeat'(first|refine goR ?_|refine zd fun K hK=>?_|refine y7 ?_|refine zc ?_ ?_<;>intro hcd<;>(try simp only[hcP]at hcd)<;>try exact cdT|refine hK _ _ ?_;clear hK K|(guard_target =~ dg _ _ _ _ _ _ _;first|(guard_target =~ dg _ _ _ (⟨_,.binOp _ _ _ _ _,_,_,_,none⟩::_) _ _ _;(refine vz (x:=_) (h:=zH (h:=zS (ne:=true) rfl (by first|exact yC|fail) (hc:=rfl) (hK:=zl ⟨rfl,rfl⟩))) (hk:=?_)))|(guard_target =~ dg _ _ _ (⟨_,.indexAddr _ _ _,_,_,_,none⟩::_) _ _ _;(refine vz (x:=_) (h:=zH (h:=zZ rfl (hK:=zl ⟨rfl,rfl⟩))) (hk:=?_))))|(rw[if_pos rfl]))
     refine⟨i+1,⟨by omega,zeA hx hy hk rfl⟩,by omega,?_,arT,srT⟩
     (refine⟨⟨_,sT,?_⟩,trivial⟩<;>(try exact zu))
    ·have hne:=zha hx hy hxy
     rw[zvc]at hxy
     repeat'(first|refine goR ?_|refine zd fun K hK=>?_|refine y7 ?_|refine zc ?_ ?_<;>intro hcd<;>(try simp only[hcP]at hcd)<;>try exact cdT|((refine zo [] (by rw[Tryz.results71,Lf.zI]) (zw ?_) ?_)<;>(try exact uT))|(guard_target =~ dg _ _ _ _ _ _ _;first|(guard_target =~ dg _ _ _ (⟨_,.binOp _ _ _ _ _,_,_,_,none⟩::_) _ _ _;(refine vz (x:=_) (h:=zH (h:=zS (ne:=true) rfl (by first|exact yC|fail) (hc:=rfl) (hK:=zl ⟨rfl,rfl⟩))) (hk:=?_)))|(guard_target =~ dg _ _ _ (⟨_,.indexAddr _ _ _,_,_,_,none⟩::_) _ _ _;(refine vz (x:=_) (h:=zH (h:=zZ rfl (hK:=zl ⟨rfl,rfl⟩))) (hk:=?_))))|refine hK _ _ ?_;clear hK K)
     all_goals exact zJ (by symm;rw[decide_eq_false_iff_not];exact hne)
   ·have he : a = b := zg9 hl (fun j hj => hk j (by omega))
    repeat'(first|refine goR ?_|refine zd fun K hK=>?_|refine zc ?_ ?_<;>intro hcd<;>(try simp only[hcP]at hcd)<;>try exact cdT|((refine zo [] (by rw[Tryz.results71,Lf.zI]) (zw ?_) ?_)<;>(try exact uT))|refine hK _ _ ?_;clear hK K|(apply_assumption (exfalso:=false) (symm:=false)))
    exact zJ (by symm;rw[decide_eq_true_eq];exact he)
 ·have hne : ¬ a = b := fun e => hl (by rw [e])
  refine enT Tryz.func71 Tryz.ntmps71 ?_
  have hU:=True.intro
  repeat'(first|refine goR ?_|refine zd fun K hK=>?_|refine zc ?_ ?_<;>intro hcd<;>(try simp only[hcP]at hcd)<;>try exact cdT|((refine zo [] (by rw[Tryz.results71,Lf.zI]) (zw ?_) ?_)<;>(try exact uT))|refine hK _ _ ?_;clear hK K)
  exact zJ (by symm;rw[decide_eq_false_iff_not];exact hne)
theorem zhb(f q:Bool)(l:List (Int×Int))(h:l.length<=100000000): AEq Tryz.prog 152 [.sl f q (l.map z7)] [] (.sl false false (l.map z7)) []:=by
 refine enT Tryz.func152 Tryz.ntmps152 ?_
 have hU:=True.intro
 repeat'(first|refine goS ?_|refine zd fun K hK=>?_|refine zc ?_ ?_<;>intro hcd<;>(try simp only[hcP]at hcd)<;>try exact cdT|(guard_target =~ SOp _ _ ⟨_,.binOp _ _ _ _ _,_,_,_,none⟩ _ _ _;refine ze3 (ne:=false) rfl (hx:=⟨_,sT,rfl⟩) (hK:=(fun b hb=>?_)))|((refine zo [] (by rw[Tryz.results152,Lf.zI]) (zw ?_) ?_)<;>(try exact uT))|refine hK _ _ ?_;clear hK K)
 have h0:=hb hcd
 rw[List.length_map]at h0
 rw[List.eq_nil_of_length_eq_zero h0]
 exact za1
end Go.Proofs.YtdalcgfnlbofdaaGreatDoor
/-! the greater of two by vN -/
namespace Go.Proofs.YtdalcgfnlbofdaaGreatDoor
open Go Go.Lf Go.Proofs
attribute [local irreducible] Lf.rg Lf.ro Lf.PWp Lf.SOp Lf.ACall Lf.Scoped Lf.dg Lf.dw
set_option maxRecDepth 20000
set_option maxHeartbeats 4000000
theorem beqN(x:Nat): (x == x)=true:=by simp
theorem eocI(k:IntKind)(a:Int): (Value.int k a).oneCell'=true:=rfl
theorem eocB(b:Bool): (Value.bool b).oneCell'=true:=rfl
theorem zbZ(t g f:Int)(hf:f=4): AEq Tryz.prog 94 [i64 t,i64 g,i64 f] [] (bl (yM t g f)) []:=by
 by_cases hg:0<=g
 ·have hI:=zbY (t:=t) hg (.inr (.inl hf))
  subst hf
  refine enT Tryz.func94 Tryz.ntmps94 ?_
  have hU:=True.intro
  repeat'(first|refine goR ?_|refine zd fun K hK=>?_|refine zc ?_ ?_<;>intro hcd<;>(try simp only[hcP]at hcd)<;>try exact cdT|(guard_target =~ rg _ _ _ (⟨_,_,_,_,_,some _⟩::_) _ _ _;(first|refine zP gT (fun hcd=>?_) (fun hcd=>?_)|refine zK gT (fun hcd=>?_) (fun hcd=>?_))<;>(try simp only[hcd])<;>(try(simp only[Bool.not_eq_true',Bool.not_eq_false']at hcd;try simp only[hcd]))<;>(refine kC (Γ2:=_) ewT ?_)<;>(try simp only[hcP]at hcd)<;>(try exact cdT))|refine y15 ?_|((refine zo [] (by rw[Tryz.results94,Lf.zI]) (zw ?_) ?_)<;>(try exact uT))|refine hK _ _ ?_;clear hK K)
  all_goals exact zJ (by rw[<-hI];first|(simp;done)|(simp;rfl))
 ·rw[zfC hg]
  subst hf
  refine enT Tryz.func94 Tryz.ntmps94 ?_
  have hU:=True.intro
  exact wj
theorem zvd(t g s p:Int)(fd:Bool)(d:List UInt8)(fs:Bool)(e:List (Int×Int))(wt pa:Int)(al:Bool)(pr la co sp:Int): AEq Tryz.prog 151 [.ag [i64 t,i64 g,i64 s,i64 p,.sl fd false (d.map zk),.sl fs false (e.map z7),i64 wt,i64 pa,bl al,i64 pr,i64 la,i64 co,i64 sp]] [] (bl (decide (t=1\/t=5\/t=9))) []:=by
 refine enT Tryz.func151 Tryz.ntmps151 ?_
 have hU:=True.intro
 repeat'(first|refine goR ?_|refine zd fun K hK=>?_|((refine zo [] (by rw[Tryz.results151,Lf.zI]) (zw ?_) ?_)<;>(try exact uT))|refine hK _ _ ?_;clear hK K)
 all_goals exact zJ (by grind)
theorem zyO: AEq Tryz.prog 57 [i64 1048576] [] (.ptr 0 0) [.box [i64 1048576,bl false,i64 0,i64 0,i64 0,i64 0,.sl true false [],.sl true false [],i64 0,i64 0,bl false,i64 0,i64 0,i64 0,i64 0,.sl true false []]]:=by
 refine enT Tryz.func57 Tryz.ntmps57 ?_
 have hU:=True.intro
 repeat'(first|refine goR ?_|refine zd fun K hK=>?_|refine y1x ?_|((refine zo [0] (by rw[Tryz.results57,Lf.zI]) (zw ?_) ?_)<;>(try exact uT))|refine hK _ _ ?_;clear hK K)
theorem zzJ: AEq Tryz.prog 57 [i64 1048576] [] (.ptr 0 0) [.box [i64 1048576,bl false,i64 0,i64 0,i64 0,i64 0,.sl true false [],.sl true false [],i64 0,i64 0,bl false,i64 0,i64 0,i64 0,i64 0,.row 1 0],.row 0 5 1 []]:=
 zbH zyO (fun ρ w v hr hG hv=>zel (q:=false) (cs:=[i64 1048576,bl false,i64 0,i64 0,i64 0,i64 0,.sl true false [],.sl true false [],i64 0,i64 0,bl false,i64 0,i64 0,i64 0,i64 0,.sl true false []]) 0 15 5 1 (by decide) rfl rfl ρ w v hr hG hv)
theorem zeB(k:Nat)(x:List UInt8)(qt qg qs qp:Int)(qfd:Bool)(qd:List UInt8)(qfs:Bool)(qwt qpa:Int)(qal:Bool)(qpr qla qco qsp:Int)(t g s p:Int)(fd:Bool)(d:List UInt8)(fs:Bool)(e:List (Int×Int))(wt pa:Int)(al:Bool)(pr la co sp:Int): AEq Tryz.prog 150 [.ptr 0 0,.ag [i64 t,i64 g,i64 s,i64 p,.sl fd false (d.map zk),.sl fs false (e.map z7),i64 wt,i64 pa,bl al,i64 pr,i64 la,i64 co,i64 sp]] [.box [i64 1048576,bl true,i64 qt,i64 qg,i64 qs,i64 qp,.sl qfd false (qd.map zk),.sl qfs false [],i64 qwt,i64 qpa,bl qal,i64 qpr,i64 qla,i64 qco,i64 qsp,.row 1 k],.row k 5 1 (x.map zk)] (bl (decide (t=9/\s=qs))) [.box [i64 1048576,bl true,i64 qt,i64 qg,i64 qs,i64 qp,.sl qfd false (qd.map zk),.sl qfs false [],i64 qwt,i64 qpa,bl qal,i64 qpr,i64 qla,i64 qco,i64 qsp,.row 1 k],.row k 5 1 (x.map zk)]:=by
 refine enT Tryz.func150 Tryz.ntmps150 ?_
 have hU:=True.intro
 repeat'(first|refine goR ?_|refine zd fun K hK=>?_|refine y7 ?_|refine zc ?_ ?_<;>intro hcd<;>(try simp only[hcP]at hcd)<;>try exact cdT|((refine zo [0,1] (by rw[Tryz.results150,Lf.zI]) (zw ?_) ?_)<;>(try exact uT))|refine hK _ _ ?_;clear hK K)
 all_goals first|exact zJ (by grind)|trace_state
theorem zay(k:Nat)(t g s p:Int)(fd:Bool)(d:List UInt8)(fs:Bool)(e:List (Int×Int))(wt pa:Int)(al:Bool)(pr la co sp:Int): AEq Tryz.prog 150 [.ptr 0 0,.ag [i64 t,i64 g,i64 s,i64 p,.sl fd false (d.map zk),.sl fs false (e.map z7),i64 wt,i64 pa,bl al,i64 pr,i64 la,i64 co,i64 sp]] [.box [i64 1048576,bl false,i64 0,i64 0,i64 0,i64 0,.sl true false [],.sl true false [],i64 0,i64 0,bl false,i64 0,i64 0,i64 0,i64 0,.row 1 k],.row k 5 1 []] (bl (decide (¬t=9))) [.box [i64 1048576,bl false,i64 0,i64 0,i64 0,i64 0,.sl true false [],.sl true false [],i64 0,i64 0,bl false,i64 0,i64 0,i64 0,i64 0,.row 1 k],.row k 5 1 []]:=by
 refine enT Tryz.func150 Tryz.ntmps150 ?_
 have hU:=True.intro
 repeat'(first|refine goR ?_|refine zd fun K hK=>?_|refine zc ?_ ?_<;>intro hcd<;>(try simp only[hcP]at hcd)<;>try exact cdT|((refine zo [0,1] (by rw[Tryz.results150,Lf.zI]) (zw ?_) ?_)<;>(try exact uT))|refine hK _ _ ?_;clear hK K)
 all_goals first|exact zJ (by grind)|trace_state
theorem zcJ(k:Nat)(x:List UInt8)(qt qg qs qp:Int)(qfd:Bool)(qd:List UInt8)(qfs:Bool)(qwt qpa:Int)(qal:Bool)(qpr qla qco qsp:Int)(t g s p:Int)(fd:Bool)(d:List UInt8)(fs:Bool)(wt pa:Int)(al:Bool)(pr la co sp:Int): AEq Tryz.prog 150 [.ptr 0 0,.ag [i64 t,i64 g,i64 s,i64 p,.sl fd false (d.map zk),.sl fs false [],i64 wt,i64 pa,bl al,i64 pr,i64 la,i64 co,i64 sp]] [.box [i64 1048576,bl true,i64 qt,i64 qg,i64 qs,i64 qp,.sl qfd false (qd.map zk),.sl qfs false [],i64 qwt,i64 qpa,bl qal,i64 qpr,i64 qla,i64 qco,i64 qsp,.row 1 k],.row k 5 1 (x.map zk)] (bl (decide (t=9/\s=qs))) [.box [i64 1048576,bl true,i64 qt,i64 qg,i64 qs,i64 qp,.sl qfd false (qd.map zk),.sl qfs false [],i64 qwt,i64 qpa,bl qal,i64 qpr,i64 qla,i64 qco,i64 qsp,.row 1 k],.row k 5 1 (x.map zk)]:=zeB k x qt qg qs qp qfd qd qfs qwt qpa qal qpr qla qco qsp t g s p fd d fs [] wt pa al pr la co sp
theorem zb0(k:Nat)(t g s p:Int)(fd:Bool)(d:List UInt8)(fs:Bool)(wt pa:Int)(al:Bool)(pr la co sp:Int): AEq Tryz.prog 150 [.ptr 0 0,.ag [i64 t,i64 g,i64 s,i64 p,.sl fd false (d.map zk),.sl fs false [],i64 wt,i64 pa,bl al,i64 pr,i64 la,i64 co,i64 sp]] [.box [i64 1048576,bl false,i64 0,i64 0,i64 0,i64 0,.sl true false [],.sl true false [],i64 0,i64 0,bl false,i64 0,i64 0,i64 0,i64 0,.row 1 k],.row k 5 1 []] (bl (decide (¬t=9))) [.box [i64 1048576,bl false,i64 0,i64 0,i64 0,i64 0,.sl true false [],.sl true false [],i64 0,i64 0,bl false,i64 0,i64 0,i64 0,i64 0,.row 1 k],.row k 5 1 []]:=zay k t g s p fd d fs [] wt pa al pr la co sp
theorem zhc(t g s p:Int)(fd:Bool)(d:List UInt8)(fs:Bool)(wt pa:Int)(al:Bool)(pr la co sp:Int): AEq Tryz.prog 151 [.ag [i64 t,i64 g,i64 s,i64 p,.sl fd false (d.map zk),.sl fs false [],i64 wt,i64 pa,bl al,i64 pr,i64 la,i64 co,i64 sp]] [] (bl (decide (t=1\/t=5\/t=9))) []:=zvd t g s p fd d fs [] wt pa al pr la co sp
theorem zyP(k:Nat)(x:List UInt8)(qt qg qs qp:Int)(qfd:Bool)(qd:List UInt8)(qfs:Bool)(qwt qpa:Int)(qal:Bool)(qpr qla qco qsp:Int): AEq Tryz.prog 153 [.ptr 0 0] [.box [i64 1048576,bl true,i64 qt,i64 qg,i64 qs,i64 qp,.sl qfd false (qd.map zk),.sl qfs false [],i64 qwt,i64 qpa,bl qal,i64 qpr,i64 qla,i64 qco,i64 qsp,.row 1 k],.row k 5 1 (x.map zk)] (.ag [i64 qt,i64 qg,i64 qs,i64 qp,.row 1 k,.sl qfs false [],i64 qwt,i64 qpa,bl qal,i64 qpr,i64 qla,i64 qco,i64 qsp]) [.box [i64 1048576,bl false,i64 0,i64 0,i64 0,i64 0,.sl true false [],.sl true false [],i64 0,i64 0,bl false,i64 0,i64 0,i64 0,i64 0,.sl true false []],.row k 5 1 (x.map zk)]:=by
 have hbn:=beqN
 refine enT Tryz.func153 Tryz.ntmps153 ?_
 have hU:=And.intro @beqN ( And.intro @eocI (@eocB))
 repeat'(first|refine goR ?_|refine zd fun K hK=>?_|((refine zX [0,1] exT (by rfl) (by rw[Tryz.results153,Lf.zap];(try simp(disch:=omega)only[Lf.z3,go_sem,seval,↓reduceIte,hU]);rfl) sT sT (zw ?_) ?_)<;>(try exact uT))|refine hK _ _ ?_;clear hK K)
theorem zzK(k:Nat)(x:List UInt8)(qt qg qs qp:Int)(qfd:Bool)(qd:List UInt8)(qfs:Bool)(qwt qpa:Int)(qal:Bool)(qpr qla qco qsp:Int): AEq Tryz.prog 153 [.ptr 0 0] [.box [i64 1048576,bl true,i64 qt,i64 qg,i64 qs,i64 qp,.sl qfd false (qd.map zk),.sl qfs false [],i64 qwt,i64 qpa,bl qal,i64 qpr,i64 qla,i64 qco,i64 qsp,.row 1 k],.row k 5 1 (x.map zk)] (.ag [i64 qt,i64 qg,i64 qs,i64 qp,.row 1 k,.sl qfs false [],i64 qwt,i64 qpa,bl qal,i64 qpr,i64 qla,i64 qco,i64 qsp]) [.box [i64 1048576,bl false,i64 0,i64 0,i64 0,i64 0,.sl true false [],.sl true false [],i64 0,i64 0,bl false,i64 0,i64 0,i64 0,i64 0,.row 2 0],.row k 5 1 (x.map zk),.row 0 5 1 []]:=
 zbH (zyP k x qt qg qs qp qfd qd qfs qwt qpa qal qpr qla qco qsp) (fun ρ w v hr hG hv=>zel (q:=false) (cs:=[i64 1048576,bl false,i64 0,i64 0,i64 0,i64 0,.sl true false [],.sl true false [],i64 0,i64 0,bl false,i64 0,i64 0,i64 0,i64 0,.sl true false []]) 0 15 5 1 (by decide) rfl rfl ρ w v hr hG hv)
theorem zng(k:Nat)(x:List UInt8)(qt qg qs qp:Int)(qfd:Bool)(qd:List UInt8)(qfs:Bool)(qwt qpa:Int)(qal:Bool)(qpr qla qco qsp:Int): AEq Tryz.prog 61 [.ptr 0 0] [.box [i64 1048576,bl true,i64 qt,i64 qg,i64 qs,i64 qp,.sl qfd false (qd.map zk),.sl qfs false [],i64 qwt,i64 qpa,bl qal,i64 qpr,i64 qla,i64 qco,i64 qsp,.row 1 k],.row k 5 1 (x.map zk)] (.tu [i64 qs,bl true]) [.box [i64 1048576,bl true,i64 qt,i64 qg,i64 qs,i64 qp,.sl qfd false (qd.map zk),.sl qfs false [],i64 qwt,i64 qpa,bl qal,i64 qpr,i64 qla,i64 qco,i64 qsp,.row 1 k],.row k 5 1 (x.map zk)]:=by
 refine enT Tryz.func61 Tryz.ntmps61 ?_
 have hU:=True.intro
 exact ww
end Go.Proofs.YtdalcgfnlbofdaaGreatDoor
