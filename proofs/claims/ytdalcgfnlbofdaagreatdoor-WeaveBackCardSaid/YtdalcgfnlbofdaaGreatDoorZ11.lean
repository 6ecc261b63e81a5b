import Derived.Test.YtdalcgfnlbofdaaGreatDoorZ03
set_option linter.unusedVariables false
set_option linter.unusedSimpArgs false
namespace Go.Proofs.YtdalcgfnlbofdaaGreatDoor
open Go Go.Lf Go.Proofs
attribute [local irreducible] Lf.rg Lf.ro Lf.PWp Lf.SOp Lf.ACall Lf.Scoped Lf.dg Lf.dw
set_option maxRecDepth 20000
set_option maxHeartbeats 4000000
section
theorem zhR{xs:List Fl}{g:Nat}{x:Fl}{m:Int}(hx:xs[g]?=some x)(h:m<zC (xs.drop g)): keptL (xs.drop g) m=keptL (xs.drop (g+1)) m/\zC (xs.drop g)=wt x+zC (xs.drop (g+1)):=by
 have hd:=vU hx
 rw[hd]at h ⊢
 exact⟨by rw[keptL,if_pos h],rfl⟩
theorem zbM: ∀(l:List Fl) (g:Nat),zC (l.drop g)<=zC l
 | [],g=>by rw[List.drop_nil];exact Int.le_refl _
 | x::l,0=>Int.le_refl _
 | x::l,g+1=>by
  have:=zbM l g
  have:=zjb x
  rw[List.drop_succ_cons,zC];omega
theorem zcD{xs:List Fl}{g:Nat}{m:Int}(h:g=xs.length\/zC (xs.drop g)<=m): keptL (xs.drop g) m=xs.drop g:=by
 rcases h with rfl|h
 ·rw[List.drop_length];rfl
 ·exact zjc h
theorem zch(xs:List Fl)(s:Nat)(z m:Int): AEq Tryz.prog 228 [.ptr 0 0] [.box [.row 1 s,i64 z,i64 m],.row s 103 3 (xs.map flA)] (i64 xs.length) [.box [.row 1 s,i64 z,i64 m],.row s 103 3 (xs.map flA)]:=by
 refine enT Tryz.func228 Tryz.ntmps228 ?_
 have hU:=True.intro
 repeat'(first|refine goR ?_|refine zd fun K hK=>?_|refine zc ?_ ?_<;>intro hcd<;>(try simp only[hcP]at hcd)<;>try exact cdT|((refine zo [0,1] (by rw[Tryz.results228,Lf.zI]) (zw ?_) ?_)<;>(try exact uT))|refine hK _ _ ?_;clear hK K)
theorem zyg(m:Int)(h:0<=m)(h2:m<=2147483647): AEq Tryz.prog 101 [i64 m] [] (.tu [.ptr 0 0,i64 0]) [.box [.sl true false [],i64 0,i64 m]]:=by
 have hd:decide (0<=m/\m<=2147483647)=true:=by rw[decide_eq_true_eq];omega
 refine enT Tryz.func101 Tryz.ntmps101 ?_
 have hU:=@hd
 repeat'(first|refine goR ?_|refine zd fun K hK=>?_|refine zc ?_ ?_<;>intro hcd<;>(try simp only[hcP]at hcd)<;>try exact cdT|(refine zj (f:=149) rfl Tryz.call149 (h:=AEq.pure' agT (zue _) (hq:=?_)))|((refine zo [0] (by rw[Tryz.results101,Lf.ym]) (zF ?_ ?_) ?_)<;>(try exact uT))|refine hK _ _ ?_;clear hK K)
theorem zjL(m:Int)(h:0<=m)(h2:m<=2147483647): AEq Tryz.prog 101 [i64 m] [] (.tu [.ptr 0 0,i64 0]) [.box [.row 1 0,i64 (zC xsE),i64 m],.row 0 103 3 (xsE.map flA)]:=
 zjd (zyg m h h2) (fun ρ w v hr hG hv=>zhO (q:=false) (cs:=[.sl true false [],i64 0,i64 m]) 0 0 103 3 (by decide) rfl rfl ρ w v hr hG hv)
theorem zqo(xs:List Fl)(s:Nat)(z m i:Int)(h:i<1\/xs.length<i): AEq Tryz.prog 229 [.ptr 0 0,i64 i] [.box [.row 1 s,i64 z,i64 m],.row s 103 3 (xs.map flA)] (.tu [.ag (flA fl0),bl false]) [.box [.row 1 s,i64 z,i64 m],.row s 103 3 (xs.map flA)]:=by
 refine enT Tryz.func229 Tryz.ntmps229 ?_
 have hU:=True.intro
 repeat'(first|refine goR ?_|refine zd fun K hK=>?_|refine zc ?_ ?_<;>intro hcd<;>(try simp only[hcP]at hcd)<;>try exact cdT|(guard_target =~ rg _ _ _ (⟨_,_,_,_,_,some _⟩::_) _ _ _;(first|refine zP gT (fun hcd=>?_) (fun hcd=>?_)|refine zK gT (fun hcd=>?_) (fun hcd=>?_))<;>(try simp only[hcd])<;>(try(simp only[Bool.not_eq_true',Bool.not_eq_false']at hcd;try simp only[hcd]))<;>(refine kC (Γ2:=_) ewT ?_)<;>(try simp only[hcP]at hcd)<;>(try exact cdT))|refine yq ?_|((refine zX [0,1] exT (by rfl) (by rw[Tryz.results229];exact Lf.vF roT roT) sT sT (zF ?_ ?_) ?_)<;>(try exact uT))|refine hK _ _ ?_;clear hK K)
theorem zqp(xs:List Fl)(s:Nat)(z m i:Int)(f:Fl)(h1:1<=i)(h2:i<=xs.length)(h3:xs.length<=100000)(hf:xs.reverse[i.toNat-1]?=some f): AEq Tryz.prog 229 [.ptr 0 0,i64 i] [.box [.row 1 s,i64 z,i64 m],.row s 103 3 (xs.map flA)] (.tu [.ag (flA f),bl true]) [.box [.row 1 s,i64 z,i64 m],.row s 103 3 (xs.map flA)]:=by
 have hg:=zud hf
 have hr:(xs.map flA)[((xs.length:Int)-i).toNat]?=some (flA f):=by
  rw[List.getElem?_map,show((xs.length:Int)-i).toNat=xs.length-(i.toNat-1+1)from by omega,hg];rfl
 refine enT Tryz.func229 Tryz.ntmps229 ?_
 have hU:=@hr
 repeat'(first|refine goR ?_|(guard_target =~ PWp _ _ _ _ _ _ _;refine vG (id:=3) 13 mixed (by kernel_rfl) (by kernel_rfl) (by kernel_rfl) rfl rfl ?_)|refine zd fun K hK=>?_|refine zc ?_ ?_<;>intro hcd<;>(try simp only[hcP]at hcd)<;>try exact cdT|(guard_target =~ rg _ _ _ (⟨_,_,_,_,_,some _⟩::_) _ _ _;(first|refine zP gT (fun hcd=>?_) (fun hcd=>?_)|refine zK gT (fun hcd=>?_) (fun hcd=>?_))<;>(try simp only[hcd])<;>(try(simp only[Bool.not_eq_true',Bool.not_eq_false']at hcd;try simp only[hcd]))<;>(refine kC (Γ2:=_) ewT ?_)<;>(try simp only[hcP]at hcd)<;>(try exact cdT))|refine yq ?_|((refine zX [0,1] exT (by rfl) (by rw[Tryz.results229];exact Lf.vF roT roT) sT sT (zF ?_ ?_) ?_)<;>(try exact uT))|(guard_target =~ dg _ _ _ _ _ _ _;first|(guard_target =~ dg _ _ _ (⟨_,.indexAddr _ _ _,_,_,_,none⟩::_) _ _ _;(refine vz (x:=_) (h:=zH (h:=yG rfl (hK:=zl ⟨rfl,rfl⟩))) (hk:=?_))))|refine hK _ _ ?_;clear hK K)
theorem zdr(xs:List Fl)(s:Nat)(m most:Int)(h:xs.length<=100000)(hS:zC xs<=4000000000)(hb:∀f∈xs,f.n.size<=1000000000/\f.v.size<=1000000000): AEq Tryz.prog 200 [.ptr 0 0,i64 most] [.box [.row 1 s,i64 (zC xs),i64 m],.row s 103 3 (xs.map flA)] (.tu []) [.box [.row 1 (s+1),i64 (zC (keptL xs most)),i64 m],.row (s+1) 103 3 ((keptL xs most).map flA)]:=by
 refine enT Tryz.func200 Tryz.ntmps200 ?_
 have hU:=True.intro
 repeat'(first|refine goR ?_|refine zd fun K hK=>?_|refine hK _ _ ?_;clear hK K)
 refine zO [4,5,6,7,8,9,10,11,12,13,14,15,16,17,18,19,20,21,22,23,24,25,26,27,28,29,30,31,32,33,34,35,36] (fun g:Nat=>[(4,i64 g)]) (fun g=>[.box [.row 1 s,i64 (zC (xs.drop g)),i64 m],.row s 103 3 (xs.map flA)]) (fun g=>g<=xs.length/\keptL xs most=keptL (xs.drop g) most) (fun g=>xs.length-g) 0 ⟨Nat.zero_le _,rfl⟩ ?_ rfl ?_
 ·(refine⟨⟨_,sT,?_⟩,trivial⟩<;>(try exact zu))
 ·rintro g ⟨hg,hk⟩
  simp only[yN,List.map_cons,List.map_nil,List.cons_append,List.nil_append]
  have hp:=(j5 (xs.drop g)).1
  by_cases hlt:g<xs.length
  ·obtain⟨x,hx⟩:=yv hlt
   have hxb:=hb x (List.mem_of_getElem? hx)
   by_cases hm:most<zC (xs.drop g)
   ·obtain⟨e1,e2⟩:=zhR hx hm
    have hp2:=(j5 (xs.drop (g+1))).1
    have hxA:(xs.map flA)[g]?=some (flA x):=by rw[List.getElem?_map,hx];rfl
    have hz:=zbM xs (g+1)
    have hz2:=zbM xs g
    have e3:zC (xs.drop g)-wt x=zC (xs.drop (g+1)):=by omega
    have hU:=And.intro @hxA (@e3)
    repeat'(first|refine goR ?_|(guard_target =~ PWp _ _ _ _ _ _ _;refine vG (id:=2) 15 mixed (by kernel_rfl) (by kernel_rfl) (by kernel_rfl) rfl rfl ?_)|refine zd fun K hK=>?_|refine zc ?_ ?_<;>intro hcd<;>(try simp only[hcP]at hcd)<;>try exact cdT|refine hK _ _ ?_;clear hK K|(guard_target =~ dg _ _ _ _ _ _ _;first|(guard_target =~ dg _ _ _ (⟨_,.indexAddr _ _ _,_,_,_,none⟩::_) _ _ _;(refine vz (x:=_) (h:=zH (h:=yG rfl (hK:=zl ⟨rfl,rfl⟩))) (hk:=?_)))|(guard_target =~ dg _ _ _ (⟨_,.call ⟨.value (.func 223),_,_⟩,_,_,_,none⟩::_) _ _ _;(refine vz (x:=_) (h:=zH (h:=zj (f:=223) rfl Tryz.call223 (h:=AEq.pure' agT (zdg _ (by omega) (by omega)) (hq:=zl ⟨rfl,rfl⟩)))) (hk:=?_))))|(dsimp only[Lf.yk,Lf.yJ]))
    refine⟨g+1,⟨by omega,by rw[hk,e1]⟩,by omega,?_,arT,srT⟩
    (refine⟨⟨_,sT,?_⟩,trivial⟩<;>(try exact zu))
   ·have hs : keptL xs most = xs.drop g := by rw [hk]; exact zcD (.inr (by omega))
    repeat'(first|refine goR ?_|refine zd fun K hK=>?_|refine zc ?_ ?_<;>intro hcd<;>(try simp only[hcP]at hcd)<;>try exact cdT|(refine zj (f:=224) rfl Tryz.call224 (h:=AEq.sub' [_] (hc:=zug _ _ _ (by assumption)) (hq:=?_)))|((refine zo [0,1] (by rw[Tryz.results200,Lf.jC]) yH ?_)<;>(try exact uT))|refine hK _ _ ?_;clear hK K|(apply_assumption (exfalso:=false) (symm:=false)))
    all_goals exact stq (by rw[hs])
  ·have hs : keptL xs most = xs.drop g := by rw [hk]; exact zcD (.inl (by omega))
   repeat'(first|refine goR ?_|refine zd fun K hK=>?_|refine zc ?_ ?_<;>intro hcd<;>(try simp only[hcP]at hcd)<;>try exact cdT|(refine zj (f:=224) rfl Tryz.call224 (h:=AEq.sub' [_] (hc:=zug _ _ _ (by assumption)) (hq:=?_)))|((refine zo [0,1] (by rw[Tryz.results200,Lf.jC]) yH ?_)<;>(try exact uT))|refine hK _ _ ?_;clear hK K|(apply_assumption (exfalso:=false) (symm:=false)))
   all_goals exact stq (by rw[hs])
attribute [local irreducible] wt
theorem fl_join{l:List Fl}{f:Fl}: List.map flA l++[[AV.lit (Value.string f.n),AV.lit (Value.string f.v),AV.lit (Value.bool false)]]=List.map flA (l++[flN f]):=by rw[List.map_append];rfl
set_option maxRecDepth 20000 in
theorem zfs(xs:List Fl)(s:Nat)(m:Int)(f:Fl)(h:xs.length<=100000)(hS:zC xs<=4000000000)(hb:∀f∈xs,f.n.size<=1000000000/\f.v.size<=1000000000)(h1:f.n.size<=1000000000)(h2:f.v.size<=1000000000)(h3:0<=m)(h4:m<wt f): AEq Tryz.prog 204 [.ptr 0 0,.ag (flA f)] [.box [.row 1 s,i64 (zC xs),i64 m],.row s 103 3 (xs.map flA)] (.tu []) [.box [.row 1 (s+1),i64 0,i64 m],.row (s+1) 103 3 (List.map flA [])]:=by
 have hw:wt f<=2000000032:=by unfold wt;omega
 refine enT Tryz.func204 Tryz.ntmps204 ?_
 have hU:=And.intro @keptL_zero (@sumW_nil)
 repeat'(first|refine goR ?_|refine zd fun K hK=>?_|refine zc ?_ ?_<;>intro hcd<;>(try simp only[hcP]at hcd)<;>try exact cdT|(guard_target =~ SOp _ _ ⟨_,.call ⟨.builtin .max,_,_⟩,_,_,_,none⟩ _ _ _;refine zfj rfl sT sT lmT ?_)|refine y1B ?_|(refine zj (f:=223) rfl Tryz.call223 (h:=AEq.pure' agT (zdg _ (by assumption) (by assumption)) (hq:=?_)))|((refine zo [0,1] (by rw[Tryz.results204,Lf.jC]) yH ?_)<;>(try exact uT))|refine hK _ _ ?_;clear hK K)
theorem zjM(xs:List Fl)(s:Nat)(m:Int)(f:Fl)(h:xs.length<=100000)(hS:zC xs<=4000000000)(hb:∀f∈xs,f.n.size<=1000000000/\f.v.size<=1000000000)(h1:f.n.size<=1000000000)(h2:f.v.size<=1000000000)(h3:0<=m)(h4:m<wt f): AEq Tryz.prog 204 [.ptr 0 0,.ag (flA f)] [.box [.row 1 s,i64 (zC xs),i64 m],.row s 103 3 (xs.map flA)] (.tu []) [.box [.row 1 (s+1),i64 (zC xsE),i64 m],.row (s+1) 103 3 (xsE.map flA)]:=zfs xs s m f h hS hb h1 h2 h3 h4
theorem zyh(xs:List Fl)(s:Nat)(m:Int)(f:Fl)(h:xs.length<=100000)(hS:zC xs<=4000000000)(hb:∀f∈xs,f.n.size<=1000000000/\f.v.size<=1000000000)(h1:f.n.size<=1000000000)(h2:f.v.size<=1000000000)(h3:m<=4000000000)(h4:wt f<=m): AEq Tryz.prog 204 [.ptr 0 0,.ag (flA f)] [.box [.row 1 s,i64 (zC xs),i64 m],.row s 103 3 (xs.map flA)] (.tu []) [.box [.row 1 (s+2),i64 (zC (keptL xs (m-wt f)++[flN f])),i64 m],.row (s+2) 103 3 ((keptL xs (m-wt f)++[flN f]).map flA)]:=by
 have hp:=zjb f
 have hkl:=yS (m-wt f) xs
 have hks:=vO (m-wt f) (by omega) xs
 have hkp:=(j5 (keptL xs (m-wt f))).1
 have hsa:zC (keptL xs (m-wt f)++[flN f])=zC (keptL xs (m-wt f))+wt f:=by rw[zde];simp only[zC,zzD];omega
 refine enT Tryz.func204 Tryz.ntmps204 ?_
 have hU:=And.intro @hsa (@fl_join)
 repeat'(first|refine goR ?_|(guard_target =~ PWp _ _ _ _ _ _ _;refine zv (id:=5) [5,6,7,8,9,10,1,2,3,4,11,0,12,13,14] [10,11,14] mixed (by kernel_rfl) (by kernel_rfl) ?_)|refine zd fun K hK=>?_|refine zc ?_ ?_<;>intro hcd<;>(try simp only[hcP]at hcd)<;>try exact cdT|refine y1x ?_|refine y1B ?_|(refine zj (f:=223) rfl Tryz.call223 (h:=AEq.pure' agT (zdg _ (by assumption) (by assumption)) (hq:=?_)))|((refine zo [0,1] (by rw[Tryz.results204,Lf.jC]) yH ?_)<;>(try exact uT))|(guard_target =~ dw _ _ _ _ _ _ _ _ _ _;first|(guard_target =~ dw _ _ _ _ _ (9::_) _ _ _ _;(refine vp rfl rfl (h:=(fun τ=>zH (h:=vM rfl (by first|exact zby|exact zfb|fail) (hK:=zl ⟨rfl,rfl⟩)))) (hk:=?_)))|(guard_target =~ dw _ _ _ _ _ (10::_) _ _ _ _;(refine yn rfl rfl (h:=zH (h:=ks rfl (he:=eoT) (hK:=zl ⟨rfl,rfl⟩))) (hk:=?_)))|(guard_target =~ dw _ _ _ _ _ (11::_) _ _ _ _;(refine yn rfl rfl (h:=zH (h:=zM rfl (he:=eoT) (hK:=zl ⟨rfl,rfl⟩))) (hk:=?_)))|(guard_target =~ dw _ _ _ _ _ (14::_) _ _ _ _;(refine vg rfl rfl (h:=zaj (h:=zW rfl (hK:=zl ⟨rfl,rfl⟩))) (hk:=?_))))|refine hK _ _ ?_;clear hK K)
theorem zjN(xs:List Fl)(s:Nat)(m:Int)(n v:ByteArray)(k:Bool)(h:xs.length<=100000)(hS:zC xs<=4000000000)(hb:∀f∈xs,f.n.size<=1000000000/\f.v.size<=1000000000)(h1:n.size<=1000000000)(h2:v.size<=1000000000)(h3:m<=4000000000)(h4:wt ⟨n,v,k⟩<=m): AEq Tryz.prog 204 [.ptr 0 0,.ag [.lit (.string n),.lit (.string v),.lit (.bool k)]] [.box [.row 1 s,i64 (zC xs),i64 m],.row s 103 3 (xs.map flA)] (.tu []) [.box [.row 1 (s+2),i64 (zC (keptL xs (m-wt ⟨n,v,k⟩)++[flN ⟨n,v,k⟩])),i64 m],.row (s+2) 103 3 ((keptL xs (m-wt ⟨n,v,k⟩)++[flN ⟨n,v,k⟩]).map flA)]:=zyh xs s m ⟨n,v,k⟩ h hS hb h1 h2 h3 h4
end
section
attribute [local irreducible] wt
theorem zuw(xs:List Fl)(s:Nat)(m n:Int)(h:xs.length<=100000)(hS:zC xs<=4000000000)(hb:∀f∈xs,f.n.size<=1000000000/\f.v.size<=1000000000)(h1:0<=n)(h2:n<=2147483647): AEq Tryz.prog 175 [.ptr 0 0,i64 n] [.box [.row 1 s,i64 (zC xs),i64 m],.row s 103 3 (xs.map flA)] (i64 0) [.box [.row 1 (s+1),i64 (zC (keptL xs n)),i64 n],.row (s+1) 103 3 ((keptL xs n).map flA)]:=by
 have hd:decide (0<=n/\n<=2147483647)=true:=by rw[decide_eq_true_eq];omega
 refine enT Tryz.func175 Tryz.ntmps175 ?_
 have hU:=@hd
 repeat'(first|refine goR ?_|refine zd fun K hK=>?_|refine zc ?_ ?_<;>intro hcd<;>(try simp only[hcP]at hcd)<;>try exact cdT|refine y1B ?_|(refine zj (f:=149) rfl Tryz.call149 (h:=AEq.pure' agT (zue _) (hq:=?_)))|((refine zo [0,1] (by rw[Tryz.results175,Lf.zI]) (zw ?_) ?_)<;>(try exact uT))|refine hK _ _ ?_;clear hK K)
theorem zux(xs:List Fl)(s:Nat)(z m:Int)(h:xs.length<=100000): AEq Tryz.prog 186 [.ptr 0 0] [.box [.row 1 s,i64 z,i64 m],.row s 103 3 (xs.map flA)] (.ptr 2 0) [.box [.row 1 s,i64 z,i64 m],.row s 103 3 (xs.map flA),.box [.row 3 0,i64 z,i64 m],.row 0 103 3 (xs.map flA)]:=by
 refine enT Tryz.func186 Tryz.ntmps186 ?_
 have hU:=True.intro
 repeat'(first|refine goR ?_|(guard_target =~ PWp _ _ _ _ _ _ _;refine zv (id:=3) [0,1,2,3,4,5,6,7,8,9,10,11,12,13,14,15] [4,14] mixed (by kernel_rfl) (by kernel_rfl) ?_)|refine zd fun K hK=>?_|refine zc ?_ ?_<;>intro hcd<;>(try simp only[hcP]at hcd)<;>try exact cdT|((refine zo [0,1,3,2] (by rw[Tryz.results186,Lf.zI]) (zw ?_) ?_)<;>(try exact uT))|(guard_target =~ dw _ _ _ _ _ _ _ _ _ _;first|(guard_target =~ dw _ _ _ _ _ (4::_) _ _ _ _;(refine yn rfl rfl (h:=zH (h:=zj (f:=210) rfl Tryz.call210 (h:=AEq.sub' [] (hc:=zje _ _ _ (by omega)) (hq:=zl ⟨rfl,rfl⟩)))) (hk:=?_)))|(guard_target =~ dw _ _ _ _ _ (13::_) _ _ _ _;(refine kZ rfl rfl (h:=zH (h:=vM rfl (by first|exact zby|exact zfb|fail) (hK:=zl ⟨rfl,rfl⟩))) (hk:=?_)))|(guard_target =~ dw _ _ _ _ _ (14::_) _ _ _ _;(refine yn rfl rfl (h:=zH (h:=zpg rfl (hK:=zl ⟨rfl,rfl⟩))) (hk:=?_))))|refine hK _ _ ?_;clear hK K)
theorem zuy(xs:List Fl)(s:Nat)(z m:Int)(n v:ByteArray)(h:xs.length<=100000): AEq Tryz.prog 226 [.ptr 0 0,.lit (.string n),.lit (.string v)] [.box [.row 1 s,i64 z,i64 m],.row s 103 3 (xs.map flA)] (.tu [i64 (fnI xs.reverse n v),bl (fnB xs.reverse n v)]) [.box [.row 1 s,i64 z,i64 m],.row s 103 3 (xs.map flA)]:=by
 refine enT Tryz.func226 Tryz.ntmps226 ?_
 have hU:=True.intro
 repeat'(first|refine goR ?_|refine zd fun K hK=>?_|refine hK _ _ ?_;clear hK K)
 refine vZ [6,7,8,9,10,11,12,13,14,15,16,17,18,19,20,21,22,23,24,25,26,27,28,29,30,31,32,33,34,35,36,37,38] [0,1] (fun q:Nat×Int=>[(9,i64 (q.1+1)),(8,i64 q.2)]) (fun _=>[.box [.row 1 s,i64 z,i64 m],.row s 103 3 (xs.map flA)]) (fun q=>q.1<=xs.length/\0<=q.2/\ku n v xs.reverse 1=ku n v (xs.reverse.drop q.1) (q.1+1)/\(q.2=0->vD n xs.reverse 1=vD n (xs.reverse.drop q.1) (q.1+1))/\(q.2≠0->vD n xs.reverse 1=q.2)) (fun q=>xs.length-q.1) (0,0) (fun _=>rfl) rfl rfl ⟨Nat.zero_le _,by decide,rfl,fun _=>rfl,fun h=>absurd rfl h⟩ ?_ rfl (by intro s i x h;simp only[List.mem_cons,Prod.mk.injEq,List.not_mem_nil,or_false]at h;rcases h with⟨rfl,_⟩|⟨rfl,_⟩<;>decide) ?_
 ·(refine⟨⟨_,sT,?_⟩,⟨_,sT,?_⟩,trivial⟩<;>(try exact zu))
 ·rintro⟨c,r⟩ ⟨h1,h2,h3,h4,h5⟩
  dsimp only at h1 h2 h3 h4 h5 ⊢
  simp only[yN,List.map_cons,List.map_nil,List.cons_append,List.nil_append]
  have hrl:xs.reverse.length=xs.length:=List.length_reverse
  by_cases hlt:c<xs.length
  ·obtain ⟨x, hx⟩ := yv (l := xs.reverse) (i := c) (by omega)
   have hxi:xs.reverse[((c:Int)+1).toNat-1]?=some x:=by rw[show((c:Int)+1).toNat-1=c from by omega];exact hx
   rw[vU hx,ku]at h3
   rw[vU hx,vD]at h4
   by_cases hn:x.n=n
   ·by_cases hv:x.v=v
    ·rw[if_pos ⟨hn,hv⟩]at h3
     obtain⟨e1,e2⟩:=zuc h3 (by omega)
     have hU:=And.intro @hn (@hv)
     repeat'(first|refine goR ?_|refine zd fun K hK=>?_|refine zc ?_ ?_<;>intro hcd<;>(try simp only[hcP]at hcd)<;>try exact cdT|refine yq ?_|refine y13 ?_|((refine zo [0,1] (by rw[Tryz.results226,Lf.ym]) (zF ?_ ?_) ?_)<;>(try exact uT))|refine hK _ _ ?_;clear hK K)
     all_goals first|exact yV e1.symm|exact zJ e2.symm
    ·rw [if_neg (by simp [hv])] at h3
     rw[if_pos hn]at h4
     by_cases hr:r=0
     ·subst hr
      have hU:=And.intro @hn (@hv)
      repeat'(first|refine goR ?_|refine zd fun K hK=>?_|refine zc ?_ ?_<;>intro hcd<;>(try simp only[hcP]at hcd)<;>try exact cdT|refine yq ?_|refine y13 ?_|refine hK _ _ ?_;clear hK K)
      refine⟨(c+1,(c:Int)+1),⟨by dsimp only;omega,by dsimp only;omega,h3,fun e=>by dsimp only at e;omega,fun _=>h4 rfl⟩,by dsimp only;omega,?_,arT,srT⟩
      (refine⟨⟨_,sT,?_⟩,⟨_,sT,?_⟩,trivial⟩<;>(try exact zu))
     ·have hU:=And.intro @hn (@hv)
      repeat'(first|refine goR ?_|refine zd fun K hK=>?_|refine zc ?_ ?_<;>intro hcd<;>(try simp only[hcP]at hcd)<;>try exact cdT|refine yq ?_|refine y13 ?_|refine hK _ _ ?_;clear hK K)
      refine⟨(c+1,r),⟨by dsimp only;omega,h2,h3,fun e=>absurd e hr,h5⟩,by dsimp only;omega,?_,arT,srT⟩
      (refine⟨⟨_,sT,?_⟩,⟨_,sT,?_⟩,trivial⟩<;>(try exact zu))
   ·rw [if_neg (by simp [hn])] at h3
    rw[if_neg hn]at h4
    have hU:=@hn
    repeat'(first|refine goR ?_|refine zd fun K hK=>?_|refine zc ?_ ?_<;>intro hcd<;>(try simp only[hcP]at hcd)<;>try exact cdT|refine yq ?_|refine y13 ?_|refine hK _ _ ?_;clear hK K)
    refine⟨(c+1,r),⟨by dsimp only;omega,h2,h3,h4,h5⟩,by dsimp only;omega,?_,arT,srT⟩
    (refine⟨⟨_,sT,?_⟩,⟨_,sT,?_⟩,trivial⟩<;>(try exact zu))
  ·obtain rfl : c = xs.length := by omega
   have h6:xs.reverse.drop xs.length=[]:=by rw[List.drop_eq_nil_of_le (by omega)]
   rw[h6,ku]at h3
   rw[h6,vD]at h4
   have h7:vD n xs.reverse 1=r:=by
    by_cases hr:r=0
    ·rw[h4 hr,hr]
    ·exact h5 hr
   obtain⟨e1,e2⟩:=zpR h3 h7
   repeat'(first|refine goR ?_|refine zd fun K hK=>?_|refine zc ?_ ?_<;>intro hcd<;>(try simp only[hcP]at hcd)<;>try exact cdT|refine yq ?_|((refine zo [0,1] (by rw[Tryz.results226,Lf.ym]) (zF ?_ ?_) ?_)<;>(try exact uT))|refine hK _ _ ?_;clear hK K|(apply_assumption (exfalso:=false) (symm:=false)))
   all_goals first|exact yV e1.symm|exact zJ e2.symm
end
structure Dd where
 (f:Fl) (z:Int)
@[go_sem] def ddA(d:Dd): List AV:=[.lit (.string d.f.n),.lit (.string d.f.v),bl d.f.k,i64 d.z]
@[go_sem] theorem zv2{κ:List Nat}{σ:Sto}(l:List Dd): List.map (fzl κ σ) (l.map ddA)=l.map ddA:=vc (fun _=>rfl) l
end Go.Proofs.YtdalcgfnlbofdaaGreatDoor
