import Derived.Test.YtdalcgfnlbofdaaGreatDoorZ25
set_option linter.unusedVariables false
set_option linter.unusedSimpArgs false
namespace Go.Proofs.YtdalcgfnlbofdaaGreatDoor
open Go Go.Lf Go.Proofs
attribute [local irreducible] Lf.rg Lf.ro Lf.PWp Lf.SOp Lf.ACall Lf.Scoped Lf.dg Lf.dw
set_option maxRecDepth 20000
set_option maxHeartbeats 4000000
def nuB(t g:Int)(e:List (Int×Int))(wt pa:Int)(al:Bool)(pr la co sp:Int): List UInt8:=
 if t=1 then(if yM 1 g 32=true then wgB pa al wt else[])else if t=2 then wgB pa al wt else if t=3 then nbB co 4 else if t=5 then loB pr false else if t=7 then loB la false++nbB co 4 else if t=8 then loB sp false else if t=4 then spB e else[]
def nuW(t g:Int)(e:List (Int×Int))(wt pa pr la co sp:Int): Bool:=
 if t=1 then(if yM 1 g 32=true then wgW pa wt else false)else if t=2 then wgW pa wt else if t=3 then !okN co 4 else if t=5 then !loK pr else if t=7 then !loK la || !okN co 4 else if t=8 then !loK sp else if t=4 then spE e != 0 else false
def nuK(t g co:Int): Bool:=
 if t=1 then yM 1 g 32 else if t=2 then true else if t=3 then okN co 4 else if t=5 then true else if t=7 then true else if t=8 then true else false
def nuS(t wt:Int)(s:Nat): Nat:=
 if t=1 then wgS wt else if t=2 then wgS wt else if t=3 then 4 else if t=5 then 4 else if t=7 then 4 else if t=8 then 4 else if t=4 then s+1 else s
def nuT(t:Int)(s:Nat): Nat:=if t=4 then s+1 else s
theorem zey(s:Nat)(x:List UInt8)(w:Bool)(t g st p:Int)(fd:Bool)(d:List UInt8)(fs:Bool)(e:List (Int×Int))(wt pa:Int)(al:Bool)(pr la co sp:Int)(hx:x.length<=10000000)(hl:e.length<=100000)(hk:nuK t g co=true): AEq Tryz.prog 133 [.ptr 0 0,.ag [i64 t,i64 g,i64 st,i64 p,.sl fd false (d.map zk),.sl fs false (e.map z7),i64 wt,i64 pa,bl al,i64 pr,i64 la,i64 co,i64 sp]] [.box [.row 1 s,bl w],.row s 5 1 (x.map zk)] (.tu []) [.box [.row 2 (nuS t wt s),bl (w || nuW t g e wt pa pr la co sp)],.row s 5 1 (x.map zk),.row (nuS t wt s) 5 1 ((x++nuB t g e wt pa al pr la co sp).map zk)]:=by
 unfold nuK at hk
 by_cases h1:t=1
 ·rw[if_pos h1]at hk
  rw[show nuB t g e wt pa al pr la co sp=wgB pa al wt from by unfold nuB;rw[if_pos h1,if_pos hk],show nuW t g e wt pa pr la co sp=wgW pa wt from by unfold nuW;rw[if_pos h1,if_pos hk],show nuS t wt s=wgS wt from by unfold nuS;rw[if_pos h1]]
  exact zyH s x w t g st p fd d fs e wt pa al pr la co sp hx hl h1 hk
 rw[if_neg h1]at hk
 by_cases h2:t=2
 ·rw [show nuB t g e wt pa al pr la co sp = wgB pa al wt from by unfold nuB; rw [if_neg h1, if_pos h2], show nuW t g e wt pa pr la co sp = wgW pa wt from by unfold nuW; rw [if_neg h1, if_pos h2], show nuS t wt s = wgS wt from by unfold nuS; rw [if_neg h1, if_pos h2]]
  exact zEH s x w t g st p fd d fs e wt pa al pr la co sp hx hl h2
 rw[if_neg h2]at hk
 by_cases h3:t=3
 ·rw[if_pos h3]at hk
  have hn:vh co 4=0:=of_decide_eq_true hk
  rw[show nuB t g e wt pa al pr la co sp=beB co 4 from by unfold nuB;rw[if_neg h1,if_neg h2,if_pos h3,zq9 hn];rfl,show nuW t g e wt pa pr la co sp=false from by unfold nuW;rw[if_neg h1,if_neg h2,if_pos h3,znc hn];rfl,show nuS t wt s=4 from by unfold nuS;rw[if_neg h1,if_neg h2,if_pos h3],Bool.or_false]
  exact zyJ s x w t g st p fd d fs e wt pa al pr la co sp hx hl h3 hn
 rw[if_neg h3]at hk
 by_cases h5:t=5
 ·rw [show nuB t g e wt pa al pr la co sp = loB pr false from by unfold nuB; rw [if_neg h1, if_neg h2, if_neg h3, if_pos h5], show nuW t g e wt pa pr la co sp = !loK pr from by unfold nuW; rw [if_neg h1, if_neg h2, if_neg h3, if_pos h5], show nuS t wt s = 4 from by unfold nuS; rw [if_neg h1, if_neg h2, if_neg h3, if_pos h5]]
  exact zEI s x w t g st p fd d fs e wt pa al pr la co sp hx hl h5
 rw[if_neg h5]at hk
 by_cases h7:t=7
 ·have eS : nuS t wt s = 4 := by unfold nuS; rw [if_neg h1, if_neg h2, if_neg h3, if_neg h5, if_pos h7]
  have eB:nuB t g e wt pa al pr la co sp=loB la false++nbB co 4:=by unfold nuB;rw[if_neg h1,if_neg h2,if_neg h3,if_neg h5,if_pos h7]
  have eW:nuW t g e wt pa pr la co sp=(!loK la || !okN co 4):=by unfold nuW;rw[if_neg h1,if_neg h2,if_neg h3,if_neg h5,if_pos h7]
  rw[eS,eB,eW]
  by_cases hn:vh co 4=0
  ·rw[zq9 hn,znc hn,Bool.not_true,Bool.or_false]
   exact zyL s x w t g st p fd d fs e wt pa al pr la co sp hx hl h7 hn
  ·rw[zra hn,znd hn,Bool.not_false,Bool.or_true,Bool.or_true,List.append_nil]
   exact zyM s x w t g st p fd d fs e wt pa al pr la co sp hx hl h7 hn
 rw[if_neg h7]at hk
 by_cases h8:t=8
 ·rw [show nuB t g e wt pa al pr la co sp = loB sp false from by unfold nuB; rw [if_neg h1, if_neg h2, if_neg h3, if_neg h5, if_neg h7, if_pos h8], show nuW t g e wt pa pr la co sp = !loK sp from by unfold nuW; rw [if_neg h1, if_neg h2, if_neg h3, if_neg h5, if_neg h7, if_pos h8], show nuS t wt s = 4 from by unfold nuS; rw [if_neg h1, if_neg h2, if_neg h3, if_neg h5, if_neg h7, if_pos h8]]
  exact zEJ s x w t g st p fd d fs e wt pa al pr la co sp hx hl h8
 rw[if_neg h8]at hk
 cases hk
theorem zez(s:Nat)(x:List UInt8)(w:Bool)(t g st p:Int)(fd:Bool)(d:List UInt8)(fs:Bool)(e:List (Int×Int))(wt pa:Int)(al:Bool)(pr la co sp:Int)(hx:x.length<=10000000)(hl:e.length<=100000)(hk:nuK t g co=false): AEq Tryz.prog 133 [.ptr 0 0,.ag [i64 t,i64 g,i64 st,i64 p,.sl fd false (d.map zk),.sl fs false (e.map z7),i64 wt,i64 pa,bl al,i64 pr,i64 la,i64 co,i64 sp]] [.box [.row 1 s,bl w],.row s 5 1 (x.map zk)] (.tu []) [.box [.row 1 (nuT t s),bl (w || nuW t g e wt pa pr la co sp)],.row (nuT t s) 5 1 ((x++nuB t g e wt pa al pr la co sp).map zk)]:=by
 unfold nuK at hk
 by_cases h1:t=1
 ·rw[if_pos h1]at hk
  have hk2:¬yM 1 g 32=true:=by rw[hk];simp
  rw[show nuB t g e wt pa al pr la co sp=[]from by unfold nuB;rw[if_pos h1,if_neg hk2],show nuW t g e wt pa pr la co sp=false from by unfold nuW;rw[if_pos h1,if_neg hk2],show nuT t s=s from by unfold nuT;rw[if_neg (by omega)],Bool.or_false,List.append_nil]
  exact zyI s x w t g st p fd d fs e wt pa al pr la co sp hx hl h1 hk
 rw[if_neg h1]at hk
 by_cases h2:t=2
 ·rw[if_pos h2]at hk;cases hk
 rw[if_neg h2]at hk
 by_cases h3:t=3
 ·rw[if_pos h3]at hk
  have hn:¬vh co 4=0:=of_decide_eq_false hk
  rw[show nuB t g e wt pa al pr la co sp=[]from by unfold nuB;rw[if_neg h1,if_neg h2,if_pos h3,zra hn],show nuW t g e wt pa pr la co sp=true from by unfold nuW;rw[if_neg h1,if_neg h2,if_pos h3,znd hn];rfl,show nuT t s=s from by unfold nuT;rw[if_neg (by omega)],Bool.or_true,List.append_nil]
  exact zyK s x w t g st p fd d fs e wt pa al pr la co sp hx hl h3 hn
 rw[if_neg h3]at hk
 by_cases h5:t=5
 ·rw[if_pos h5]at hk;cases hk
 rw[if_neg h5]at hk
 by_cases h7:t=7
 ·rw[if_pos h7]at hk;cases hk
 rw[if_neg h7]at hk
 by_cases h8:t=8
 ·rw[if_pos h8]at hk;cases hk
 by_cases h4:t=4
 ·rw [show nuB t g e wt pa al pr la co sp = spB e from by unfold nuB; rw [if_neg h1, if_neg h2, if_neg h3, if_neg h5, if_neg h7, if_neg h8, if_pos h4], show nuW t g e wt pa pr la co sp = (spE e != 0) from by unfold nuW; rw [if_neg h1, if_neg h2, if_neg h3, if_neg h5, if_neg h7, if_neg h8, if_pos h4], show nuT t s = s + 1 from by unfold nuT; rw [if_pos h4]]
  exact zEK s x w t g st p fd d fs e wt pa al pr la co sp hx hl h4
 ·rw [show nuB t g e wt pa al pr la co sp = [] from by unfold nuB; rw [if_neg h1, if_neg h2, if_neg h3, if_neg h5, if_neg h7, if_neg h8, if_neg h4], show nuW t g e wt pa pr la co sp = false from by unfold nuW; rw [if_neg h1, if_neg h2, if_neg h3, if_neg h5, if_neg h7, if_neg h8, if_neg h4], show nuT t s = s from by unfold nuT; rw [if_neg h4], Bool.or_false, List.append_nil]
  exact zEL s x w t g st p fd d fs e wt pa al pr la co sp hx hl h1 h2 h3 h5 h7 h8 h4
theorem zfD(t g:Int)(e:List (Int×Int))(wt pa:Int)(al:Bool)(pr la co sp:Int): (nuB t g e wt pa al pr la co sp).length<=8+6*e.length:=by
 have h1:=zrb pa al wt
 have h2:=zkC co 4
 have h3:=kR pr false
 have h4:=kR la false
 have h5:=kR sp false
 have h6:=zkD e
 have h7:(4:Int).toNat=4:=rfl
 unfold nuB
 repeat' split
 all_goals(try rw[List.length_append])
 all_goals(try simp only[List.length_nil])
 all_goals omega
def eB: List UInt8:=[]
theorem zox: eB.length=0:=rfl
def wrB(t g p:Int)(d:List UInt8)(e:List (Int×Int))(wt pa:Int)(al:Bool)(pr la co sp:Int): List UInt8:=
 if yM t g 8=true then eB++beB p 1++nuB t g e wt pa al pr la co sp++d++List.replicate p.toNat 0 else eB++nuB t g e wt pa al pr la co sp++d
def wrW(t g p:Int)(e:List (Int×Int))(wt pa pr la co sp:Int): Bool:=(yM t g 8 && !okN p 1) || nuW t g e wt pa pr la co sp
theorem zrc(X:List UInt8)(n:Nat): List.map zk X++List.replicate n [AV.lit (.int .u8 0)]=List.map zk (X++List.replicate n 0):=by
 rw[List.map_append,List.map_replicate];rfl
theorem zkE(X d:List UInt8): List.map zk X++List.map zk d=List.map zk (X++d):=List.map_append.symm
theorem zg8(t g p:Int)(e:List (Int×Int))(wt pa pr la co sp:Int)(hw:wrW t g p e wt pa pr la co sp=false): ((yM t g 8=true/\vh p 1=0)\/yM t g 8=false)/\nuW t g e wt pa pr la co sp=false:=by
 unfold wrW at hw
 rw[Bool.or_eq_false_iff]at hw
 obtain⟨h1,h2⟩:=hw
 refine⟨?_,h2⟩
 cases h:yM t g 8 with
 | false=>exact .inr rfl
 | true=>
  rw[h,Bool.true_and]at h1
  by_cases hn:vh p 1=0
  ·exact .inl ⟨rfl,hn⟩
  ·rw[znd hn]at h1;cases h1
theorem zvb(t g p:Int)(e:List (Int×Int))(wt pa pr la co sp:Int)(hw:wrW t g p e wt pa pr la co sp=true): (yM t g 8=true/\¬vh p 1=0)\/(yM t g 8=true/\vh p 1=0/\nuW t g e wt pa pr la co sp=true)\/(yM t g 8=false/\nuW t g e wt pa pr la co sp=true):=by
 unfold wrW at hw
 cases h:yM t g 8 with
 | false=>rw[h]at hw;exact .inr (.inr ⟨rfl,by simpa using hw⟩)
 | true=>
  by_cases hn:vh p 1=0
  ·rw[h,znc hn]at hw;exact .inr (.inl ⟨rfl,hn,by simpa using hw⟩)
  ·exact .inl ⟨rfl,hn⟩
theorem zwk{P:Program}{N n:Nat}{c:Code}{Γ Γ2:Env}{σ σ2:Sto}{Q:Exit->Env->Sto->Prop}(L:Nat)(κ:List Nat)(hl:decide (L<σ.length)=true)(hk:okg n κ=true)(hΓ:(Γ.map fun p=>(p.1,fz κ σ p.2))=Γ2)(hσ:gcS κ σ=σ2)(h:PWp P N n c Γ2 σ2 Q): PWp P N n c Γ σ Q:=zsO κ hk hΓ hσ h
theorem zkF(t g st p:Int)(fd:Bool)(d:List UInt8)(fs:Bool)(e:List (Int×Int))(wt pa:Int)(al:Bool)(pr la co sp:Int)(w:Int)(hd:d.length<=1000000)(hl:e.length<=100000)(hg1:g<=9223372036854775807)(hw:wrW t g p e wt pa pr la co sp=false): AEq Tryz.prog 82 [.ag [i64 t,i64 g,i64 st,i64 p,.sl fd false (d.map zk),.sl fs false (e.map z7),i64 wt,i64 pa,bl al,i64 pr,i64 la,i64 co,i64 sp],i64 w] [] (.tu [.ag [i64 w,i64 t,i64 g,i64 st,bl false,.sl false false ((wrB t g p d e wt pa al pr la co sp).map zk)],bl true]) []:=by
 have hnl:=zfD t g e wt pa al pr la co sp
 have heB:=zox
 obtain⟨hc,hw2⟩:=zg8 t g p e wt pa pr la co sp hw
 rcases hc with⟨h8,hp⟩|h8
 ·rw[show wrB t g p d e wt pa al pr la co sp=eB++beB p 1++nuB t g e wt pa al pr la co sp++d++List.replicate p.toNat 0 from if_pos h8]
  have hbl:=zdO p
  obtain⟨hp0,hp1⟩:=zdN (by decide) (by decide) hp
  have ht1:p<=255:=hp1
  have hz:=zrc ((eB++beB p 1++nuB t g e wt pa al pr la co sp)++d) p.toNat
  have hdm:=zkE (eB++beB p 1++nuB t g e wt pa al pr la co sp) d
  cases hk:nuK t g co
  all_goals(refine enT Tryz.func82 Tryz.ntmps82 ?_)
  all_goals(have hU:=And.intro @h8 ( And.intro @hw2 ( And.intro @hdm (@hz))))
  all_goals(repeat'(first|refine goR ?_|refine y18 ?_|refine y20 ?_|refine zd fun K hK=>?_|refine zc ?_ ?_<;>intro hcd<;>(try simp only[hcP]at hcd)<;>try exact cdT|(guard_target =~ SOp _ _ ⟨_,.call ⟨.builtin .append,_,_⟩,_,_,_,none⟩ _ _ _;refine zci (c:=p) rfl sT (by exact Tryz.underlying3) eoT sT sT sT lmT (by rfl) lmT lmT sT sT sT ?_)|(guard_target =~ SOp _ _ ⟨_,.call ⟨.builtin .append,_,_⟩,_,_,_,none⟩ _ _ _;refine zM rfl (he:=eoT) (hK:=?_))|refine y1e ?_|(refine zj (f:=94) rfl Tryz.call94 (h:=AEq.pure' agT (zex _ _ _ lnT) (hq:=?_)))|refine y21 ?_|refine y22 ?_|((refine zX [] exT (by rfl) (by rw[Tryz.results82];exact Lf.vF roT roT) sT sT (zF ?_ ?_) ?_)<;>(try exact uT))|refine hK _ _ ?_;clear hK K))
 ·have h8n : ¬ yM t g 8 = true := by rw [h8]; simp
  rw[show wrB t g p d e wt pa al pr la co sp=eB++nuB t g e wt pa al pr la co sp++d from if_neg h8n]
  have hdm:=zkE (eB++nuB t g e wt pa al pr la co sp) d
  cases hk:nuK t g co
  all_goals(refine enT Tryz.func82 Tryz.ntmps82 ?_)
  all_goals(have hU:=And.intro @h8 ( And.intro @hw2 (@hdm)))
  all_goals(repeat'(first|refine goS ?_|refine y18 ?_|refine y20 ?_|refine zd fun K hK=>?_|refine zc ?_ ?_<;>intro hcd<;>(try simp only[hcP]at hcd)<;>try exact cdT|refine y1J ?_|refine y1K ?_|refine y1L ?_|((refine zX [] exT (by rfl) (by rw[Tryz.results82];exact Lf.vF roT roT) sT sT (zF ?_ ?_) ?_)<;>(try exact uT))|refine hK _ _ ?_;clear hK K))
theorem zyN(t g st p:Int)(fd:Bool)(d:List UInt8)(fs:Bool)(e:List (Int×Int))(wt pa:Int)(al:Bool)(pr la co sp:Int)(w:Int)(hd:d.length<=1000000)(hl:e.length<=100000)(hg1:g<=9223372036854775807)(hw:wrW t g p e wt pa pr la co sp=true): AEq Tryz.prog 82 [.ag [i64 t,i64 g,i64 st,i64 p,.sl fd false (d.map zk),.sl fs false (e.map z7),i64 wt,i64 pa,bl al,i64 pr,i64 la,i64 co,i64 sp],i64 w] [] (.tu [.ag [i64 0,i64 0,i64 0,i64 0,bl false,.sl true false (List.map zk [])],bl false]) []:=by
 have hnl:=zfD t g e wt pa al pr la co sp
 have heB:=zox
 have hbl:=zdO p
 rcases zvb t g p e wt pa pr la co sp hw with⟨h8,hp⟩|⟨h8,hp,hw2⟩|⟨h8,hw2⟩
 ·cases hk:nuK t g co
  all_goals(refine enT Tryz.func82 Tryz.ntmps82 ?_)
  all_goals(have hU:=@h8)
  all_goals(repeat'(first|refine goS ?_|refine y18 ?_|refine zd fun K hK=>?_|refine zc ?_ ?_<;>intro hcd<;>(try simp only[hcP]at hcd)<;>try exact cdT|(refine zj (f:=132) rfl Tryz.call132 (h:=AEq.sub' [_,_] (hc:=zbe _ _ _ _ _ aoT aoT aoT aoT) (hq:=?_)))|refine y1J ?_|refine y1K ?_|refine y1L ?_|((refine zX [] exT (by rfl) (by rw[Tryz.results82];exact Lf.vF roT roT) sT sT (zF ?_ ?_) ?_)<;>(try exact uT))|refine hK _ _ ?_;clear hK K))
 ·cases hk:nuK t g co
  all_goals(refine enT Tryz.func82 Tryz.ntmps82 ?_)
  all_goals(have hU:=And.intro @h8 (@hw2))
  all_goals(repeat'(first|refine goS ?_|refine y18 ?_|refine zd fun K hK=>?_|refine zc ?_ ?_<;>intro hcd<;>(try simp only[hcP]at hcd)<;>try exact cdT|refine y1e ?_|(refine zj (f:=94) rfl Tryz.call94 (h:=AEq.pure' agT (zex _ _ _ lnT) (hq:=?_)))|refine y21 ?_|refine y22 ?_|((refine zX [] exT (by rfl) (by rw[Tryz.results82];exact Lf.vF roT roT) sT sT (zF ?_ ?_) ?_)<;>(try exact uT))|refine hK _ _ ?_;clear hK K))
 ·cases hk:nuK t g co
  all_goals(refine enT Tryz.func82 Tryz.ntmps82 ?_)
  all_goals(have hU:=And.intro @h8 (@hw2))
  all_goals(repeat'(first|refine goS ?_|refine y18 ?_|refine zd fun K hK=>?_|refine zc ?_ ?_<;>intro hcd<;>(try simp only[hcP]at hcd)<;>try exact cdT|refine y1J ?_|refine y1K ?_|refine y1L ?_|((refine zX [] exT (by rfl) (by rw[Tryz.results82];exact Lf.vF roT roT) sT sT (zF ?_ ?_) ?_)<;>(try exact uT))|refine hK _ _ ?_;clear hK K))
end Go.Proofs.YtdalcgfnlbofdaaGreatDoor
