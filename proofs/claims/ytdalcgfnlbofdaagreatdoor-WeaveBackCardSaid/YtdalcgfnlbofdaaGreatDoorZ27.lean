import Derived.Test.YtdalcgfnlbofdaaGreatDoorZ26
set_option linter.unusedVariables false
set_option linter.unusedSimpArgs false
namespace Go.Proofs.YtdalcgfnlbofdaaGreatDoor
open Go Go.Lf Go.Proofs
attribute [local irreducible] Lf.rg Lf.ro Lf.PWp Lf.SOp Lf.ACall Lf.Scoped Lf.dg Lf.dw
set_option maxRecDepth 20000
set_option maxHeartbeats 4000000
def zkG(w t g st p:Int)(d:List UInt8)(e:List (Int×Int))(wt pa:Int)(al:Bool)(pr la co sp:Int): Prop:=
 wrW t g p e wt pa pr la co sp=false/\(w=0\/w=1)/\zcj ⟨(wrB t g p d e wt pa al pr la co sp).length,t,g,st,false⟩/\kM t g st (wrB t g p d e wt pa al pr la co sp)=(0,0)/\(⟨t,g,st,p,d,e,wt,pa,al,pr,la,co,sp⟩:Gm)=gm (rfM t g st (wrB t g p d e wt pa al pr la co sp))
theorem zfE(t g p:Int)(d:List UInt8)(e:List (Int×Int))(wt pa:Int)(al:Bool)(pr la co sp:Int)(hw:wrW t g p e wt pa pr la co sp=false): (wrB t g p d e wt pa al pr la co sp).length<=1000+d.length+6*e.length:=by
 have hn:=zfD t g e wt pa al pr la co sp
 obtain⟨hc,_⟩:=zg8 t g p e wt pa pr la co sp hw
 have h5:=zdO p
 unfold wrB eB
 rcases hc with⟨h8,hp⟩|h8
 ·obtain ⟨hp0, hp1⟩ := zdN (by decide) (by decide) hp
  have ht1:p<=255:=hp1
  rw[if_pos h8]
  simp only[List.length_append,List.length_replicate,List.length_nil]
  omega
 ·rw [if_neg (by rw [h8]; simp)]
  simp only[List.length_append,List.length_nil]
  omega
theorem zoy(t g st p:Int)(fd:Bool)(d:List UInt8)(fs:Bool)(e:List (Int×Int))(wt pa:Int)(al:Bool)(pr la co sp:Int)(w:Int)(hd:d.length<=900000)(hl:e.length<=10000)(hg1:g<=9223372036854775807)(hem:zkG w t g st p d e wt pa al pr la co sp): AEq Tryz.prog 38 [.ag [i64 t,i64 g,i64 st,i64 p,.sl fd false (d.map zk),.sl fs false (e.map z7),i64 wt,i64 pa,bl al,i64 pr,i64 la,i64 co,i64 sp],i64 w] [] (.tu [.ag [i64 w,i64 t,i64 g,i64 st,bl false,.sl false false ((wrB t g p d e wt pa al pr la co sp).map zk)],i64 0]) []:=by
 obtain⟨hw,hww,hok,hf,he⟩:=hem
 have hwl:=zfE t g p d e wt pa al pr la co sp hw
 generalize hB:(wrB t g p d e wt pa al pr la co sp)=B at hok hf he hwl ⊢
 have hz:=(zbX hf).1
 obtain⟨hz1,hz2⟩:=zdM t g st B
 have hz3:(yK t g st B).1.d.length<=1000000000:=by omega
 have hz4:(yK t g st B).1.st.length<=1000000:=by omega
 have hsm:decide ((⟨t,g,st,p,d,e,wt,pa,al,pr,la,co,sp⟩:Gm)=(⟨((yK t g st B).1).t,((yK t g st B).1).g,((yK t g st B).1).s,((yK t g st B).1).p,((yK t g st B).1).d,((yK t g st B).1).st,((yK t g st B).1).wt,((yK t g st B).1).pa,((yK t g st B).1).al,((yK t g st B).1).pr,((yK t g st B).1).la,((yK t g st B).1).co,((yK t g st B).1).sp⟩:Gm))=true:=decide_eq_true (he.trans (zbX hf).2.symm)
 rcases hww with rfl|rfl
 all_goals(refine enT Tryz.func38 Tryz.ntmps38 ?_)
 all_goals(have hU:=And.intro @hB ( And.intro @hz (@hsm)))
 all_goals(repeat'(first|refine goR ?_|refine zd fun K hK=>?_|refine zc ?_ ?_<;>intro hcd<;>(try simp only[hcP]at hcd)<;>try exact cdT|(guard_target =~ SOp _ _ ⟨_,.binOp _ _ _ _ _,_,_,_,some _⟩ _ _ _;refine zS (ne:=true) rfl (by first|exact k8|exact ky|exact k9|exact ki|fail) (hc:=rfl) (hK:=?_))|refine y1M ?_|refine y1N ?_|(guard_target =~ SOp _ _ ⟨_,.binOp _ _ _ _ _,_,_,_,none⟩ _ _ _;refine zS (ne:=true) rfl (by first|exact k8|exact ky|exact k9|exact ki|fail) (hc:=rfl) (hK:=?_))|refine y19 ?_|((refine zX [] exT (by rfl) (by rw[Tryz.results38];exact Lf.vF roT roT) sT sT (zF ?_ ?_) ?_)<;>(try exact uT))|refine hK _ _ ?_;clear hK K))
theorem zoz(t g st p:Int)(fd:Bool)(d:List UInt8)(fs:Bool)(e:List (Int×Int))(wt pa:Int)(al:Bool)(pr la co sp:Int)(w:Int)(hd:d.length<=900000)(hl:e.length<=10000)(hg1:g<=9223372036854775807)(hem:¬zkG w t g st p d e wt pa al pr la co sp): AEq Tryz.prog 38 [.ag [i64 t,i64 g,i64 st,i64 p,.sl fd false (d.map zk),.sl fs false (e.map z7),i64 wt,i64 pa,bl al,i64 pr,i64 la,i64 co,i64 sp],i64 w] [] (.tu [.ag [i64 0,i64 0,i64 0,i64 0,bl false,.sl true false []],i64 1]) []:=by
 cases hw:wrW t g p e wt pa pr la co sp with
 | true=>
  refine enT Tryz.func38 Tryz.ntmps38 ?_
  have hU:=True.intro
  repeat'(first|refine goR ?_|refine zd fun K hK=>?_|refine zc ?_ ?_<;>intro hcd<;>(try simp only[hcP]at hcd)<;>try exact cdT|(refine zj (f:=82) rfl Tryz.call82 (h:=AEq.pure' agT (zyN _ _ _ _ _ _ _ _ _ _ _ _ _ _ _ _ aoT aoT aoT aoT) (hq:=?_)))|((refine zX [] exT (by rfl) (by rw[Tryz.results38];exact Lf.vF roT roT) sT sT (zF ?_ ?_) ?_)<;>(try exact uT))|refine hK _ _ ?_;clear hK K)
 | false=>
  have hwl:=zfE t g p d e wt pa al pr la co sp hw
  unfold zkG at hem
  generalize hB:(wrB t g p d e wt pa al pr la co sp)=B at hem hwl
  by_cases hww:w=0\/w=1
  ·by_cases hok:zcj ⟨B.length,t,g,st,false⟩
   ·obtain⟨hz1,hz2⟩:=zdM t g st B
    have hz3:(yK t g st B).1.d.length<=1000000000:=by omega
    have hz4:(yK t g st B).1.st.length<=1000000:=by omega
    by_cases hf:kM t g st B=(0,0)
    ·have hz:=(zbX hf).1
     have hsm:decide ((⟨t,g,st,p,d,e,wt,pa,al,pr,la,co,sp⟩:Gm)=(⟨((yK t g st B).1).t,((yK t g st B).1).g,((yK t g st B).1).s,((yK t g st B).1).p,((yK t g st B).1).d,((yK t g st B).1).st,((yK t g st B).1).wt,((yK t g st B).1).pa,((yK t g st B).1).al,((yK t g st B).1).pr,((yK t g st B).1).la,((yK t g st B).1).co,((yK t g st B).1).sp⟩:Gm))=false:=decide_eq_false (fun h=>hem ⟨hw,hww,hok,hf,(show _=gm (yK t g st B).1 from h).trans (zbX hf).2⟩)
     rcases hww with rfl|rfl
     all_goals(refine enT Tryz.func38 Tryz.ntmps38 ?_)
     all_goals(have hU:=And.intro @hB ( And.intro @hz (@hsm)))
     all_goals(repeat'(first|refine goR ?_|refine zd fun K hK=>?_|refine zc ?_ ?_<;>intro hcd<;>(try simp only[hcP]at hcd)<;>try exact cdT|(guard_target =~ SOp _ _ ⟨_,.binOp _ _ _ _ _,_,_,_,some _⟩ _ _ _;refine zS (ne:=true) rfl (by first|exact k8|exact ky|exact k9|exact ki|fail) (hc:=rfl) (hK:=?_))|refine y1M ?_|refine y1N ?_|(guard_target =~ SOp _ _ ⟨_,.binOp _ _ _ _ _,_,_,_,none⟩ _ _ _;refine zS (ne:=true) rfl (by first|exact k8|exact ky|exact k9|exact ki|fail) (hc:=rfl) (hK:=?_))|refine y19 ?_|((refine zX [] exT (by rfl) (by rw[Tryz.results38];exact Lf.vF roT roT) sT sT (zF ?_ ?_) ?_)<;>(try exact uT))|refine hK _ _ ?_;clear hK K))
    ·have hz:=(zq5 t g st B).1
     have hn1:¬(kM t g st B).1=0:=fun h=>hf (zq4 h)
     rcases hww with rfl|rfl
     all_goals(refine enT Tryz.func38 Tryz.ntmps38 ?_)
     all_goals(have hU:=And.intro @hB (@hz))
     all_goals(repeat'(first|refine goR ?_|refine zd fun K hK=>?_|refine zc ?_ ?_<;>intro hcd<;>(try simp only[hcP]at hcd)<;>try exact cdT|(guard_target =~ rg _ _ _ (⟨_,_,_,_,_,some _⟩::_) _ _ _;(first|refine zP gT (fun hcd=>?_) (fun hcd=>?_)|refine zK gT (fun hcd=>?_) (fun hcd=>?_))<;>(try simp only[hcd])<;>(try(simp only[Bool.not_eq_true',Bool.not_eq_false']at hcd;try simp only[hcd]))<;>(refine kC (Γ2:=_) ewT ?_)<;>(try simp only[hcP]at hcd)<;>(try exact cdT))|(guard_target =~ SOp _ _ ⟨_,.binOp _ _ _ _ _,_,_,_,some _⟩ _ _ _;refine zS (ne:=true) rfl (by first|exact k8|exact ky|exact k9|exact ki|fail) (hc:=rfl) (hK:=?_))|refine y1N ?_|(guard_target =~ SOp _ _ ⟨_,.binOp _ _ _ _ _,_,_,_,none⟩ _ _ _;refine zS (ne:=true) rfl (by first|exact k8|exact ky|exact k9|exact ki|fail) (hc:=rfl) (hK:=?_))|refine y19 ?_|((refine zX [] exT (by rfl) (by rw[Tryz.results38];exact Lf.vF roT roT) sT sT (zF ?_ ?_) ?_)<;>(try exact uT))|refine hK _ _ ?_;clear hK K))
   ·rcases hww with rfl | rfl
    all_goals(refine enT Tryz.func38 Tryz.ntmps38 ?_)
    all_goals(have hU:=@hB)
    all_goals(repeat'(first|refine goR ?_|refine zd fun K hK=>?_|refine zc ?_ ?_<;>intro hcd<;>(try simp only[hcP]at hcd)<;>try exact cdT|(refine zj (f:=18) rfl Tryz.call18 (h:=AEq.pure' agT (zav _ _ _ _ _ _ _ aoT aoT) (hq:=?_)))|refine y19 ?_|((refine zX [] exT (by rfl) (by rw[Tryz.results38];exact Lf.vF roT roT) sT sT (zF ?_ ?_) ?_)<;>(try exact uT))|refine hK _ _ ?_;clear hK K))
  ·have hn0 : ¬ w = 0 := fun h => hww (.inl h)
   have hn1:¬w=1:=fun h=>hww (.inr h)
   refine enT Tryz.func38 Tryz.ntmps38 ?_
   have hU:=@hB
   repeat'(first|refine goR ?_|refine zd fun K hK=>?_|refine zc ?_ ?_<;>intro hcd<;>(try simp only[hcP]at hcd)<;>try exact cdT|refine y19 ?_|((refine zX [] exT (by rfl) (by rw[Tryz.results38];exact Lf.vF roT roT) sT sT (zF ?_ ?_) ?_)<;>(try exact uT))|refine hK _ _ ?_;clear hK K)
/-! What is written is read again. -/
structure Can(t g s p:Int)(d:List UInt8)(e:List (Int×Int))(wt pa:Int)(al:Bool)(pr la co sp:Int): Prop where
 g0:0<=g
 g1:g<256
 st:zaU t s=true
 pad:(z6 t g 8=true/\0<=p/\p<=255)\/(z6 t g 8=false/\p = -1)
 de:(t=4/\d=[]/\spE e=0)\/(¬t=4/\e=[])
 wg:(((t=1/\z6 1 g 32=true)\/t=2)/\(0<=pa/\pa<2147483648)/\(0<=wt/\wt<=255))\/(¬((t=1/\z6 1 g 32=true)\/t=2)/\pa=0/\wt=0/\al=false)
 hpr:(t=5/\0<=pr/\pr<2147483648)\/(¬t=5/\pr=0)
 hla:(t=7/\0<=la/\la<2147483648)\/(¬t=7/\la=0)
 hco:((t=3\/t=7)/\0<=co/\co<=4294967295)\/(¬(t=3\/t=7)/\co=0)
 hsp:(t=8/\0<=sp/\sp<2147483648)\/(¬t=8/\sp=0)
end Go.Proofs.YtdalcgfnlbofdaaGreatDoor
