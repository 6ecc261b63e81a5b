import Derived.Test.YtdalcgfnlbofdaaGreatDoorZ20
set_option linter.unusedVariables false
set_option linter.unusedSimpArgs false
namespace Go.Proofs.YtdalcgfnlbofdaaGreatDoor
open Go Go.Lf Go.Proofs
attribute [local irreducible] Lf.rg Lf.ro Lf.PWp Lf.SOp Lf.ACall Lf.Scoped Lf.dg Lf.dw
set_option maxRecDepth 20000
set_option maxHeartbeats 4000000
section
attribute [local irreducible] wt zC keptL flN addX v6 dAt xsE zv1 zub
end
section
@[go_sem] def blA(b:List UInt8): List AV:=[.sl false false (b.map zk)]
attribute [local irreducible] wt zC xsE
theorem zkm(m:Int)(h:0<=m)(h2:m<=2147483647): AEq Tryz.prog 58 [i64 m] [] (.tu [.ptr 2 0,i64 0]) [.box [.row 1 0,i64 (zC xsE),i64 m],.row 0 103 3 (xsE.map flA),.box [.ptr 0 0]]:=by
 refine enT Tryz.func58 Tryz.ntmps58 ?_
 have hU:=True.intro
 repeat'(first|refine goR ?_|refine zd fun K hK=>?_|refine zc ?_ ?_<;>intro hcd<;>(try simp only[hcP]at hcd)<;>try exact cdT|(refine zj (f:=101) rfl Tryz.call101 (h:=AEq.sub' [] (hc:=zjL _ (by assumption) (by assumption)) (hq:=?_)))|((refine zo [0,1,2] (by rw[Tryz.results58,Lf.ym]) (zF ?_ ?_) ?_)<;>(try exact uT))|refine hK _ _ ?_;clear hK K)
end
/-! the static table's equal names stand side by side -/
theorem zqP: ∀i j:Fin 62,1<=j.val->j.val<i.val->(v6 (i.val:Int)).1=(v6 (j.val:Int)).1->(v6 ((i.val-1:Nat):Int)).1=(v6 (i.val:Int)).1:=by decide +kernel
def stN(s:ByteArray): Int:=vi (zhW s) 61
theorem zgT(s:ByteArray): IsFirst (zhW s) (stN s) 1 61:=yL _ 61
theorem zuT(s:ByteArray): 0<=stN s/\stN s<=61:=by
 rcases zgT s with⟨h,_⟩|⟨h,h2,_⟩<;>omega
theorem zoj{s:ByteArray}{i:Int}(h1:1<=i)(h2:i<=61)(h:(v6 i).1=s): 1<=stN s/\stN s<=i/\(v6 (stN s)).1=s:=by
 rcases zgT s with⟨h0,hn⟩|⟨a1,a2,a3,a4⟩
 ·have:=hn i h1 h2
  simp[zhW,h]at this
 ·refine ⟨a1, ?_, by simpa [zhW] using a3⟩
  by_cases hc:i<stN s
  ·have:=a4 i h1 hc
   simp[zhW,h]at this
  ·omega
theorem zm1{s:ByteArray}{i:Int}(h1:1<=i)(h2:i<=61)(h:(v6 i).1=s)(h3:stN s≠i): 2<=i/\(v6 (i-1)).1=s:=by
 obtain⟨a,b,c⟩:=zoj h1 h2 h
 have key:=zqP ⟨i.toNat,by omega⟩ ⟨(stN s).toNat,by omega⟩ (by dsimp only;omega) (by dsimp only;omega)
 dsimp only at key
 rw[show((i.toNat:Nat):Int)=i from by omega,show(((stN s).toNat:Nat):Int)=stN s from by omega,show((i.toNat-1:Nat):Int)=i-1 from by omega]at key
 exact⟨by omega,by rw[key (by rw[h,c]),h]⟩
theorem zkn{s v:ByteArray}: (zdy s v=0/\stN s=0)\/(1<=zdy s v/\zdy s v<=61/\(v6 (zdy s v)).1=s):=by
 unfold zdy
 rcases yL (zaJ s v) 61 with⟨h,hn⟩|⟨a1,a2,a3,a4⟩
 ·rw [if_neg (by simp [h])]
  rcases zgT s with⟨h,hn⟩|⟨a1,a2,a3,a4⟩
  ·exact .inl ⟨h,h⟩
  ·exact .inr ⟨a1,a2,by show(v6 (stN s)).1=s;simpa[zhW]using a3⟩
 ·rw [if_pos (by omega)]
  refine .inr ⟨a1,a2,?_⟩
  have:(v6 (vi (zaJ s v) 61)).1=s/\(v6 (vi (zaJ s v) 61)).2=v:=by simpa[zaJ]using a3
  exact this.1
def plI(R:List Fl)(n v:ByteArray): Int:=if zlq n v=true then zdy n v else if fnB R n v=true then 61+fnI R n v else if zdy n v=0/\0<fnI R n v then 61+fnI R n v else zdy n v
def plB(R:List Fl)(n v:ByteArray): Bool:=zlq n v || fnB R n v
def nmI(R:List Fl)(s:ByteArray): Int:=if stN s≠0 then stN s else if vD s R 1≠0 then 61+vD s R 1 else 0
theorem zuU(xs:List Fl)(s:Nat)(z m:Int)(n v:ByteArray)(k:Bool)(h:xs.length<=100000): AEq Tryz.prog 201 [.ptr 0 0,.ag [.lit (.string n),.lit (.string v),bl k]] [.box [.row 1 s,i64 z,i64 m],.row s 103 3 (xs.map flA)] (.tu [i64 (plI xs.reverse n v),bl (plB xs.reverse n v)]) [.box [.row 1 s,i64 z,i64 m],.row s 103 3 (xs.map flA)]:=by
 have hrl:xs.reverse.length=xs.length:=List.length_reverse
 have hb1:=zgM n v
 have hb2:=zpS xs.reverse n v
 refine enT Tryz.func201 Tryz.ntmps201 ?_
 have hU:=True.intro
 repeat'(first|refine goR ?_|refine zd fun K hK=>?_|refine zc ?_ ?_<;>intro hcd<;>(try simp only[hcP]at hcd)<;>try exact cdT|refine y1H ?_|(refine zj (f:=226) rfl Tryz.call226 (h:=AEq.sub' [_,_] (hc:=zuy _ _ _ _ _ _ (by assumption)) (hq:=?_)))|((refine zo [0,1] (by rw[Tryz.results201,Lf.ym]) (zF ?_ ?_) ?_)<;>(try exact uT))|refine hK _ _ ?_;clear hK K)
 all_goals first|exact yV (by unfold plI;grind)|exact zJ (by unfold plB;grind)|trace_state
theorem zok(i:Int)(h:1<=i/\i<=61): AEq Tryz.prog 227 [i64 i] [] (.lit (.string (v6 i).1)) []:=by
 refine enT Tryz.func227 Tryz.ntmps227 ?_
 have hU:=True.intro
 repeat'(first|refine goR ?_|refine zd fun K hK=>?_|(refine zj (f:=234) rfl Tryz.call234 (h:=AEq.pure' agT (zax _ (by assumption)) (hq:=?_)))|((refine zo [] (by rw[Tryz.results227,Lf.zI]) (zw ?_) ?_)<;>(try exact uT))|refine hK _ _ ?_;clear hK K)
def kdI(k:Bool)(w:Int): Int:=if k=true then 4 else if w=2 then 3 else 2
structure Op4 where
 (w:Int) (nn sn sv:Bool)
@[go_sem] def opA(o:Op4): List AV:=[i64 o.w,bl o.nn,bl o.sn,bl o.sv]
theorem zyu(n v:ByteArray)(k:Bool)(w:Int)(nn sn sv:Bool): AEq Tryz.prog 202 [.ag [.lit (.string n),.lit (.string v),bl k],.ag [i64 w,bl nn,bl sn,bl sv]] [] (i64 (kdI k w)) []:=by
 refine enT Tryz.func202 Tryz.ntmps202 ?_
 have hU:=True.intro
 repeat'(first|refine goR ?_|refine zd fun K hK=>?_|refine zc ?_ ?_<;>intro hcd<;>(try simp only[hcP]at hcd)<;>try exact cdT|((refine zo [] (by rw[Tryz.results202,Lf.zI]) (zw ?_) ?_)<;>(try exact uT))|refine hK _ _ ?_;clear hK K)
 all_goals first|exact yV (by unfold kdI;grind)|trace_state
def zqQ(n:Int): Bool:=decide (n<0\/2147483647<n)
theorem zol(n:Int): AEq Tryz.prog 173 [i64 n] [] (bl (zqQ n)) []:=by
 refine enT Tryz.func173 Tryz.ntmps173 ?_
 have hU:=True.intro
 repeat'(first|refine goR ?_|refine zd fun K hK=>?_|((refine zo [] (by rw[Tryz.results173,Lf.zI]) (zw ?_) ?_)<;>(try exact uT))|refine hK _ _ ?_;clear hK K)
 all_goals first|exact zJ (by unfold zqQ;grind)|trace_state
def zm2: List Int->Int->Int
 | [],_=>-1
 | x::l,i=>if zqQ x=true then i else zm2 l (i+1)
def zaV: List Int->Bool
 | []=>false
 | x::l=>if zqQ x=true then true else zaV l
theorem zgU: ∀(l:List Int) (i:Int),0<=i->zaV l=decide (0<=zm2 l i)
 | [],i,h=>by simp[zaV,zm2]
 | x::l,i,h=>by
  unfold zaV zm2
  by_cases hx:zqQ x=true
  ·rw[if_pos hx,if_pos hx];simp[h]
  ·rw[if_neg hx,if_neg hx];exact zgU l (i+1) (by omega)
theorem zbW: ∀{l:List Int},zaV l=false->∀x∈l,0<=x/\x<=2147483647
 | [],_,x,h=>by simp at h
 | y::l,h,x,hx=>by
  unfold zaV at h
  split at h
  ·cases h
  ·rename_i hy
   rcases List.mem_cons.1 hx with rfl|hx
   ·simp[zqQ]at hy;omega
   ·exact zbW h x hx
theorem zED(f q:Bool)(l:List Int)(h:l.length<=9223372036854775807): AEq Tryz.prog 195 [.sl f q (l.map yz),.lit (.func (.func 173) #[] #[])] [] (i64 (zm2 l 0)) []:=by
 refine enT Tryz.func195 Tryz.ntmps195 ?_
 have hU:=True.intro
 repeat'(first|refine goR ?_|refine zd fun K hK=>?_|refine hK _ _ ?_;clear hK K)
 refine zO [4,5,8,9,10,11,12,13,14,15,16,17,18] (fun i:Nat=>[(8,i64 i)]) (fun _=>[]) (fun i=>i<=l.length/\zm2 l 0=zm2 (l.drop i) i) (fun i=>l.length-i) 0 ⟨Nat.zero_le _,rfl⟩ ?_ rfl ?_
 ·(refine⟨⟨_,sT,?_⟩,trivial⟩<;>(try exact zu))
 ·rintro i ⟨hi,hk⟩
  simp only[yN,List.map_cons,List.map_nil,List.cons_append,List.nil_append]
  by_cases hlt:i<l.length
  ·obtain⟨d,hd⟩:=yv hlt
   rw[vU hd,zm2]at hk
   cases h1:zqQ d with
   | true=>
    rw[if_pos h1]at hk
    have hU:=@h1
    repeat'(first|refine goR ?_|refine zd fun K hK=>?_|refine zc ?_ ?_<;>intro hcd<;>(try simp only[hcP]at hcd)<;>try exact cdT|(refine zjg (f:=173) rfl bT Tryz.call173 sT (AEq.pure' agT (zol _) bT sT ?_))|((refine zo [] (by rw[Tryz.results195,Lf.zI]) (zw ?_) ?_)<;>(try exact uT))|refine hK _ _ ?_;clear hK K)
    all_goals exact yV hk.symm
   | false=>
    rw[if_neg (by simp[h1])]at hk
    have hU:=@h1
    repeat'(first|refine goR ?_|refine zd fun K hK=>?_|refine zc ?_ ?_<;>intro hcd<;>(try simp only[hcP]at hcd)<;>try exact cdT|(refine zjg (f:=173) rfl bT Tryz.call173 sT (AEq.pure' agT (zol _) bT sT ?_))|refine hK _ _ ?_;clear hK K)
    refine⟨i+1,⟨by omega,hk⟩,by omega,?_,arT,srT⟩
    (refine⟨⟨_,sT,?_⟩,trivial⟩<;>(try exact zu))
  ·have he : zm2 l 0 = -1 := by rw [hk, List.drop_eq_nil_of_le (by omega)]; rfl
   repeat'(first|refine goR ?_|refine zd fun K hK=>?_|refine zc ?_ ?_<;>intro hcd<;>(try simp only[hcP]at hcd)<;>try exact cdT|((refine zo [] (by rw[Tryz.results195,Lf.zI]) (zw ?_) ?_)<;>(try exact uT))|refine hK _ _ ?_;clear hK K|(apply_assumption (exfalso:=false) (symm:=false)))
   all_goals exact yV he.symm
theorem zuV(f q:Bool)(l:List Int)(h:l.length<=9223372036854775807): AEq Tryz.prog 172 [.sl f q (l.map yz),.lit (.func (.func 173) #[] #[])] [] (bl (zaV l)) []:=by
 have he:=zgU l 0 (by decide)
 refine enT Tryz.func172 Tryz.ntmps172 ?_
 have hU:=@he
 repeat'(first|refine goR ?_|refine zd fun K hK=>?_|(refine zj (f:=195) rfl Tryz.call195 (h:=AEq.pure' agT (zED _ _ _ (by assumption)) (hq:=?_)))|((refine zo [] (by rw[Tryz.results172,Lf.zI]) (zw ?_) ?_)<;>(try exact uT))|refine hK _ _ ?_;clear hK K)
 all_goals exact zJ (by rw[<-he])
theorem zuW{R:List Fl}{s:ByteArray}{i:Int}(h:stN s=i)(h0:1<=i): nmI R s=i:=by
 unfold nmI;rw[if_pos (by omega),h]
theorem zuX{R:List Fl}{s:ByteArray}{i:Int}(h:stN s=0)(h2:vD s R 1=i)(h0:1<=i): nmI R s=61+i:=by
 unfold nmI;rw[if_neg (by omega),h2,if_pos (by omega)]
theorem zuY{R:List Fl}{s:ByteArray}(h:stN s=0)(h2:vD s R 1=0): nmI R s=0:=by
 unfold nmI;rw[if_neg (by omega),if_neg (by omega)]
theorem zyv(xs:List Fl)(s:Nat)(z m:Int)(n:ByteArray)(h:xs.length<=100000): AEq Tryz.prog 203 [.ptr 0 0,.lit (.string n)] [.box [.row 1 s,i64 z,i64 m],.row s 103 3 (xs.map flA)] (i64 (nmI xs.reverse n)) [.box [.row 1 s,i64 z,i64 m],.row s 103 3 (xs.map flA)]:=by
 have hrl:xs.reverse.length=xs.length:=List.length_reverse
 have hsb:=zgM n ⟨#[]⟩
 rcases zkn (s:=n) (v:=⟨#[]⟩)with⟨h0,hs0⟩|⟨h1,h2,h3⟩
 ·refine enT Tryz.func203 Tryz.ntmps203 ?_
  have hU:=True.intro
  repeat'(first|refine goR ?_|refine zd fun K hK=>?_|refine zc ?_ ?_<;>intro hcd<;>(try simp only[hcP]at hcd)<;>try exact cdT|refine y1H ?_|refine hK _ _ ?_;clear hK K)
  refine vZ [4,7,8,9,29,30,31,32,33,34,35,36,37,38,39,40,41,42,43,44,45,46] [0,1] (fun c:Nat=>[(7,i64 (c+1))]) (fun _=>[.box [.row 1 s,i64 z,i64 m],.row s 103 3 (xs.map flA)]) (fun c=>c<=xs.length/\vD n xs.reverse 1=vD n (xs.reverse.drop c) (c+1)) (fun c=>xs.length-c) 0 (fun _=>rfl) rfl rfl ⟨Nat.zero_le _,rfl⟩ ?_ rfl (by intro s i x h;simp only[List.mem_cons,Prod.mk.injEq,List.not_mem_nil,or_false]at h;rcases h with⟨rfl,_⟩<;>decide) ?_
  ·(refine⟨⟨_,sT,?_⟩,trivial⟩<;>(try exact zu))
  ·rintro c ⟨h1,h4⟩
   simp only[yN,List.map_cons,List.map_nil,List.cons_append,List.nil_append]
   by_cases hlt:c<xs.length
   ·obtain ⟨x, hx⟩ := yv (l := xs.reverse) (i := c) (by omega)
    have hxi:xs.reverse[((c:Int)+1).toNat-1]?=some x:=by rw[show((c:Int)+1).toNat-1=c from by omega];exact hx
    rw[vU hx,vD]at h4
    by_cases hn:x.n=n
    ·rw[if_pos hn]at h4
     have hr:=zuX hs0 h4 (by omega)
     have hU:=@hn
     repeat'(first|refine goR ?_|refine zd fun K hK=>?_|refine zc ?_ ?_<;>intro hcd<;>(try simp only[hcP]at hcd)<;>try exact cdT|refine yq ?_|refine y13 ?_|((refine zo [0,1] (by rw[Tryz.results203,Lf.zI]) (zw ?_) ?_)<;>(try exact uT))|refine hK _ _ ?_;clear hK K)
     all_goals first|exact yV (by rw[hr])|trace_state
    ·rw[if_neg hn]at h4
     have hU:=@hn
     repeat'(first|refine goR ?_|refine zd fun K hK=>?_|refine zc ?_ ?_<;>intro hcd<;>(try simp only[hcP]at hcd)<;>try exact cdT|refine yq ?_|refine y13 ?_|refine hK _ _ ?_;clear hK K)
     refine⟨c+1,⟨by omega,h4⟩,by omega,?_,arT,srT⟩
     (refine⟨⟨_,sT,?_⟩,trivial⟩<;>(try exact zu))
   ·obtain rfl : c = xs.length := by omega
    have h6:xs.reverse.drop xs.length=[]:=by rw[List.drop_eq_nil_of_le (by omega)]
    rw[h6,vD]at h4
    have hr:=zuY hs0 h4
    repeat'(first|refine goR ?_|refine zd fun K hK=>?_|refine zc ?_ ?_<;>intro hcd<;>(try simp only[hcP]at hcd)<;>try exact cdT|refine yq ?_|((refine zo [0,1] (by rw[Tryz.results203,Lf.zI]) (zw ?_) ?_)<;>(try exact uT))|refine hK _ _ ?_;clear hK K|(apply_assumption (exfalso:=false) (symm:=false)))
    all_goals first|exact yV hr.symm|trace_state
 ·refine enT Tryz.func203 Tryz.ntmps203 ?_
  have hU:=True.intro
  repeat'(first|refine goR ?_|refine zd fun K hK=>?_|refine zc ?_ ?_<;>intro hcd<;>(try simp only[hcP]at hcd)<;>try exact cdT|refine y1H ?_|refine hK _ _ ?_;clear hK K)
  refine vZ [5,17,18,19,20,21,22,23,24,25,26,27] [0,1] (fun i:Int=>[(5,i64 i)]) (fun _=>[.box [.row 1 s,i64 z,i64 m],.row s 103 3 (xs.map flA)]) (fun i=>1<=i/\i<=61/\(v6 i).1=n) (fun i=>i.toNat) (zdy n ⟨#[]⟩) (fun _=>rfl) rfl rfl ⟨h1,h2,h3⟩ ?_ rfl (by intro s i x h;simp only[List.mem_cons,Prod.mk.injEq,List.not_mem_nil,or_false]at h;rcases h with⟨rfl,_⟩<;>decide) ?_
  ·(refine⟨⟨_,sT,?_⟩,trivial⟩<;>(try exact zu))
  ·rintro i ⟨hi1,hi2,hi3⟩
   simp only[yN,List.map_cons,List.map_nil,List.cons_append,List.nil_append]
   by_cases hst:stN n=i
   ·have hr:=zuW (R:=xs.reverse) hst hi1
    by_cases hg:1<i
    ·have hne : (v6 (i - 1)).1 ≠ n := fun e => by have := zoj (i := i - 1) (by omega) (by omega) e; omega
     have hU:=@hne
     repeat'(first|refine goR ?_|refine zd fun K hK=>?_|refine zc ?_ ?_<;>intro hcd<;>(try simp only[hcP]at hcd)<;>try exact cdT|(guard_target =~ rg _ _ _ (⟨_,_,_,_,_,some _⟩::_) _ _ _;(first|refine zP gT (fun hcd=>?_) (fun hcd=>?_)|refine zK gT (fun hcd=>?_) (fun hcd=>?_))<;>(try simp only[hcd])<;>(try(simp only[Bool.not_eq_true',Bool.not_eq_false']at hcd;try simp only[hcd]))<;>(refine kC (Γ2:=_) ewT ?_)<;>(try simp only[hcP]at hcd)<;>(try exact cdT))|(refine zj (f:=227) rfl Tryz.call227 (h:=AEq.pure' agT (zok _ (by omega)) (hq:=?_)))|((refine zo [0,1] (by rw[Tryz.results203,Lf.zI]) (zw ?_) ?_)<;>(try exact uT))|refine hK _ _ ?_;clear hK K|(apply_assumption (exfalso:=false) (symm:=false)))
     all_goals first|exact yV hr.symm|trace_state
    ·repeat' (first | (refine goR ?_) | (refine zd (fun K hK => ?_)) | ((refine zc (fun hcd => ?_) (fun hcd => ?_)) <;> (try simp only [hcP] at hcd) <;> (try exact cdT)) | (guard_target =~ rg _ _ _ (⟨_, _, _, _, _, some _⟩ :: _) _ _ _; (first | refine zP gT (fun hcd => ?_) (fun hcd => ?_) | refine zK gT (fun hcd => ?_) (fun hcd => ?_)) <;> (try simp only [hcd]) <;> (try (simp only [Bool.not_eq_true', Bool.not_eq_false'] at hcd; try simp only [hcd])) <;> (refine kC (Γ2 := _) ewT ?_) <;> (try simp only [hcP] at hcd) <;> (try exact cdT)) | ((refine zo [0, 1] (by rw [Tryz.results203, Lf.zI]) (zw ?_) ?_) <;> (try (first | exact zu | exact stT))) | (refine hK _ _ ?_; clear hK K) | (apply_assumption (exfalso := false) (symm := false)))
     all_goals first|exact yV hr.symm|trace_state
   ·obtain⟨hi4,hi5⟩:=zm1 hi1 hi2 hi3 hst
    have hU:=@hi5
    repeat'(first|refine goR ?_|refine zd fun K hK=>?_|refine zc ?_ ?_<;>intro hcd<;>(try simp only[hcP]at hcd)<;>try exact cdT|(guard_target =~ rg _ _ _ (⟨_,_,_,_,_,some _⟩::_) _ _ _;(first|refine zP gT (fun hcd=>?_) (fun hcd=>?_)|refine zK gT (fun hcd=>?_) (fun hcd=>?_))<;>(try simp only[hcd])<;>(try(simp only[Bool.not_eq_true',Bool.not_eq_false']at hcd;try simp only[hcd]))<;>(refine kC (Γ2:=_) ewT ?_)<;>(try simp only[hcP]at hcd)<;>(try exact cdT))|(refine zj (f:=227) rfl Tryz.call227 (h:=AEq.pure' agT (zok _ (by omega)) (hq:=?_)))|refine hK _ _ ?_;clear hK K|(dsimp only[Lf.yk,Lf.yJ]))
    refine⟨i-1,⟨by omega,by omega,hi5⟩,by omega,?_,arT,srT⟩
    (refine⟨⟨_,sT,?_⟩,trivial⟩<;>(try exact zu))
def zuZ(R:List Fl)(n v:ByteArray): Int:=if plB R n v=true then plI R n v else 0
structure Rw where
 (k i:Int) (nm:ByteArray) (ns:Bool) (vl:ByteArray) (vs:Bool)
def whl(R:List Fl)(n v:ByteArray)(k:Bool)(w:Int): Bool:=plB R n v && !k && decide (w≠1) && decide (w≠2)
def zaK(R:List Fl)(n v:ByteArray)(k:Bool)(w:Int)(nn sn sv:Bool): Rw:=if whl R n v k w=true then⟨1,plI R n v,⟨#[]⟩,false,⟨#[]⟩,false⟩else if nn=false/\nmI R n≠0 then⟨kdI k w,nmI R n,⟨#[]⟩,false,v,sv⟩else⟨kdI k w,0,n,sn,v,sv⟩
def zcI(t:DT)(n v:ByteArray)(k:Bool)(w:Int): DT:=if whl t.xs.reverse n v k w=true then t else if kdI k w=2 then zbU t ⟨n,v,k⟩else t
theorem zgV{R:List Fl}{n v:ByteArray}{k:Bool}{w:Int}{nn sn sv:Bool}(h:whl R n v k w=true): zaK R n v k w nn sn sv=⟨1,plI R n v,⟨#[]⟩,false,⟨#[]⟩,false⟩:=if_pos h
theorem zom{t:DT}{n v:ByteArray}{k:Bool}{w:Int}(h:whl t.xs.reverse n v k w=true): zcI t n v k w=t:=if_pos h
theorem zgW{R:List Fl}{n v:ByteArray}{k:Bool}{w:Int}{nn sn sv:Bool}{r:Rw}(h:whl R n v k w=false)(hr:zaK R n v k w nn sn sv=r): (nn=true/\r=⟨kdI k w,0,n,sn,v,sv⟩)\/(nn=false/\nmI R n=0/\r=⟨kdI k w,0,n,sn,v,sv⟩)\/(nn=false/\nmI R n≠0/\r=⟨kdI k w,nmI R n,⟨#[]⟩,false,v,sv⟩):=by
 unfold zaK at hr
 rw[if_neg (by simp[h])]at hr
 cases nn with
 | true=>rw[if_neg (by simp)]at hr;exact .inl ⟨rfl,hr.symm⟩
 | false=>
  by_cases h0:nmI R n=0
  ·rw[if_neg (by simp[h0])]at hr;exact .inr (.inl ⟨rfl,h0,hr.symm⟩)
  ·rw[if_pos ⟨rfl,h0⟩]at hr;exact .inr (.inr ⟨rfl,h0,hr.symm⟩)
theorem zu0{xs:List Fl}{s:Nat}{m:Int}{n v:ByteArray}{k:Bool}{w:Int}{t:DT}(h:whl xs.reverse n v k w=false)(ht:zcI ⟨xs,s,m⟩ n v k w=t): (kdI k w=2/\k=false/\wt ⟨n,v,k⟩<=m/\t=⟨addX xs m ⟨n,v,k⟩,s+2,m⟩)\/(kdI k w=2/\k=false/\m<wt ⟨n,v,k⟩/\t=⟨xsE,s+1,m⟩)\/(kdI k w≠2/\t=⟨xs,s,m⟩):=by
 unfold zcI at ht
 dsimp only at ht
 rw[if_neg (by simp[h])]at ht
 have hk:kdI k w=2->k=false:=by unfold kdI;cases k<;>simp
 by_cases h2:kdI k w=2
 ·rw[if_pos h2]at ht
  unfold zbU at ht
  dsimp only at ht
  split at ht
  ·exact .inl ⟨h2,hk h2,by assumption,ht.symm⟩
  ·exact .inr (.inl ⟨h2,hk h2,by omega,ht.symm⟩)
 ·rw[if_neg h2]at ht
  exact .inr (.inr ⟨h2,ht.symm⟩)
theorem zqR{R:List Fl}{n v:ByteArray}{k:Bool}{w:Int}(h:whl R n v k w=true): plB R n v=true/\k=false/\w≠1/\w≠2:=by
 unfold whl at h
 simp only[Bool.and_eq_true,Bool.not_eq_true',decide_eq_true_eq]at h
 exact⟨h.1.1.1,h.1.1.2,h.1.2,h.2⟩
theorem zyw{R:List Fl}{n v:ByteArray}{k:Bool}{w:Int}(h:whl R n v k w=false): ¬(((plB R n v=true/\k=false)/\¬w=1)/\¬w=2):=by
 rintro⟨⟨⟨a,b⟩,c⟩,d⟩
 simp[whl,a,b,c,d]at h
theorem zu1(R:List Fl)(s:ByteArray): 0<=nmI R s/\nmI R s<=61+R.length:=by
 have a:=zuT s
 have b:=zdf s R 1 (by decide)
 unfold nmI
 split
 ·omega
 ·split<;>omega
theorem zko{R:List Fl}{n v:ByteArray}(h:plB R n v=true): 1<=plI R n v:=by
 have hb1:=zgM n v
 have hb2:=zpS R n v
 unfold plB at h
 unfold plI
 by_cases h1:zlq n v=true
 ·rw[if_pos h1]
  unfold zlq at h1
  unfold zdy
  have:=of_decide_eq_true h1
  rw[if_pos this]
  rcases yL (zaJ n v) 61 with⟨h,_⟩|⟨h,_⟩
  ·exact absurd h this
  ·exact h
 ·rw[if_neg h1,if_pos (by simpa[h1]using h)];omega
theorem zyx{R:List Fl}{n v:ByteArray}(h:plB R n v=true): zuZ R n v=plI R n v/\0<plI R n v:=⟨if_pos h,zko h⟩
theorem zu2(R:List Fl)(n v:ByteArray): 0<=zuZ R n v/\zuZ R n v<=61+R.length:=by
 have hb1:=zgM n v
 have hb2:=zpS R n v
 unfold zuZ plI
 split
 ·split
  ·omega
  ·split
   ·omega
   ·split<;>omega
 ·omega
attribute [local irreducible] wt zC keptL flN addX v6 xsE zbU plB plI nmI zaK zcI zv1 zub zuZ
set_option maxRecDepth 20000 in
theorem zqS(xs:List Fl)(s:Nat)(m:Int)(n v:ByteArray)(k:Bool)(w:Int)(nn sn sv:Bool)(h:xs.length<=90000)(hw:whl xs.reverse n v k w=true): AEq Tryz.prog 176 [.ptr 0 0,.ag [.lit (.string n),.lit (.string v),bl k],.ag [i64 w,bl nn,bl sn,bl sv]] [.box [.row 1 s,i64 (zC xs),i64 m],.row s 103 3 (xs.map flA)] (.ag [i64 1,i64 (plI xs.reverse n v),.lit (.string ⟨#[]⟩),bl false,.lit (.string ⟨#[]⟩),bl false,i64 0]) [.box [.row 1 s,i64 (zC xs),i64 m],.row s 103 3 (xs.map flA)]:=by
 obtain⟨hp,rfl,h1,h2⟩:=zqR hw
 refine enT Tryz.func176 Tryz.ntmps176 ?_
 have hU:=@hp
 repeat'(first|refine goR ?_|refine zd fun K hK=>?_|refine zc ?_ ?_<;>intro hcd<;>(try simp only[hcP]at hcd)<;>try exact cdT|(refine zj (f:=201) rfl Tryz.call201 (h:=AEq.sub' [_,_] (hc:=zuU _ _ _ _ _ _ _ (by omega)) (hq:=?_)))|((refine zX [0,1] exT (by rfl) (by rw[Tryz.results176,Lf.zap];(try simp(disch:=omega)only[Lf.z3,go_sem,seval,↓reduceIte,hU]);rfl) sT sT (zw ?_) ?_)<;>(try exact uT))|refine hK _ _ ?_;clear hK K)
set_option maxRecDepth 20000 in
theorem zqT(xs:List Fl)(s:Nat)(m:Int)(n v:ByteArray)(k:Bool)(w:Int)(nn sn sv:Bool)(h:xs.length<=90000)(hS:zC xs<=2147483647)(hb:∀f∈xs,f.n.size<=1000000/\f.v.size<=1000000)(hm0:0<=m)(hm1:m<=2147483647)(h1:n.size<=1000000)(h2:v.size<=1000000)(hw:whl xs.reverse n v k w=false)(r:Rw)(t:DT)(hr:zaK xs.reverse n v k w nn sn sv=r)(ht:zcI ⟨xs,s,m⟩ n v k w=t): AEq Tryz.prog 176 [.ptr 0 0,.ag [.lit (.string n),.lit (.string v),bl k],.ag [i64 w,bl nn,bl sn,bl sv]] [.box [.row 1 s,i64 (zC xs),i64 m],.row s 103 3 (xs.map flA)] (.ag [i64 r.k,i64 r.i,.lit (.string r.nm),bl r.ns,.lit (.string r.vl),bl r.vs,i64 0]) [.box [.row 1 t.s,i64 (zC t.xs),i64 t.m],.row t.s 103 3 (t.xs.map flA)]:=by
 have hbig:∀f∈xs,f.n.size<=1000000000/\f.v.size<=1000000000:=fun f hf=>by have:=hb f hf;omega
 have hax:=zkb xs m ⟨n,v,k⟩
 have hno:=zyw hw
 rcases zgW hw hr with⟨rfl,rfl⟩|⟨rfl,hz,rfl⟩|⟨rfl,hz,rfl⟩
 all_goals rcases zu0 hw ht with⟨hk,hkf,hwt,rfl⟩|⟨hk,hkf,hwt,rfl⟩|⟨hk,rfl⟩
 all_goals clear hr ht
 all_goals dsimp only
 all_goals(refine enT Tryz.func176 Tryz.ntmps176 ?_)
 all_goals(have hU:=@hax)
 all_goals(repeat'(first|refine goR ?_|(guard_target =~ PWp _ _ _ _ _ _ _;refine zv (id:=4) [9,0,1,2,3,4,5,6,7,8,10] [9,10] mixed (by kernel_rfl) (by kernel_rfl) ?_)|refine zd fun K hK=>?_|refine zc ?_ ?_<;>intro hcd<;>(try simp only[hcP]at hcd)<;>try exact cdT|(refine zj (f:=204) rfl Tryz.call204 (h:=AEq.sub' [_,_] (hc:=zcH _ _ _ _ _ _ aoT aoT aoT aoT aoT aoT aoT) (hq:=?_)))|(refine zj (f:=204) rfl Tryz.call204 (h:=AEq.sub' [_,_] (hc:=zjN _ _ _ _ _ _ aoT aoT aoT aoT aoT aoT aoT) (hq:=?_)))|(refine zj (f:=201) rfl Tryz.call201 (h:=AEq.sub' [_,_] (hc:=zuU _ _ _ _ _ _ _ aoT) (hq:=?_)))|(refine zj (f:=203) rfl Tryz.call203 (h:=AEq.sub' [_,_] (hc:=zyv _ _ _ _ _ aoT) (hq:=?_)))|((refine zX [0,1] exT (by rfl) (by rw[Tryz.results176,Lf.zap];(try simp(disch:=omega)only[Lf.z3,go_sem,seval,↓reduceIte,hU]);rfl) sT sT (zw ?_) ?_)<;>(try exact uT))|(guard_target =~ dw _ _ _ _ _ _ _ _ _ _;first|(guard_target =~ dw _ _ _ _ _ (2::_) _ _ _ _;(refine vp rfl rfl (h:=(fun τ=>zH (h:=zj (f:=202) rfl Tryz.call202 (h:=AEq.pure' agT (zyu _ _ _ _ _ _ _) (hq:=zl ⟨rfl,rfl⟩))))) (hk:=?_)))|((first|guard_target =~ dw _ _ _ _ _ (7::_) _ _ _ _|guard_target =~ dw _ _ _ _ _ (8::_) _ _ _ _);(refine vp rfl rfl (h:=(fun τ=>zH (h:=vM rfl (by first|exact zby|exact zpw|exact zfb|exact zpA|exact zpC|fail) (hK:=zl ⟨rfl,rfl⟩)))) (hk:=?_)))|(guard_target =~ dw _ _ _ _ _ (9::_) _ _ _ _;(refine yn rfl rfl (h:=zH (h:=zbw rfl (by first|exact zv3|exact zv4|exact zv9|exact zwY|exact ziQ|exact zpv|exact zpx|exact zpy|exact zpz|exact zpB|fail) (hK:=zl ⟨rfl,rfl⟩))) (hk:=?_)))|(guard_target =~ dw _ _ _ _ _ (10::_) _ _ _ _;(refine vg rfl rfl (h:=zaj (h:=zW rfl (hK:=zl ⟨rfl,rfl⟩))) (hk:=?_))))|refine hK _ _ ?_;clear hK K))
 all_goals first|exact yo (by rw[hz])|trace_state
theorem zon(xs:List Fl)(s:Nat)(m:Int)(n v:ByteArray)(k:Bool)(w:Int)(nn sn sv:Bool)(h:xs.length<=90000)(hS:zC xs<=2147483647)(hb:∀f∈xs,f.n.size<=1000000/\f.v.size<=1000000)(hm0:0<=m)(hm1:m<=2147483647)(h1:n.size<=1000000)(h2:v.size<=1000000)(r:Rw)(t:DT)(hr:zaK xs.reverse n v k w nn sn sv=r)(ht:zcI ⟨xs,s,m⟩ n v k w=t): AEq Tryz.prog 176 [.ptr 0 0,.ag [.lit (.string n),.lit (.string v),bl k],.ag [i64 w,bl nn,bl sn,bl sv]] [.box [.row 1 s,i64 (zC xs),i64 m],.row s 103 3 (xs.map flA)] (.ag [i64 r.k,i64 r.i,.lit (.string r.nm),bl r.ns,.lit (.string r.vl),bl r.vs,i64 0]) [.box [.row 1 t.s,i64 (zC t.xs),i64 t.m],.row t.s 103 3 (t.xs.map flA)]:=by
 cases hw:whl xs.reverse n v k w with
 | true=>
  rw[zgV hw]at hr
  rw[zom hw]at ht
  subst hr
  subst ht
  exact zqS xs s m n v k w nn sn sv h hw
 | false=>exact zqT xs s m n v k w nn sn sv h hS hb hm0 hm1 h1 h2 hw r t hr ht
end Go.Proofs.YtdalcgfnlbofdaaGreatDoor
