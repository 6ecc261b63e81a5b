import Derived.Test.YtdalcgfnlbofdaaGreatDoorZ32
set_option linter.unusedVariables false
set_option linter.unusedSimpArgs false
namespace Go.Proofs.YtdalcgfnlbofdaaGreatDoor
open Go Go.Lf Go.Proofs
attribute [local irreducible] Lf.rg Lf.ro Lf.PWp Lf.SOp Lf.ACall Lf.Scoped Lf.dg Lf.dw
set_option maxRecDepth 20000
set_option maxHeartbeats 4000000
set_option maxRecDepth 100000 in
theorem zEN: ∀n:Nat,n<256->ior .i64 (n:Int) 8=onF (n:Int) 8:=by decide
set_option maxRecDepth 100000 in
theorem zEO: ∀n:Nat,n<256->ior .i64 (n:Int) 4=onF (n:Int) 4:=by decide
theorem zyW{g:Int}(h0:0<=g)(h1:g<256): ior .i64 g 8=onF g 8:=by
 have:=zEN g.toNat (by omega)
 rwa [Int.toNat_of_nonneg h0]at this
theorem znx{g:Int}(h0:0<=g)(h1:g<256): ior .i64 g 4=onF g 4:=by
 have:=zEO g.toNat (by omega)
 rwa [Int.toNat_of_nonneg h0]at this
theorem zny{g:Int}(h0:0<=g)(h1:g<256)(k:Int)(hk:k=4\/k=8): 0<=onF g k/\onF g k<256:=by
 unfold onF
 rcases hk with rfl|rfl<;>split<;>omega
theorem zk3{n:Nat}(h:n<2 ^ 63): IntKind.i64.wrap (n:Int)=n:=w64 (by omega)
theorem zk4{n:Nat}(h0:2 ^ 63<=n)(h1:n<2 ^ 64): IntKind.i64.wrap (n:Int)=(n:Int)-2 ^ 64:=by
 have e:(n:Int) % 2 ^ 64=n:=by omega
 have h:(2 ^ 63:Int)<=n:=by omega
 show(if(true && decide ((n:Int) % 2 ^ 64≥2 ^ 63))=true then(n:Int) % 2 ^ 64-2 ^ 64 else(n:Int) % 2 ^ 64)=_
 have hh:(true && decide ((n:Int) % 2 ^ 64≥2 ^ 63))=true:=by rw[Bool.true_and];exact decide_eq_true (by omega)
 exact(if_pos hh).trans (by omega)
theorem zk5(g:Int): ∃n:Nat,n<2 ^ 64/\(g % 2 ^ 64).toNat<=n/\ior .i64 g 4=IntKind.i64.wrap (n:Int):=by
 refine⟨(BitVec.ofInt 64 g ||| BitVec.ofInt 64 4).toNat,(BitVec.ofInt 64 g ||| BitVec.ofInt 64 4).isLt,?_,rfl⟩
 rw[BitVec.toNat_or]
 refine Nat.le_trans ?_ Nat.left_le_or
 rw[BitVec.toNat_ofInt]
 exact Nat.le_refl _
theorem zvn(g:Int): ior .i64 g 4<=9223372036854775807:=by
 obtain⟨n,h1,_,e⟩:=zk5 g
 rw[e]
 by_cases h:n<2 ^ 63
 ·rw[zk3 h];omega
 ·rw[zk4 (by omega) h1];omega
theorem zrr{g:Int}(h0:-9223372036854775808<=g)(h1:g<=9223372036854775807)(h:¬(0<=g/\g<256)): ¬(0<=ior .i64 g 4/\ior .i64 g 4<=255):=by
 obtain⟨n,h2,h3,e⟩:=zk5 g
 rw[e]
 by_cases hn:n<2 ^ 63
 ·rw[zk3 hn];omega
 ·rw[zk4 (by omega) h2];omega
structure WyF where
 (zf:Bool) (z:List Int) (yf:Bool) (y:List Op4) (pf:Bool) (ps:List Int) (p:Int)
@[go_sem] def wyA(x:WyF): List AV:=[.sl x.zf false (x.z.map yz),.sl x.yf false (x.y.map opA),.sl x.pf false (x.ps.map yz),i64 x.p]
@[go_sem] theorem zwp(l:List WyF): y9 (l.map wyA).flatten=true:=ze (fun a=>by simp[wyA,y9,pur]) l
@[go_sem] theorem zwq{κ:List Nat}{σ:Sto}(l:List WyF): List.map (fzl κ σ) (l.map wyA)=l.map wyA:=vc (fun _=>rfl) l
def wyG(x:WyF): Wy:=⟨x.z,x.y,x.ps,x.p⟩
def itG(x:ItF): Itm:=⟨x.w,gm x.f,x.bk,x.fl⟩
def wgG(g n:Int): Int:=if 0<=n then onF g 8 else g
def wpG(p n:Int): Int:=if 0<=n then n else p
theorem kT(t g s p:Int)(d:List UInt8)(e:List (Int×Int))(wt pa:Int)(al:Bool)(pr la co sp n:Int): kA ⟨t,g,s,p,d,e,wt,pa,al,pr,la,co,sp⟩ n=⟨t,wgG g n,s,wpG p n,d,e,wt,pa,al,pr,la,co,sp⟩:=by
 unfold kA wgG wpG
 split<;>rfl
theorem zcL{g n:Int}(h0:0<=g)(h1:g<256): 0<=wgG g n/\wgG g n<256:=by
 unfold wgG
 split
 ·exact zny h0 h1 8 (.inr rfl)
 ·omega
theorem zvo(t g s p:Int)(fd:Bool)(d:List UInt8)(fs:Bool)(e:List (Int×Int))(wt pa:Int)(al:Bool)(pr la co sp:Int)(n:Int)(hn:0<=n)(hg0:0<=g)(hg1:g<256): AEq Tryz.prog 121 [.ag [i64 t,i64 g,i64 s,i64 p,.sl fd false (d.map zk),.sl fs false (e.map z7),i64 wt,i64 pa,bl al,i64 pr,i64 la,i64 co,i64 sp],i64 n] [] (.ag [i64 t,i64 (onF g 8),i64 s,i64 n,.sl fd false (d.map zk),.sl fs false (e.map z7),i64 wt,i64 pa,bl al,i64 pr,i64 la,i64 co,i64 sp]) []:=by
 have hio:=zyW hg0 hg1
 refine enT Tryz.func121 Tryz.ntmps121 ?_
 have hU:=@hio
 repeat'(first|refine goR ?_|refine zd fun K hK=>?_|refine zc ?_ ?_<;>intro hcd<;>(try simp only[hcP]at hcd)<;>try exact cdT|((refine zX [] exT (by rfl) (by rw[Tryz.results121,Lf.zap];(try simp(disch:=omega)only[Lf.z3,go_sem,seval,↓reduceIte,hU]);rfl) sT sT (zw ?_) ?_)<;>(try exact uT))|refine hK _ _ ?_;clear hK K)
 all_goals first|exact zJ (by grind)|trace_state
theorem zvp(t g s p:Int)(fd:Bool)(d:List UInt8)(fs:Bool)(e:List (Int×Int))(wt pa:Int)(al:Bool)(pr la co sp:Int)(n:Int)(hn:n<0): AEq Tryz.prog 121 [.ag [i64 t,i64 g,i64 s,i64 p,.sl fd false (d.map zk),.sl fs false (e.map z7),i64 wt,i64 pa,bl al,i64 pr,i64 la,i64 co,i64 sp],i64 n] [] (.ag [i64 t,i64 g,i64 s,i64 p,.sl fd false (d.map zk),.sl fs false (e.map z7),i64 wt,i64 pa,bl al,i64 pr,i64 la,i64 co,i64 sp]) []:=by
 refine enT Tryz.func121 Tryz.ntmps121 ?_
 have hU:=True.intro
 repeat'(first|refine goR ?_|refine zd fun K hK=>?_|refine zc ?_ ?_<;>intro hcd<;>(try simp only[hcP]at hcd)<;>try exact cdT|((refine zX [] exT (by rfl) (by rw[Tryz.results121,Lf.zap];(try simp(disch:=omega)only[Lf.z3,go_sem,seval,↓reduceIte,hU]);rfl) sT sT (zw ?_) ?_)<;>(try exact uT))|refine hK _ _ ?_;clear hK K)
 all_goals first|exact zJ (by grind)|trace_state
theorem zr0(t g s p:Int)(fd:Bool)(d:List UInt8)(fs:Bool)(e:List (Int×Int))(wt pa:Int)(al:Bool)(pr la co sp:Int)(n:Int)(hg0:0<=g)(hg1:g<256): AEq Tryz.prog 121 [.ag [i64 t,i64 g,i64 s,i64 p,.sl fd false (d.map zk),.sl fs false (e.map z7),i64 wt,i64 pa,bl al,i64 pr,i64 la,i64 co,i64 sp],i64 n] [] (.ag [i64 t,i64 (wgG g n),i64 s,i64 (wpG p n),.sl fd false (d.map zk),.sl fs false (e.map z7),i64 wt,i64 pa,bl al,i64 pr,i64 la,i64 co,i64 sp]) []:=by
 by_cases hn:0<=n
 ·rw[show wgG g n=onF g 8 from if_pos hn,show wpG p n=n from if_pos hn]
  exact zvo t g s p fd d fs e wt pa al pr la co sp n hn hg0 hg1
 ·rw[show wgG g n=g from if_neg hn,show wpG p n=p from if_neg hn]
  exact zvp t g s p fd d fs e wt pa al pr la co sp n (by omega)
theorem zac(t g s p:Int)(fd:Bool)(d:List UInt8)(fs:Bool)(e:List (Int×Int))(wt pa:Int)(al:Bool)(pr la co sp:Int)(hd:d.length<=100000)(hl:e.length<=10000)(hg1:g<=9223372036854775807)(hem:zkG 0 t g s p d e wt pa al pr la co sp): AEq Tryz.prog 169 [.ag [i64 t,i64 g,i64 s,i64 p,.sl fd false (d.map zk),.sl fs false (e.map z7),i64 wt,i64 pa,bl al,i64 pr,i64 la,i64 co,i64 sp]] [] (bl true) []:=by
 refine enT Tryz.func169 Tryz.ntmps169 ?_
 have hU:=True.intro
 repeat'(first|refine goR ?_|refine zd fun K hK=>?_|(refine zj (f:=38) rfl Tryz.call38 (h:=AEq.pure' agT (zoy _ _ _ _ _ _ _ _ _ _ _ _ _ _ _ _ aoT aoT aoT aoT) (hq:=?_)))|((refine zo [] (by rw[Tryz.results169,Lf.zI]) (zw ?_) ?_)<;>(try exact uT))|refine hK _ _ ?_;clear hK K)
theorem zhg(t g s p:Int)(fd:Bool)(d:List UInt8)(fs:Bool)(e:List (Int×Int))(wt pa:Int)(al:Bool)(pr la co sp:Int)(hd:d.length<=100000)(hl:e.length<=10000)(hg1:g<=9223372036854775807)(hem:¬zkG 0 t g s p d e wt pa al pr la co sp): AEq Tryz.prog 169 [.ag [i64 t,i64 g,i64 s,i64 p,.sl fd false (d.map zk),.sl fs false (e.map z7),i64 wt,i64 pa,bl al,i64 pr,i64 la,i64 co,i64 sp]] [] (bl false) []:=by
 refine enT Tryz.func169 Tryz.ntmps169 ?_
 have hU:=True.intro
 repeat'(first|refine goR ?_|refine zd fun K hK=>?_|(refine zj (f:=38) rfl Tryz.call38 (h:=AEq.pure' agT (zoz _ _ _ _ _ _ _ _ _ _ _ _ _ _ _ _ aoT aoT aoT aoT) (hq:=?_)))|((refine zo [] (by rw[Tryz.results169,Lf.zI]) (zw ?_) ?_)<;>(try exact uT))|refine hK _ _ ?_;clear hK K)
theorem yU(w:Int)(t g s p:Int)(fd:Bool)(d:List UInt8)(fs:Bool)(e:List (Int×Int))(wt pa:Int)(al:Bool)(pr la co sp:Int)(bk ff:Bool)(fl:List Fl)(hd:d.length<=100000)(hl:e.length<=10000)(hR:yD ⟨w,⟨t,g,s,p,d,e,wt,pa,al,pr,la,co,sp⟩,bk,fl⟩): AEq Tryz.prog 118 [.ag [i64 w,i64 t,i64 g,i64 s,i64 p,.sl fd false (d.map zk),.sl fs false (e.map z7),i64 wt,i64 pa,bl al,i64 pr,i64 la,i64 co,i64 sp,bl bk,.sl ff false (fl.map flA)]] [] (bl true) []:=by
 obtain⟨hw,hp,hn,hb⟩:=hR
 dsimp only at hw hp hn hb
 have hsd:decide (w=0\/w=1)=true:=decide_eq_true hw
 cases bk with
 | false=>
  obtain⟨hem,hfl,hst,h9⟩:=hn rfl
  subst hfl
  have h15:decide (t=1\/t=5)=false:=decide_eq_false hst
  have hg1:g<=9223372036854775807:=by have:=(zhZ hem).2;dsimp only at this;omega
  refine enT Tryz.func118 Tryz.ntmps118 ?_
  have hU:=And.intro @hsd (@h15)
  repeat'(first|refine goR ?_|refine zd fun K hK=>?_|refine zc ?_ ?_<;>intro hcd<;>(try simp only[hcP]at hcd)<;>try exact cdT|refine y1m ?_|refine yi ?_|refine y12 ?_|((refine zo [] (by rw[Tryz.results118,Lf.zI]) (zw ?_) ?_)<;>(try exact uT))|refine hK _ _ ?_;clear hK K)
  all_goals first|exact zJ (by grind)|trace_state
 | true=>
  obtain⟨hst,hd0,h4,hem⟩:=hb rfl
  have hdl:d.length=0:=by rw[hd0];rfl
  have h15:decide (t=1\/t=5)=true:=decide_eq_true hst
  have hgg:0<=g/\g<256:=by
   have:=zhZ hem
   dsimp only at this
   have h0:=zkL (.inl rfl) this.1
   unfold onF at this
   split at this<;>omega
  have hio:=znx hgg.1 hgg.2
  have hg1:onF g 4<=9223372036854775807:=by have:=(zny hgg.1 hgg.2 4 (.inl rfl)).2;omega
  refine enT Tryz.func118 Tryz.ntmps118 ?_
  have hU:=And.intro @hsd ( And.intro @h15 ( And.intro @h4 (@hio)))
  repeat'(first|refine goR ?_|refine zd fun K hK=>?_|refine zc ?_ ?_<;>intro hcd<;>(try simp only[hcP]at hcd)<;>try exact cdT|(guard_target =~ rg _ _ _ (⟨_,_,_,_,_,some _⟩::_) _ _ _;(first|refine zP gT (fun hcd=>?_) (fun hcd=>?_)|refine zK gT (fun hcd=>?_) (fun hcd=>?_))<;>(try simp only[hcd])<;>(try(simp only[Bool.not_eq_true',Bool.not_eq_false']at hcd;try simp only[hcd]))<;>(refine kC (Γ2:=_) ewT ?_)<;>(try simp only[hcP]at hcd)<;>(try exact cdT))|(refine zj (f:=169) rfl Tryz.call169 (h:=AEq.pure' agT (zac _ _ _ _ _ _ _ _ _ _ _ _ _ _ _ aoT aoT aoT aoT) (hq:=?_)))|refine yi ?_|(refine zj (f:=94) rfl Tryz.call94 (h:=AEq.pure' agT (zbZ _ _ _ aoT) (hq:=?_)))|refine y12 ?_|((refine zo [] (by rw[Tryz.results118,Lf.zI]) (zw ?_) ?_)<;>(try exact uT))|refine hK _ _ ?_;clear hK K)
  all_goals first|exact zJ (by grind)|trace_state
theorem znz{w:Int}{f:Gm}{bk:Bool}{fl:List Fl}(h:¬yD ⟨w,f,bk,fl⟩):
    ¬(w=0\/w=1)\/((w=0\/w=1)/\¬f.p = -1) \/
    ((w=0\/w=1)/\f.p = -1/\bk=false/\¬emG 0 f) \/
    ((w=0\/w=1)/\f.p = -1/\bk=false/\emG 0 f/\¬fl=[]) \/
    ((w=0\/w=1)/\f.p = -1/\bk=false/\emG 0 f/\fl=[]/\z9 f.t) \/
    ((w=0\/w=1)/\f.p = -1/\bk=false/\emG 0 f/\fl=[]/\¬z9 f.t/\f.t=9) \/
    ((w=0\/w=1)/\f.p = -1/\bk=true/\¬z9 f.t) \/
    ((w=0\/w=1)/\f.p = -1/\bk=true/\z9 f.t/\¬f.d=[]) \/
    ((w=0\/w=1)/\f.p = -1/\bk=true/\z9 f.t/\f.d=[]/\yM f.t f.g 4=true) \/
    ((w=0\/w=1)/\f.p = -1/\bk=true/\z9 f.t/\f.d=[]/\yM f.t f.g 4=false/\¬emG 0 { f with g:=onF f.g 4 }):=by
  by_cases h1:w=0\/w=1
  · by_cases h2:f.p = -1
    · cases bk with
      | false=>
        by_cases h3:emG 0 f
        · by_cases h4:fl=[]
          · by_cases h5:z9 f.t
            · exact .inr (.inr (.inr (.inr (.inl ⟨h1,h2,rfl,h3,h4,h5⟩))))
            · by_cases h6:f.t=9
              · exact .inr (.inr (.inr (.inr (.inr (.inl ⟨h1,h2,rfl,h3,h4,h5,h6⟩)))))
              · exact absurd ⟨h1,h2,fun _=>⟨h3,h4,h5,h6⟩,fun h=>Bool.noConfusion h⟩ h
          · exact .inr (.inr (.inr (.inl ⟨h1,h2,rfl,h3,h4⟩)))
        · exact .inr (.inr (.inl ⟨h1,h2,rfl,h3⟩))
      | true=>
        by_cases h3:z9 f.t
        · by_cases h4:f.d=[]
          · cases h5:yM f.t f.g 4 with
            | true=>exact .inr (.inr (.inr (.inr (.inr (.inr (.inr (.inr (.inl ⟨h1,h2,rfl,h3,h4,rfl⟩))))))))
            | false=>
              by_cases h6:emG 0 { f with g:=onF f.g 4 }
              · exact absurd ⟨h1,h2,fun h=>Bool.noConfusion h,fun _=>⟨h3,h4,h5,h6⟩⟩ h
              · exact .inr (.inr (.inr (.inr (.inr (.inr (.inr (.inr (.inr ⟨h1,h2,rfl,h3,h4,rfl,h6⟩))))))))
          · exact .inr (.inr (.inr (.inr (.inr (.inr (.inr (.inl ⟨h1,h2,rfl,h3,h4⟩)))))))
        · exact .inr (.inr (.inr (.inr (.inr (.inr (.inl ⟨h1,h2,rfl,h3⟩))))))
    · exact .inr (.inl ⟨h1,h2⟩)
  · exact .inl h1
theorem znA(w:Int)(t g s p:Int)(fd:Bool)(d:List UInt8)(fs:Bool)(e:List (Int×Int))(wt pa:Int)(al:Bool)(pr la co sp:Int)(bk ff:Bool)(fl:List Fl)(hd:d.length<=100000)(hl:e.length<=10000)(hgl:-9223372036854775808<=g)(hg1:g<=9223372036854775807)(hR:¬yD ⟨w,⟨t,g,s,p,d,e,wt,pa,al,pr,la,co,sp⟩,bk,fl⟩): AEq Tryz.prog 118 [.ag [i64 w,i64 t,i64 g,i64 s,i64 p,.sl fd false (d.map zk),.sl fs false (e.map z7),i64 wt,i64 pa,bl al,i64 pr,i64 la,i64 co,i64 sp,bl bk,.sl ff false (fl.map flA)]] [] (bl false) []:=by
 rcases znz hR with h1|⟨h1,h2⟩|⟨h1,h2,h3,h4⟩|⟨h1,h2,h3,h4,h5⟩|⟨h1,h2,h3,h4,h5,h6⟩|⟨h1,h2,h3,h4,h5,h6,h7⟩|⟨h1,h2,h3,h4⟩|⟨h1,h2,h3,h4,h5⟩|⟨h1,h2,h3,h4,h5,h6⟩|⟨h1,h2,h3,h4,h5,h6,h7⟩<;>(try dsimp only at *)<;>(try subst h3)
 ·have hsd:decide (w=0\/w=1)=false:=decide_eq_false h1
  refine enT Tryz.func118 Tryz.ntmps118 ?_
  have hU:=@hsd
  repeat'(first|refine goR ?_|refine zd fun K hK=>?_|refine zc ?_ ?_<;>intro hcd<;>(try simp only[hcP]at hcd)<;>try exact cdT|refine yi ?_|((refine zo [] (by rw[Tryz.results118,Lf.zI]) (zw ?_) ?_)<;>(try exact uT))|refine hK _ _ ?_;clear hK K)
  all_goals first|exact zJ (by grind)|trace_state
 ·have hsd:decide (w=0\/w=1)=true:=decide_eq_true h1
  refine enT Tryz.func118 Tryz.ntmps118 ?_
  have hU:=@hsd
  repeat'(first|refine goR ?_|refine zd fun K hK=>?_|refine zc ?_ ?_<;>intro hcd<;>(try simp only[hcP]at hcd)<;>try exact cdT|refine yi ?_|((refine zo [] (by rw[Tryz.results118,Lf.zI]) (zw ?_) ?_)<;>(try exact uT))|refine hK _ _ ?_;clear hK K)
  all_goals first|exact zJ (by grind)|trace_state
 ·have hsd:decide (w=0\/w=1)=true:=decide_eq_true h1
  have hem:=h4
  refine enT Tryz.func118 Tryz.ntmps118 ?_
  have hU:=@hsd
  repeat'(first|refine goR ?_|refine zd fun K hK=>?_|refine zc ?_ ?_<;>intro hcd<;>(try simp only[hcP]at hcd)<;>try exact cdT|(refine zj (f:=169) rfl Tryz.call169 (h:=AEq.pure' agT (zhg _ _ _ _ _ _ _ _ _ _ _ _ _ _ _ (by assumption) (by assumption) (by assumption) (by assumption)) (hq:=?_)))|refine yi ?_|((refine zo [] (by rw[Tryz.results118,Lf.zI]) (zw ?_) ?_)<;>(try exact uT))|refine hK _ _ ?_;clear hK K)
  all_goals first|exact zJ (by grind)|trace_state
 ·have hsd:decide (w=0\/w=1)=true:=decide_eq_true h1
  have hem:=h4
  have hfl:(fl.length:Int)≠0:=by cases fl with|nil=>exact absurd rfl h5|cons a b=>simp;omega
  refine enT Tryz.func118 Tryz.ntmps118 ?_
  have hU:=@hsd
  repeat'(first|refine goR ?_|refine zd fun K hK=>?_|refine zc ?_ ?_<;>intro hcd<;>(try simp only[hcP]at hcd)<;>try exact cdT|(guard_target =~ rg _ _ _ (⟨_,_,_,_,_,some _⟩::_) _ _ _;(first|refine zP gT (fun hcd=>?_) (fun hcd=>?_)|refine zK gT (fun hcd=>?_) (fun hcd=>?_))<;>(try simp only[hcd])<;>(try(simp only[Bool.not_eq_true',Bool.not_eq_false']at hcd;try simp only[hcd]))<;>(refine kC (Γ2:=_) ewT ?_)<;>(try simp only[hcP]at hcd)<;>(try exact cdT))|refine y1m ?_|refine yi ?_|((refine zo [] (by rw[Tryz.results118,Lf.zI]) (zw ?_) ?_)<;>(try exact uT))|refine hK _ _ ?_;clear hK K)
  all_goals first|exact zJ (by grind)|trace_state
 ·have hsd:decide (w=0\/w=1)=true:=decide_eq_true h1
  have hem:=h4
  have h15:decide (t=1\/t=5)=true:=decide_eq_true h6
  subst h5
  refine enT Tryz.func118 Tryz.ntmps118 ?_
  have hU:=And.intro @hsd (@h15)
  repeat'(first|refine goR ?_|refine zd fun K hK=>?_|refine zc ?_ ?_<;>intro hcd<;>(try simp only[hcP]at hcd)<;>try exact cdT|refine y1m ?_|refine yi ?_|refine y12 ?_|((refine zo [] (by rw[Tryz.results118,Lf.zI]) (zw ?_) ?_)<;>(try exact uT))|refine hK _ _ ?_;clear hK K)
  all_goals first|exact zJ (by grind)|trace_state
 ·have hsd:decide (w=0\/w=1)=true:=decide_eq_true h1
  have hem:=h4
  have h15:decide (t=1\/t=5)=false:=decide_eq_false h6
  subst h5
  refine enT Tryz.func118 Tryz.ntmps118 ?_
  have hU:=And.intro @hsd (@h15)
  repeat'(first|refine goR ?_|refine zd fun K hK=>?_|refine zc ?_ ?_<;>intro hcd<;>(try simp only[hcP]at hcd)<;>try exact cdT|refine y1m ?_|refine yi ?_|refine y12 ?_|((refine zo [] (by rw[Tryz.results118,Lf.zI]) (zw ?_) ?_)<;>(try exact uT))|refine hK _ _ ?_;clear hK K)
  all_goals first|exact zJ (by grind)|trace_state
 ·have hsd:decide (w=0\/w=1)=true:=decide_eq_true h1
  have h15:decide (t=1\/t=5)=false:=decide_eq_false h4
  refine enT Tryz.func118 Tryz.ntmps118 ?_
  have hU:=And.intro @hsd (@h15)
  repeat'(first|refine goR ?_|refine zd fun K hK=>?_|refine zc ?_ ?_<;>intro hcd<;>(try simp only[hcP]at hcd)<;>try exact cdT|refine yi ?_|refine y12 ?_|((refine zo [] (by rw[Tryz.results118,Lf.zI]) (zw ?_) ?_)<;>(try exact uT))|refine hK _ _ ?_;clear hK K)
  all_goals first|exact zJ (by grind)|trace_state
 ·have hsd:decide (w=0\/w=1)=true:=decide_eq_true h1
  have h15:decide (t=1\/t=5)=true:=decide_eq_true h4
  have hdl:0<d.length:=by cases d with|nil=>exact absurd rfl h5|cons a b=>simp
  refine enT Tryz.func118 Tryz.ntmps118 ?_
  have hU:=And.intro @hsd (@h15)
  repeat'(first|refine goR ?_|refine zd fun K hK=>?_|refine zc ?_ ?_<;>intro hcd<;>(try simp only[hcP]at hcd)<;>try exact cdT|(guard_target =~ rg _ _ _ (⟨_,_,_,_,_,some _⟩::_) _ _ _;(first|refine zP gT (fun hcd=>?_) (fun hcd=>?_)|refine zK gT (fun hcd=>?_) (fun hcd=>?_))<;>(try simp only[hcd])<;>(try(simp only[Bool.not_eq_true',Bool.not_eq_false']at hcd;try simp only[hcd]))<;>(refine kC (Γ2:=_) ewT ?_)<;>(try simp only[hcP]at hcd)<;>(try exact cdT))|refine yi ?_|refine y12 ?_|((refine zo [] (by rw[Tryz.results118,Lf.zI]) (zw ?_) ?_)<;>(try exact uT))|refine hK _ _ ?_;clear hK K)
  all_goals first|exact zJ (by grind)|trace_state
 ·have hsd:decide (w=0\/w=1)=true:=decide_eq_true h1
  have h15:decide (t=1\/t=5)=true:=decide_eq_true h4
  have hdl:d.length=0:=by rw[h5];rfl
  refine enT Tryz.func118 Tryz.ntmps118 ?_
  have hU:=And.intro @hsd ( And.intro @h15 (@h6))
  repeat'(first|refine goR ?_|refine zd fun K hK=>?_|refine zc ?_ ?_<;>intro hcd<;>(try simp only[hcP]at hcd)<;>try exact cdT|(guard_target =~ rg _ _ _ (⟨_,_,_,_,_,some _⟩::_) _ _ _;(first|refine zP gT (fun hcd=>?_) (fun hcd=>?_)|refine zK gT (fun hcd=>?_) (fun hcd=>?_))<;>(try simp only[hcd])<;>(try(simp only[Bool.not_eq_true',Bool.not_eq_false']at hcd;try simp only[hcd]))<;>(refine kC (Γ2:=_) ewT ?_)<;>(try simp only[hcP]at hcd)<;>(try exact cdT))|refine yi ?_|refine y1O ?_|refine y12 ?_|((refine zo [] (by rw[Tryz.results118,Lf.zI]) (zw ?_) ?_)<;>(try exact uT))|refine hK _ _ ?_;clear hK K)
  all_goals first|exact zJ (by grind)|trace_state
 ·have hsd:decide (w=0\/w=1)=true:=decide_eq_true h1
  have h15:decide (t=1\/t=5)=true:=decide_eq_true h4
  have hdl:d.length=0:=by rw[h5];rfl
  have hem:¬zkG 0 t (ior .i64 g 4) s p d e wt pa al pr la co sp:=by
   by_cases hg:0<=g/\g<256
   ·rw[znx hg.1 hg.2];exact h7
   ·intro hx
    have:=zhZ (w:=0) (f:=⟨t,ior .i64 g 4,s,p,d,e,wt,pa,al,pr,la,co,sp⟩) hx
    exact zrr hgl hg1 hg this
  have hg2:=zvn g
  refine enT Tryz.func118 Tryz.ntmps118 ?_
  have hU:=And.intro @hsd ( And.intro @h15 (@h6))
  repeat'(first|refine goR ?_|refine zd fun K hK=>?_|refine zc ?_ ?_<;>intro hcd<;>(try simp only[hcP]at hcd)<;>try exact cdT|(guard_target =~ rg _ _ _ (⟨_,_,_,_,_,some _⟩::_) _ _ _;(first|refine zP gT (fun hcd=>?_) (fun hcd=>?_)|refine zK gT (fun hcd=>?_) (fun hcd=>?_))<;>(try simp only[hcd])<;>(try(simp only[Bool.not_eq_true',Bool.not_eq_false']at hcd;try simp only[hcd]))<;>(refine kC (Γ2:=_) ewT ?_)<;>(try simp only[hcP]at hcd)<;>(try exact cdT))|(refine zj (f:=169) rfl Tryz.call169 (h:=AEq.pure' agT (zhg _ _ _ _ _ _ _ _ _ _ _ _ _ _ _ aoT aoT aoT aoT) (hq:=?_)))|refine yi ?_|(refine zj (f:=94) rfl Tryz.call94 (h:=AEq.pure' agT (zbZ _ _ _ aoT) (hq:=?_)))|refine y12 ?_|((refine zo [] (by rw[Tryz.results118,Lf.zI]) (zw ?_) ?_)<;>(try exact uT))|refine hK _ _ ?_;clear hK K)
  all_goals first|exact zJ (by grind)|trace_state
end Go.Proofs.YtdalcgfnlbofdaaGreatDoor
