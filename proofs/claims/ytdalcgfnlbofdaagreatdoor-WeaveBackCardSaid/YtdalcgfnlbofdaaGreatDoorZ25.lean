import Derived.Test.YtdalcgfnlbofdaaGreatDoorZ24
import Derived.Test.YtdalcgfnlbofdaaGreatDoorZ12
set_option linter.unusedVariables false
set_option linter.unusedSimpArgs false
namespace Go.Proofs.YtdalcgfnlbofdaaGreatDoor
open Go Go.Lf Go.Proofs
attribute [local irreducible] Lf.rg Lf.ro Lf.PWp Lf.SOp Lf.ACall Lf.Scoped Lf.dg Lf.dw
set_option maxRecDepth 20000
set_option maxHeartbeats 4000000
theorem zq7(u g:Int)(h0:0<=u)(h1:u<256)(hg:0<=g): (BitVec.ofInt 64 u &&& BitVec.ofInt 64 g)=(BitVec.ofInt 64 u &&& BitVec.ofInt 64 (g % 256)):=by
 obtain⟨v,rfl⟩:∃v:Nat,u=v:=⟨u.toNat,by omega⟩
 obtain⟨m,rfl⟩:∃m:Nat,g=m:=⟨g.toNat,by omega⟩
 rw[show((m:Int) % 256)=((m % 256:Nat):Int)from by omega]
 apply BitVec.eq_of_toNat_eq
 simp only[BitVec.toNat_and,BitVec.ofInt_natCast,BitVec.toNat_ofNat]
 rw[Nat.mod_eq_of_lt (show v<2 ^ 64 by omega),Nat.mod_eq_of_lt (show m % 256<2 ^ 64 by omega)]
 apply Nat.eq_of_testBit_eq
 intro i
 rw[Nat.testBit_and,Nat.testBit_and]
 by_cases hi:i<8
 ·congr 1
  rw[show(256:Nat)=2 ^ 8 from rfl,Nat.testBit_mod_two_pow,Nat.testBit_mod_two_pow]
  simp[hi,show i<64 by omega]
 ·rw [Nat.testBit_lt_two_pow (show v < 2 ^ i from Nat.lt_of_lt_of_le (show v < 2 ^ 8 by omega) (Nat.pow_le_pow_right (by decide) (by omega)))]
  simp
theorem zna(u g:Int)(h0:0<=u)(h1:u<256)(hg:0<=g): jV .i64 u g=jV .i64 u (g % 256):=by
 show IntKind.wrap _ _=IntKind.wrap _ _
 congr 2
 exact congrArg BitVec.toNat (zq7 u g h0 h1 hg)
def yM(t g f:Int): Bool:=decide (0<=g) && z6 t g f
theorem zfC{t g f:Int}(h:¬0<=g): yM t g f=false:=by unfold yM;rw[decide_eq_false h];rfl
theorem zkA{t g f:Int}(h:0<=g): yM t g f=z6 t g f:=by unfold yM;rw[decide_eq_true h];rfl
theorem znb{t g f:Int}(hg:0<=g)(hf:f=1\/f=4\/f=8\/f=32): z6 t (g % 256) f=z6 t g f:=by
 unfold z6
 congr 1
 rw[decide_eq_decide]
 rcases hf with rfl|rfl|rfl|rfl<;>omega
theorem zbY{t g f:Int}(h0:0<=g)(hf:f=1\/f=4\/f=8\/f=32): decide (jV .i64 (jV .i64 (yP t) g) f≠0)=yM t g f:=by
 have hu:0<=yP t/\yP t<64:=by rcases zau t with e|e|e|e|e|e<;>rw[e]<;>decide
 rw[zna _ _ hu.1 (by omega) h0,zbb (by omega) (by omega) hf,znb h0 hf,zkA h0]
theorem zex(t g f:Int)(hf:f=8): AEq Tryz.prog 94 [i64 t,i64 g,i64 f] [] (bl (yM t g f)) []:=by
 by_cases hg:0<=g
 ·have hI:=zbY (t:=t) hg (.inr (.inr (.inl hf)))
  subst hf
  refine enT Tryz.func94 Tryz.ntmps94 ?_
  have hU:=True.intro
  repeat'(first|refine goR ?_|refine zd fun K hK=>?_|refine zc ?_ ?_<;>intro hcd<;>(try simp only[hcP]at hcd)<;>try exact cdT|(guard_target =~ rg _ _ _ (⟨_,_,_,_,_,some _⟩::_) _ _ _;(first|refine zP gT (fun hcd=>?_) (fun hcd=>?_)|refine zK gT (fun hcd=>?_) (fun hcd=>?_))<;>(try simp only[hcd])<;>(try(simp only[Bool.not_eq_true',Bool.not_eq_false']at hcd;try simp only[hcd]))<;>(refine kC (Γ2:=_) ewT ?_)<;>(try simp only[hcP]at hcd)<;>(try exact cdT))|refine y15 ?_|((refine zo [] (by rw[Tryz.results94,Lf.zI]) (zw ?_) ?_)<;>(try exact uT))|refine hK _ _ ?_;clear hK K)
  all_goals exact zJ (by rw[<-hI];first|(simp;done)|(simp;rfl))
 ·rw[zfC hg]
  subst hf
  refine enT Tryz.func94 Tryz.ntmps94 ?_
  have hU:=True.intro
  exact wj
theorem zkB(t g f:Int)(hf:f=32): AEq Tryz.prog 94 [i64 t,i64 g,i64 f] [] (bl (yM t g f)) []:=by
 by_cases hg:0<=g
 ·have hI:=zbY (t:=t) hg (.inr (.inr (.inr hf)))
  subst hf
  refine enT Tryz.func94 Tryz.ntmps94 ?_
  have hU:=True.intro
  repeat'(first|refine goR ?_|refine zd fun K hK=>?_|refine zc ?_ ?_<;>intro hcd<;>(try simp only[hcP]at hcd)<;>try exact cdT|(guard_target =~ rg _ _ _ (⟨_,_,_,_,_,some _⟩::_) _ _ _;(first|refine zP gT (fun hcd=>?_) (fun hcd=>?_)|refine zK gT (fun hcd=>?_) (fun hcd=>?_))<;>(try simp only[hcd])<;>(try(simp only[Bool.not_eq_true',Bool.not_eq_false']at hcd;try simp only[hcd]))<;>(refine kC (Γ2:=_) ewT ?_)<;>(try simp only[hcP]at hcd)<;>(try exact cdT))|refine y15 ?_|((refine zo [] (by rw[Tryz.results94,Lf.zI]) (zw ?_) ?_)<;>(try exact uT))|refine hK _ _ ?_;clear hK K)
  all_goals exact zJ (by rw[<-hI];first|(simp;done)|(simp;rfl))
 ·rw[zfC hg]
  subst hf
  refine enT Tryz.func94 Tryz.ntmps94 ?_
  have hU:=True.intro
  exact wj
def okN(n k:Int): Bool:=decide (vh n k=0)
def nbB(n k:Int): List UInt8:=if vh n k=0 then beB n k.toNat else[]
def loK(n:Int): Bool:=decide (0<=n/\n<2147483648)
def loB(n:Int)(h:Bool): List UInt8:=if 0<=n/\n<2147483648 then beB (hdS n h) 4 else beB 0 4
theorem kR(n:Int)(h:Bool): (loB n h).length=4:=by unfold loB;split<;>exact kl _ _
theorem zkC(n k:Int): (nbB n k).length<=k.toNat:=by
 unfold nbB;split
 ·rw[kl];exact Nat.le_refl _
 ·exact Nat.zero_le _
theorem zdN{n size:Int}(h1:1<=size)(h2:size<=4)(h:vh n size=0): 0<=n/\n<=zgo size:=by
 unfold vh at h
 rw[vE ⟨h1,h2⟩,if_neg (by simp)]at h
 split at h
 ·cases h
 ·omega
theorem zq8{n size:Int}(h1:1<=size)(h2:size<=4)(h:¬vh n size=0): n<0\/zgo size<n:=by
 unfold vh at h
 rw[vE ⟨h1,h2⟩,if_neg (by simp)]at h
 split at h
 ·assumption
 ·exact absurd rfl h
theorem jM(s:Nat)(x:List UInt8)(w:Bool)(n k:Int)(h1:1<=k)(h2:k<=4)(hn:vh n k=0)(hx:x.length<=1000000000): AEq Tryz.prog 132 [.ptr 0 0,i64 n,i64 k] [.box [.row 1 s,bl w],.row s 5 1 (x.map zk)] (.tu []) [.box [.row 2 k.toNat,bl w],.row s 5 1 (x.map zk),.row k.toNat 5 1 ((x++beB n k.toNat).map zk)]:=by
 obtain⟨h0,hn⟩:=zdN h1 h2 hn
 refine enT Tryz.func132 Tryz.ntmps132 ?_
 have hU:=True.intro
 repeat'(first|refine goR ?_|refine zd fun K hK=>?_|refine zc ?_ ?_<;>intro hcd<;>(try simp only[hcP]at hcd)<;>try exact cdT|(refine zj (f:=171) rfl Tryz.call171 (h:=AEq.sub' [] (hc:=zj0 _ _ _ _ _ (by assumption) (by assumption) (by assumption) (by assumption) (by assumption)) (hq:=?_)))|((refine zo [0,1,2] (by rw[Tryz.results132,Lf.jC]) yH ?_)<;>(try exact uT))|refine hK _ _ ?_;clear hK K)
theorem zbe(s:Nat)(x:List UInt8)(w:Bool)(n k:Int)(h1:1<=k)(h2:k<=4)(hn:¬vh n k=0)(hx:x.length<=1000000000): AEq Tryz.prog 132 [.ptr 0 0,i64 n,i64 k] [.box [.row 1 s,bl w],.row s 5 1 (x.map zk)] (.tu []) [.box [.row 1 s,bl true],.row s 5 1 (x.map zk)]:=by
 have hn:=zq8 h1 h2 hn
 refine enT Tryz.func132 Tryz.ntmps132 ?_
 have hU:=True.intro
 repeat'(first|refine goR ?_|refine zd fun K hK=>?_|refine zc ?_ ?_<;>intro hcd<;>(try simp only[hcP]at hcd)<;>try exact cdT|(refine zj (f:=171) rfl Tryz.call171 (h:=AEq.pure' agT (zgC _ _ _ _ _ (by assumption)) (hq:=?_)))|((refine zo [0,1] (by rw[Tryz.results132,Lf.jC]) yH ?_)<;>(try exact uT))|refine hK _ _ ?_;clear hK K)
theorem zrZ(s:Nat)(x:List UInt8)(w:Bool)(n:Int)(u:Bool)(hx:x.length<=1000000000): AEq Tryz.prog 178 [.ptr 0 0,i64 n,bl u] [.box [.row 1 s,bl w],.row s 5 1 (x.map zk)] (.tu []) [.box [.row 2 4,bl (w || !loK n)],.row s 5 1 (x.map zk),.row 4 5 1 ((x++loB n u).map zk)]:=by
 by_cases hl:0<=n/\n<2147483648
 ·have hk:loK n=true:=decide_eq_true hl
  obtain⟨h0,h1⟩:=hl
  have hp0:vh n 4=0:=zfv n 4 (by decide) (by decide) h0 (by rw[zyo];omega)
  have hp1:vh (n+2147483648) 4=0:=zfv _ 4 (by decide) (by decide) (by omega) (by rw[zyo];omega)
  rw[hk,show loB n u=beB (hdS n u) 4 from if_pos ⟨h0,h1⟩]
  simp only[Bool.not_true,Bool.or_false]
  cases u
  all_goals simp only[zym,zyn]
  all_goals(refine enT Tryz.func178 Tryz.ntmps178 ?_)
  all_goals(have hU:=@Bool.or_false)
  all_goals(repeat'(first|refine goR ?_|refine zd fun K hK=>?_|refine y1I ?_|(refine zj (f:=205) rfl Tryz.call205 (h:=AEq.pure' agT (zmR _ aoT aoT) (hq:=?_)))|(refine zj (f:=205) rfl Tryz.call205 (h:=AEq.pure' agT (zmS _ aoT aoT) (hq:=?_)))|((refine zo [0,1,2] (by rw[Tryz.results178,Lf.jC]) yH ?_)<;>(try exact uT))|refine hK _ _ ?_;clear hK K))
 ·have hk:loK n=false:=decide_eq_false hl
  have hb:n<0\/2147483648<=n:=by omega
  have hp0:vh 0 4=0:=zfv 0 4 (by decide) (by decide) (by decide) (by rw[zyo];decide)
  rw[hk,show loB n u=beB 0 4 from if_neg hl]
  simp only[Bool.not_false,Bool.or_true]
  refine enT Tryz.func178 Tryz.ntmps178 ?_
  have hU:=@Bool.or_true
  repeat'(first|refine goR ?_|refine zd fun K hK=>?_|refine y1I ?_|(refine zj (f:=205) rfl Tryz.call205 (h:=AEq.pure' agT (zqx _ _ aoT) (hq:=?_)))|((refine zo [0,1,2] (by rw[Tryz.results178,Lf.jC]) yH ?_)<;>(try exact uT))|refine hK _ _ ?_;clear hK K)
theorem znc{n k:Int}(h:vh n k=0): okN n k=true:=decide_eq_true h
theorem znd{n k:Int}(h:¬vh n k=0): okN n k=false:=decide_eq_false h
theorem zq9{n k:Int}(h:vh n k=0): nbB n k=beB n k.toNat:=if_pos h
theorem zra{n k:Int}(h:¬vh n k=0): nbB n k=[]:=if_neg h
def wgB(pa:Int)(al:Bool)(wt:Int): List UInt8:=loB pa al++nbB wt 1
def wgW(pa wt:Int): Bool:=!loK pa || !okN wt 1
def wgS(wt:Int): Nat:=if vh wt 1=0 then 1 else 4
theorem zyF{n:Int}(h:vh n 1=0): wgS n=1:=if_pos h
theorem zyG{n:Int}(h:¬vh n 1=0): wgS n=4:=if_neg h
theorem zdO(n:Int): (beB n 1).length=1:=kl n 1
theorem zrb(pa:Int)(al:Bool)(wt:Int): (wgB pa al wt).length<=5:=by
 unfold wgB;rw[List.length_append,kR];have:=zkC wt 1;simp at this;omega
theorem zne(s:Nat)(x:List UInt8)(w:Bool)(t g st p:Int)(fd:Bool)(d:List UInt8)(fs:Bool)(e:List (Int×Int))(wt pa:Int)(al:Bool)(pr la co sp:Int)(hx:x.length<=100000000)(hn:vh wt 1=0): AEq Tryz.prog 177 [.ptr 0 0,.ag [i64 t,i64 g,i64 st,i64 p,.sl fd false (d.map zk),.sl fs false (e.map z7),i64 wt,i64 pa,bl al,i64 pr,i64 la,i64 co,i64 sp]] [.box [.row 1 s,bl w],.row s 5 1 (x.map zk)] (.tu []) [.box [.row 2 (wgS wt),bl (w || wgW pa wt)],.row s 5 1 (x.map zk),.row (wgS wt) 5 1 ((x++wgB pa al wt).map zk)]:=by
 have hll:=kR pa al
 rw[zyF hn,show wgW pa wt = !loK pa from by unfold wgW;rw[znc hn];simp,show x++wgB pa al wt=(x++loB pa al)++beB wt 1 from by unfold wgB;rw[zq9 hn,List.append_assoc];rfl]
 refine enT Tryz.func177 Tryz.ntmps177 ?_
 have hU:=True.intro
 repeat'(first|refine goR ?_|refine zd fun K hK=>?_|refine y1e ?_|refine y1f ?_|((refine zo [0,1,4] (by rw[Tryz.results177,Lf.jC]) yH ?_)<;>(try exact uT))|refine hK _ _ ?_;clear hK K)
theorem znf(s:Nat)(x:List UInt8)(w:Bool)(t g st p:Int)(fd:Bool)(d:List UInt8)(fs:Bool)(e:List (Int×Int))(wt pa:Int)(al:Bool)(pr la co sp:Int)(hx:x.length<=100000000)(hn:¬vh wt 1=0): AEq Tryz.prog 177 [.ptr 0 0,.ag [i64 t,i64 g,i64 st,i64 p,.sl fd false (d.map zk),.sl fs false (e.map z7),i64 wt,i64 pa,bl al,i64 pr,i64 la,i64 co,i64 sp]] [.box [.row 1 s,bl w],.row s 5 1 (x.map zk)] (.tu []) [.box [.row 2 (wgS wt),bl (w || wgW pa wt)],.row s 5 1 (x.map zk),.row (wgS wt) 5 1 ((x++wgB pa al wt).map zk)]:=by
 have hll:=kR pa al
 rw[zyG hn,show wgW pa wt=true from by unfold wgW;rw[znd hn];simp,Bool.or_true,show x++wgB pa al wt=x++loB pa al from by unfold wgB;rw[zra hn,List.append_nil]]
 refine enT Tryz.func177 Tryz.ntmps177 ?_
 have hU:=True.intro
 repeat'(first|refine goR ?_|refine zd fun K hK=>?_|(refine zj (f:=132) rfl Tryz.call132 (h:=AEq.sub' [_,_] (hc:=zbe _ _ _ _ _ lnT lnT lnT lnT) (hq:=?_)))|refine y1f ?_|((refine zo [0,1,3] (by rw[Tryz.results177,Lf.jC]) yH ?_)<;>(try exact uT))|refine hK _ _ ?_;clear hK K)
theorem zow(s:Nat)(x:List UInt8)(w:Bool)(t g st p:Int)(fd:Bool)(d:List UInt8)(fs:Bool)(e:List (Int×Int))(wt pa:Int)(al:Bool)(pr la co sp:Int)(hx:x.length<=100000000): AEq Tryz.prog 177 [.ptr 0 0,.ag [i64 t,i64 g,i64 st,i64 p,.sl fd false (d.map zk),.sl fs false (e.map z7),i64 wt,i64 pa,bl al,i64 pr,i64 la,i64 co,i64 sp]] [.box [.row 1 s,bl w],.row s 5 1 (x.map zk)] (.tu []) [.box [.row 2 (wgS wt),bl (w || wgW pa wt)],.row s 5 1 (x.map zk),.row (wgS wt) 5 1 ((x++wgB pa al wt).map zk)]:=by
 by_cases hn:vh wt 1=0
 ·exact zne s x w t g st p fd d fs e wt pa al pr la co sp hx hn
 ·exact znf s x w t g st p fd d fs e wt pa al pr la co sp hx hn
theorem zkD(e:List (Int×Int)): (spB e).length<=6*e.length:=by
 unfold spB;split
 ·rw[zjX];exact Nat.le_refl _
 ·exact Nat.zero_le _
theorem zyH(s:Nat)(x:List UInt8)(w:Bool)(t g st p:Int)(fd:Bool)(d:List UInt8)(fs:Bool)(e:List (Int×Int))(wt pa:Int)(al:Bool)(pr la co sp:Int)(hx:x.length<=10000000)(hl:e.length<=100000)(ht:t=1)(hH:yM 1 g 32=true): AEq Tryz.prog 133 [.ptr 0 0,.ag [i64 t,i64 g,i64 st,i64 p,.sl fd false (d.map zk),.sl fs false (e.map z7),i64 wt,i64 pa,bl al,i64 pr,i64 la,i64 co,i64 sp]] [.box [.row 1 s,bl w],.row s 5 1 (x.map zk)] (.tu []) [.box [.row 2 (wgS wt),bl (w || wgW pa wt)],.row s 5 1 (x.map zk),.row (wgS wt) 5 1 ((x++wgB pa al wt).map zk)]:=by
 subst ht
 refine enT Tryz.func133 Tryz.ntmps133 ?_
 have hU:=@hH
 repeat'(first|refine goR ?_|refine zd fun K hK=>?_|refine zc ?_ ?_<;>intro hcd<;>(try simp only[hcP]at hcd)<;>try exact cdT|refine y1Z ?_|(refine zj (f:=94) rfl Tryz.call94 (h:=AEq.pure' agT (zkB _ _ _ (by omega)) (hq:=?_)))|((refine zo [0,1,3] (by rw[Tryz.results133,Lf.jC]) yH ?_)<;>(try exact uT))|refine hK _ _ ?_;clear hK K)
theorem zyI(s:Nat)(x:List UInt8)(w:Bool)(t g st p:Int)(fd:Bool)(d:List UInt8)(fs:Bool)(e:List (Int×Int))(wt pa:Int)(al:Bool)(pr la co sp:Int)(hx:x.length<=10000000)(hl:e.length<=100000)(ht:t=1)(hH:yM 1 g 32=false): AEq Tryz.prog 133 [.ptr 0 0,.ag [i64 t,i64 g,i64 st,i64 p,.sl fd false (d.map zk),.sl fs false (e.map z7),i64 wt,i64 pa,bl al,i64 pr,i64 la,i64 co,i64 sp]] [.box [.row 1 s,bl w],.row s 5 1 (x.map zk)] (.tu []) [.box [.row 1 s,bl w],.row s 5 1 (x.map zk)]:=by
 subst ht
 refine enT Tryz.func133 Tryz.ntmps133 ?_
 have hU:=@hH
 repeat'(first|refine goR ?_|refine zd fun K hK=>?_|refine zc ?_ ?_<;>intro hcd<;>(try simp only[hcP]at hcd)<;>try exact cdT|(refine zj (f:=94) rfl Tryz.call94 (h:=AEq.pure' agT (zkB _ _ _ (by omega)) (hq:=?_)))|((refine zo [0,1] (by rw[Tryz.results133,Lf.jC]) yH ?_)<;>(try exact uT))|refine hK _ _ ?_;clear hK K)
theorem zEH(s:Nat)(x:List UInt8)(w:Bool)(t g st p:Int)(fd:Bool)(d:List UInt8)(fs:Bool)(e:List (Int×Int))(wt pa:Int)(al:Bool)(pr la co sp:Int)(hx:x.length<=10000000)(hl:e.length<=100000)(ht:t=2): AEq Tryz.prog 133 [.ptr 0 0,.ag [i64 t,i64 g,i64 st,i64 p,.sl fd false (d.map zk),.sl fs false (e.map z7),i64 wt,i64 pa,bl al,i64 pr,i64 la,i64 co,i64 sp]] [.box [.row 1 s,bl w],.row s 5 1 (x.map zk)] (.tu []) [.box [.row 2 (wgS wt),bl (w || wgW pa wt)],.row s 5 1 (x.map zk),.row (wgS wt) 5 1 ((x++wgB pa al wt).map zk)]:=by
 subst ht
 refine enT Tryz.func133 Tryz.ntmps133 ?_
 have hU:=True.intro
 repeat'(first|refine goR ?_|refine zd fun K hK=>?_|refine zc ?_ ?_<;>intro hcd<;>(try simp only[hcP]at hcd)<;>try exact cdT|refine y1Z ?_|((refine zo [0,1,3] (by rw[Tryz.results133,Lf.jC]) yH ?_)<;>(try exact uT))|refine hK _ _ ?_;clear hK K)
theorem zyJ(s:Nat)(x:List UInt8)(w:Bool)(t g st p:Int)(fd:Bool)(d:List UInt8)(fs:Bool)(e:List (Int×Int))(wt pa:Int)(al:Bool)(pr la co sp:Int)(hx:x.length<=10000000)(hl:e.length<=100000)(ht:t=3)(hn:vh co 4=0): AEq Tryz.prog 133 [.ptr 0 0,.ag [i64 t,i64 g,i64 st,i64 p,.sl fd false (d.map zk),.sl fs false (e.map z7),i64 wt,i64 pa,bl al,i64 pr,i64 la,i64 co,i64 sp]] [.box [.row 1 s,bl w],.row s 5 1 (x.map zk)] (.tu []) [.box [.row 2 4,bl w],.row s 5 1 (x.map zk),.row 4 5 1 ((x++beB co 4).map zk)]:=by
 subst ht
 refine enT Tryz.func133 Tryz.ntmps133 ?_
 have hU:=True.intro
 repeat'(first|refine goR ?_|refine zd fun K hK=>?_|refine zc ?_ ?_<;>intro hcd<;>(try simp only[hcP]at hcd)<;>try exact cdT|refine y1I ?_|((refine zo [0,1,3] (by rw[Tryz.results133,Lf.jC]) yH ?_)<;>(try exact uT))|refine hK _ _ ?_;clear hK K)
theorem zyK(s:Nat)(x:List UInt8)(w:Bool)(t g st p:Int)(fd:Bool)(d:List UInt8)(fs:Bool)(e:List (Int×Int))(wt pa:Int)(al:Bool)(pr la co sp:Int)(hx:x.length<=10000000)(hl:e.length<=100000)(ht:t=3)(hn:¬vh co 4=0): AEq Tryz.prog 133 [.ptr 0 0,.ag [i64 t,i64 g,i64 st,i64 p,.sl fd false (d.map zk),.sl fs false (e.map z7),i64 wt,i64 pa,bl al,i64 pr,i64 la,i64 co,i64 sp]] [.box [.row 1 s,bl w],.row s 5 1 (x.map zk)] (.tu []) [.box [.row 1 s,bl true],.row s 5 1 (x.map zk)]:=by
 subst ht
 refine enT Tryz.func133 Tryz.ntmps133 ?_
 have hU:=True.intro
 repeat'(first|refine goR ?_|refine zd fun K hK=>?_|refine zc ?_ ?_<;>intro hcd<;>(try simp only[hcP]at hcd)<;>try exact cdT|(refine zj (f:=132) rfl Tryz.call132 (h:=AEq.sub' [_,_] (hc:=zbe _ _ _ _ _ aoT aoT aoT aoT) (hq:=?_)))|((refine zo [0,1] (by rw[Tryz.results133,Lf.jC]) yH ?_)<;>(try exact uT))|refine hK _ _ ?_;clear hK K)
theorem zEI(s:Nat)(x:List UInt8)(w:Bool)(t g st p:Int)(fd:Bool)(d:List UInt8)(fs:Bool)(e:List (Int×Int))(wt pa:Int)(al:Bool)(pr la co sp:Int)(hx:x.length<=10000000)(hl:e.length<=100000)(ht:t=5): AEq Tryz.prog 133 [.ptr 0 0,.ag [i64 t,i64 g,i64 st,i64 p,.sl fd false (d.map zk),.sl fs false (e.map z7),i64 wt,i64 pa,bl al,i64 pr,i64 la,i64 co,i64 sp]] [.box [.row 1 s,bl w],.row s 5 1 (x.map zk)] (.tu []) [.box [.row 2 4,bl (w || !loK pr)],.row s 5 1 (x.map zk),.row 4 5 1 ((x++loB pr false).map zk)]:=by
 subst ht
 refine enT Tryz.func133 Tryz.ntmps133 ?_
 have hU:=True.intro
 exact wv
theorem zyL(s:Nat)(x:List UInt8)(w:Bool)(t g st p:Int)(fd:Bool)(d:List UInt8)(fs:Bool)(e:List (Int×Int))(wt pa:Int)(al:Bool)(pr la co sp:Int)(hx:x.length<=10000000)(hl:e.length<=100000)(ht:t=7)(hn:vh co 4=0): AEq Tryz.prog 133 [.ptr 0 0,.ag [i64 t,i64 g,i64 st,i64 p,.sl fd false (d.map zk),.sl fs false (e.map z7),i64 wt,i64 pa,bl al,i64 pr,i64 la,i64 co,i64 sp]] [.box [.row 1 s,bl w],.row s 5 1 (x.map zk)] (.tu []) [.box [.row 2 4,bl (w || !loK la)],.row s 5 1 (x.map zk),.row 4 5 1 ((x++(loB la false++beB co 4)).map zk)]:=by
 subst ht
 have hll:=kR la false
 rw[<-List.append_assoc]
 refine enT Tryz.func133 Tryz.ntmps133 ?_
 have hU:=True.intro
 repeat'(first|refine goR ?_|refine zd fun K hK=>?_|refine zc ?_ ?_<;>intro hcd<;>(try simp only[hcP]at hcd)<;>try exact cdT|refine y1f ?_|refine y1e ?_|((refine zo [0,1,4] (by rw[Tryz.results133,Lf.jC]) yH ?_)<;>(try exact uT))|refine hK _ _ ?_;clear hK K)
theorem zyM(s:Nat)(x:List UInt8)(w:Bool)(t g st p:Int)(fd:Bool)(d:List UInt8)(fs:Bool)(e:List (Int×Int))(wt pa:Int)(al:Bool)(pr la co sp:Int)(hx:x.length<=10000000)(hl:e.length<=100000)(ht:t=7)(hn:¬vh co 4=0): AEq Tryz.prog 133 [.ptr 0 0,.ag [i64 t,i64 g,i64 st,i64 p,.sl fd false (d.map zk),.sl fs false (e.map z7),i64 wt,i64 pa,bl al,i64 pr,i64 la,i64 co,i64 sp]] [.box [.row 1 s,bl w],.row s 5 1 (x.map zk)] (.tu []) [.box [.row 2 4,bl true],.row s 5 1 (x.map zk),.row 4 5 1 ((x++loB la false).map zk)]:=by
 subst ht
 have hll:=kR la false
 refine enT Tryz.func133 Tryz.ntmps133 ?_
 have hU:=True.intro
 repeat'(first|refine goR ?_|refine zd fun K hK=>?_|refine zc ?_ ?_<;>intro hcd<;>(try simp only[hcP]at hcd)<;>try exact cdT|refine y1f ?_|(refine zj (f:=132) rfl Tryz.call132 (h:=AEq.sub' [_,_] (hc:=zbe _ _ _ _ _ lnT lnT lnT lnT) (hq:=?_)))|((refine zo [0,1,3] (by rw[Tryz.results133,Lf.jC]) yH ?_)<;>(try exact uT))|refine hK _ _ ?_;clear hK K)
theorem zEJ(s:Nat)(x:List UInt8)(w:Bool)(t g st p:Int)(fd:Bool)(d:List UInt8)(fs:Bool)(e:List (Int×Int))(wt pa:Int)(al:Bool)(pr la co sp:Int)(hx:x.length<=10000000)(hl:e.length<=100000)(ht:t=8): AEq Tryz.prog 133 [.ptr 0 0,.ag [i64 t,i64 g,i64 st,i64 p,.sl fd false (d.map zk),.sl fs false (e.map z7),i64 wt,i64 pa,bl al,i64 pr,i64 la,i64 co,i64 sp]] [.box [.row 1 s,bl w],.row s 5 1 (x.map zk)] (.tu []) [.box [.row 2 4,bl (w || !loK sp)],.row s 5 1 (x.map zk),.row 4 5 1 ((x++loB sp false).map zk)]:=by
 subst ht
 refine enT Tryz.func133 Tryz.ntmps133 ?_
 have hU:=True.intro
 exact wv
theorem zEK(s:Nat)(x:List UInt8)(w:Bool)(t g st p:Int)(fd:Bool)(d:List UInt8)(fs:Bool)(e:List (Int×Int))(wt pa:Int)(al:Bool)(pr la co sp:Int)(hx:x.length<=10000000)(hl:e.length<=100000)(ht:t=4): AEq Tryz.prog 133 [.ptr 0 0,.ag [i64 t,i64 g,i64 st,i64 p,.sl fd false (d.map zk),.sl fs false (e.map z7),i64 wt,i64 pa,bl al,i64 pr,i64 la,i64 co,i64 sp]] [.box [.row 1 s,bl w],.row s 5 1 (x.map zk)] (.tu []) [.box [.row 1 (s+1),bl (w || spE e != 0)],.row (s+1) 5 1 ((x++spB e).map zk)]:=by
 subst ht
 have hsl:=zkD e
 have hma:List.map zk x++List.map zk (spB e)=List.map zk (x++spB e):=List.map_append.symm
 refine enT Tryz.func133 Tryz.ntmps133 ?_
 have hU:=@hma
 repeat'(first|refine goS ?_|refine zd fun K hK=>?_|refine zc ?_ ?_<;>intro hcd<;>(try simp only[hcP]at hcd)<;>try exact cdT|(refine zj (f:=130) rfl Tryz.call130 (h:=AEq.pure' agT (zqz _ _ _ (by omega)) (hq:=?_)))|((refine zo [0,1] (by rw[Tryz.results133,Lf.jC]) yH ?_)<;>(try exact uT))|refine hK _ _ ?_;clear hK K)
theorem zEL(s:Nat)(x:List UInt8)(w:Bool)(t g st p:Int)(fd:Bool)(d:List UInt8)(fs:Bool)(e:List (Int×Int))(wt pa:Int)(al:Bool)(pr la co sp:Int)(hx:x.length<=10000000)(hl:e.length<=100000)(h1:¬t=1)(h2:¬t=2)(h3:¬t=3)(h5:¬t=5)(h7:¬t=7)(h8:¬t=8)(h4:¬t=4): AEq Tryz.prog 133 [.ptr 0 0,.ag [i64 t,i64 g,i64 st,i64 p,.sl fd false (d.map zk),.sl fs false (e.map z7),i64 wt,i64 pa,bl al,i64 pr,i64 la,i64 co,i64 sp]] [.box [.row 1 s,bl w],.row s 5 1 (x.map zk)] (.tu []) [.box [.row 1 s,bl w],.row s 5 1 (x.map zk)]:=by
 refine enT Tryz.func133 Tryz.ntmps133 ?_
 have hU:=True.intro
 repeat'(first|refine goR ?_|refine zd fun K hK=>?_|refine zc ?_ ?_<;>intro hcd<;>(try simp only[hcP]at hcd)<;>try exact cdT|((refine zo [0,1] (by rw[Tryz.results133,Lf.jC]) yH ?_)<;>(try exact uT))|refine hK _ _ ?_;clear hK K)
end Go.Proofs.YtdalcgfnlbofdaaGreatDoor
