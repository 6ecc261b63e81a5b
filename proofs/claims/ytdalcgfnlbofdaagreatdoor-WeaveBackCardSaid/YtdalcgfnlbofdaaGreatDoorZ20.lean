import Derived.Test.YtdalcgfnlbofdaaGreatDoorZ10
import Derived.Test.YtdalcgfnlbofdaaGreatDoorZ19
set_option linter.unusedVariables false
set_option linter.unusedSimpArgs false
namespace Go.Proofs.YtdalcgfnlbofdaaGreatDoor
open Go Go.Lf Go.Proofs
attribute [local irreducible] Lf.rg Lf.ro Lf.PWp Lf.SOp Lf.ACall Lf.Scoped Lf.dg
set_option maxRecDepth 20000
set_option maxHeartbeats 4000000
theorem zke(b:List UInt8)(most:Int): (slG b most).1.length<=8*b.length:=by
 have hbd:=zen b (c:=7) (by decide) (by decide)
 rcases zbL b most with⟨h1,h2⟩|⟨h1,h0,h3,h2⟩|⟨h1,h0,h3,h4,h2⟩|⟨h1,h0,h3,h4⟩
 ·rw[h2];exact Nat.zero_le _
 ·rw[h2];exact Nat.zero_le _
 ·rw[h2];exact Nat.zero_le _
 ·obtain ⟨k0, hk⟩ : ∃ j : Nat, (pgG b 7).2.1 = j := ⟨(pgG b 7).2.1.toNat, by omega⟩
  obtain⟨n0,hn⟩:∃j:Nat,(pgG b 7).1=j:=⟨(pgG b 7).1.toNat,by omega⟩
  have hc:(zaI b k0 n0).length<=b.length:=by unfold zaI;rw[List.length_take,List.length_drop];omega
  cases hh:hiB b with
  | false=>rw[zdn h1 h3 h4 hk hn hh];dsimp only;omega
  | true=>
   have hl:=zfm (bitsL (zaI b k0 n0)) 0 0 []
   rw[zej,List.length_nil]at hl
   by_cases h5:(huM (bitsL (zaI b k0 n0)) 0 0 []).2=0
   ·rw[zdo h1 h3 h4 hk hn hh h5];dsimp only;omega
   ·rw[zfr h1 h3 h4 hk hn hh h5];exact Nat.zero_le _
theorem zkf(b:List UInt8)(k i:Int)(nm:List UInt8)(ns:Bool)(a:Nat)(hn:nm.length<=8*b.length): (rgV b k i nm ns a).nm.length<=8*b.length/\(rgV b k i nm ns a).vl.length<=8*b.length:=by
 have h:=zke (b.drop a) (b.length:Int)
 rw[List.length_drop]at h
 unfold rgV
 split
 ·exact⟨Nat.zero_le _,Nat.zero_le _⟩
 ·exact⟨hn,by dsimp only;omega⟩
theorem zqI(b:List UInt8)(k:Int)(a:Nat): (rgN b k a).nm.length<=8*b.length/\(rgN b k a).vl.length<=8*b.length:=by
 have h:=zke (b.drop a) (b.length:Int)
 rw[List.length_drop]at h
 unfold rgN
 split
 ·exact⟨Nat.zero_le _,Nat.zero_le _⟩
 ·exact zkf _ _ _ _ _ _ (by omega)
theorem zoe(b:List UInt8): (rgM b).nm.length<=8*b.length/\(rgM b).vl.length<=8*b.length:=by
 unfold rgM
 split
 ·exact⟨Nat.zero_le _,Nat.zero_le _⟩
 ·unfold rgK
  split
  ·exact⟨Nat.zero_le _,Nat.zero_le _⟩
  split
  ·exact⟨Nat.zero_le _,Nat.zero_le _⟩
  split
  ·split
   ·exact⟨Nat.zero_le _,Nat.zero_le _⟩
   ·exact⟨Nat.zero_le _,Nat.zero_le _⟩
  split
  ·exact zqI _ _ _
  ·exact zkf _ _ _ _ _ _ (Nat.zero_le _)
structure DT where
 (xs:List Fl) (s:Nat) (m:Int)
structure DQ where
 (F:List Fl) (S:List Int) (t:DT)
def fG(xs:List Fl)(r:Rp): Option Fl:=if r.i=0 then some ⟨⟨r.nm.toArray⟩,⟨#[]⟩,false⟩else dAt xs r.i
def fV(r:Rp)(g:Fl): Fl:=if r.k=1 then g else⟨g.n,⟨r.vl.toArray⟩,decide (r.k=4)⟩
def zbU(t:DT)(f:Fl): DT:=if wt f<=t.m then⟨addX t.xs t.m f,t.s+2,t.m⟩else⟨xsE,t.s+1,t.m⟩
def vQ(q:DQ)(r:Rp): DQ×Int:=
 if r.k=5 then(if 0<q.F.length then(q,13)else(⟨q.F,snI q.S r.sz,⟨keptL q.t.xs r.sz,q.t.s+1,r.sz⟩⟩,0))
 else match fG q.t.xs r with
  | none=>(q,12)
  | some g=>(⟨snF q.F (fV r g),q.S,if r.k=2 then zbU q.t (fV r g)else q.t⟩,0)
def kP: Nat->List UInt8->DQ->DQ×Int
 | 0,_,q=>(q,0)
 | n+1,b,q=>if b.length=0 then(q,0)else if(rgM b).e≠0 then(q,(rgM b).e)else if(vQ q (rgM b)).2≠0 then vQ q (rgM b)else kP n (b.drop (rgM b).n.toNat) (vQ q (rgM b)).1
theorem zbc{n:Nat}{b:List UInt8}{q:DQ}(h:b.length=0): kP n b q=(q,0):=by
 cases n with
 | zero=>rfl
 | succ n=>rw[kP,if_pos h]
theorem zkg{n:Nat}{b:List UInt8}{q:DQ}(h:b.length≠0)(he:(rgM b).e≠0): kP (n+1) b q=(q,(rgM b).e):=by rw[kP,if_neg h,if_pos he]
theorem zgQ{n:Nat}{b:List UInt8}{q q':DQ}{e:Int}(h:b.length≠0)(he:(rgM b).e=0)(hs:vQ q (rgM b)=(q',e))(h2:e≠0): kP (n+1) b q=(q',e):=by
 rw[kP,if_neg h,if_neg (by simpa using he),hs,if_pos h2]
theorem jv{n a:Nat}{b:List UInt8}{q q':DQ}(h:b.length≠0)(he:(rgM b).e=0)(ha:(rgM b).n=(a:Int))(hs:vQ q (rgM b)=(q',0)): kP (n+1) b q=kP n (b.drop a) q':=by
 rw[kP,if_neg h,if_neg (by simpa using he),hs,if_neg (by simp),ha,Int.toNat_natCast]
theorem zhX: ∀p∈stTab,p.1.size<=100/\p.2.size<=100:=by decide +kernel
theorem zm0(i:Int): (stF i).n.size<=100/\(stF i).v.size<=100:=by
 unfold stF v6
 dsimp only
 by_cases h:1<=i
 ·rw[if_pos h]
  by_cases h2:i.toNat-1<stTab.length
  ·rw[List.getD_eq_getElem?_getD,List.getElem?_eq_getElem h2,Option.getD_some]
   exact zhX _ (List.getElem_mem h2)
  ·rw [List.getD_eq_getElem?_getD, List.getElem?_eq_none (by omega), Option.getD_none]
   exact⟨Nat.zero_le _,Nat.zero_le _⟩
 ·rw[if_neg h];exact⟨Nat.zero_le _,Nat.zero_le _⟩
theorem zgR{xs:List Fl}(hb:∀f∈xs,f.n.size<=1000000/\f.v.size<=1000000){i:Int}{g:Fl}(h:dAt xs i=some g): g.n.size<=1000000/\g.v.size<=1000000:=by
 unfold dAt at h
 split at h
 ·split at h
  ·obtain rfl:=Option.some.inj h
   have:=zm0 i
   omega
  ·simp at h
 ·exact hb g (List.mem_reverse.1 (List.mem_of_getElem? h))
section
structure DW where
 (b:List UInt8) (n a c:Nat) (q:DQ)
def DOk(w:DW): Prop:=w.b.length<=w.n/\w.b.length<=50000/\w.q.t.xs.length+w.b.length<=90000/\zC w.q.t.xs<=w.q.t.m/\0<=w.q.t.m/\w.q.t.m<=2147483647/\(∀f∈w.q.t.xs,f.n.size<=1000000/\f.v.size<=1000000)/\w.q.F.length+w.b.length<=100000/\w.q.S.length+w.b.length<=100000
def xs0: List Fl:=[]
def ss0: List Int:=[]
theorem zqJ: xs0.length=0:=rfl
theorem zqK: ss0.length=0:=rfl
theorem zqL: xs0.map flA=[]:=rfl
theorem zqM: ss0.map yz=[]:=rfl
theorem j8{Fs:List Fl}{S:List Int}{t:DT}{r:Rp}(h:r.k=5)(h0:¬0<Fs.length): vQ ⟨Fs,S,t⟩ r=(⟨Fs,snI S r.sz,⟨keptL t.xs r.sz,t.s+1,r.sz⟩⟩,0):=by
 unfold vQ;rw[if_pos h];dsimp only;rw[if_neg h0]
theorem zbV{Fs:List Fl}{S:List Int}{t:DT}{r:Rp}(h:r.k=5)(h0:0<Fs.length): vQ ⟨Fs,S,t⟩ r=(⟨Fs,S,t⟩,13):=by
 unfold vQ;rw[if_pos h];dsimp only;rw[if_pos h0]
theorem zdA{Fs:List Fl}{S:List Int}{t:DT}{r:Rp}(h:r.k≠5)(hg:fG t.xs r=none): vQ ⟨Fs,S,t⟩ r=(⟨Fs,S,t⟩,12):=by
 unfold vQ;rw[if_neg h];dsimp only;rw[hg]
theorem jK{Fs:List Fl}{S:List Int}{t:DT}{r:Rp}{g:Fl}(h:r.k≠5)(h2:r.k≠2)(hg:fG t.xs r=some g): vQ ⟨Fs,S,t⟩ r=(⟨snF Fs (fV r g),S,t⟩,0):=by
 unfold vQ;rw[if_neg h];dsimp only;rw[hg];dsimp only;rw[if_neg h2]
theorem zdB{Fs:List Fl}{S:List Int}{t:DT}{r:Rp}{g:Fl}(h2:r.k=2)(hg:fG t.xs r=some g): vQ ⟨Fs,S,t⟩ r=(⟨snF Fs (fV r g),S,zbU t (fV r g)⟩,0):=by
 unfold vQ;rw[if_neg (by omega)];dsimp only;rw[hg];dsimp only;rw[if_pos h2]
theorem zof{t:DT}{f:Fl}(h:wt f<=t.m): zbU t f=⟨addX t.xs t.m f,t.s+2,t.m⟩:=if_pos h
theorem zog{t:DT}{f:Fl}(h:¬wt f<=t.m): zbU t f=⟨xsE,t.s+1,t.m⟩:=if_neg h
theorem zwa{xs:List Fl}{r:Rp}(h:r.i=0): fG xs r=some ⟨⟨r.nm.toArray⟩,⟨#[]⟩,false⟩:=if_pos h
theorem zwb{xs:List Fl}{r:Rp}(h:¬r.i=0): fG xs r=dAt xs r.i:=if_neg h
theorem zes{xs:List Fl}{m:Int}{f:Fl}(hb:∀f∈xs,f.n.size<=1000000/\f.v.size<=1000000)(h1:f.n.size<=1000000)(h2:f.v.size<=1000000): ∀g∈addX xs m f,g.n.size<=1000000/\g.v.size<=1000000:=by
 intro g hg
 unfold addX at hg
 rw[List.mem_append,List.mem_singleton]at hg
 rcases hg with hg|rfl
 ·exact hb g (v3 _ _ g hg)
 ·exact⟨h1,h2⟩
theorem asz(l:List UInt8): (⟨l.toArray⟩:ByteArray).size=l.length:=rfl
theorem zfy: xsE.length=0:=rfl
theorem zkh: zC xsE=0:=rfl
theorem zdC: ∀g∈xsE,g.n.size<=1000000/\g.v.size<=1000000:=by intro f hf;simp[xsE]at hf
def zwc(Q:DQ)(E:Int): AV:=if E=0 then .tu [.ag [.sl false false (Q.F.map flA),.sl false false (Q.S.map yz)],i64 0]else .tu [.ag [.sl true false [],.sl true false []],i64 E]
theorem zki{Q:DQ}: zwc Q 0=.tu [.ag [.sl false false (Q.F.map flA),.sl false false (Q.S.map yz)],i64 0]:=if_pos rfl
theorem zdD{Q:DQ}{E:Int}(h:E≠0): zwc Q E=.tu [.ag [.sl true false [],.sl true false []],i64 E]:=if_neg h
def zwd(s:Nat)(xs:List Fl)(m:Int)(Q:DQ)(E:Int): Sto:=if E=0 then[.box [.ptr 3 0],.box [.row 2 s,i64 (zC xs),i64 m],.row s 103 3 (xs.map flA),.box [.row 4 Q.t.s,i64 (zC Q.t.xs),i64 Q.t.m],.row Q.t.s 103 3 (Q.t.xs.map flA)]else[.box [.ptr 1 0],.box [.row 2 s,i64 (zC xs),i64 m],.row s 103 3 (xs.map flA)]
theorem zkj{s:Nat}{xs:List Fl}{m:Int}{Q:DQ}: zwd s xs m Q 0=[.box [.ptr 3 0],.box [.row 2 s,i64 (zC xs),i64 m],.row s 103 3 (xs.map flA),.box [.row 4 Q.t.s,i64 (zC Q.t.xs),i64 Q.t.m],.row Q.t.s 103 3 (Q.t.xs.map flA)]:=if_pos rfl
theorem zdE{s:Nat}{xs:List Fl}{m:Int}{Q:DQ}{E:Int}(h:E≠0): zwd s xs m Q E=[.box [.ptr 1 0],.box [.row 2 s,i64 (zC xs),i64 m],.row s 103 3 (xs.map flA)]:=if_neg h
attribute [local irreducible] wt zC keptL flN addX v6 zqF snI snF dAt xsE rgM kP xs0 ss0 vQ fG fV zbU zwc zwd
set_option maxRecDepth 20000 in
theorem zet(f q:Bool)(b:List UInt8)(xs:List Fl)(s:Nat)(m:Int)(hb:b.length<=50000)(hx:xs.length<=30000)(hS:zC xs<=m)(hm0:0<=m)(hm1:m<=2147483647)(hbb:∀f∈xs,f.n.size<=1000000/\f.v.size<=1000000)(Q:DQ)(E:Int)(htot:kP b.length b ⟨xs0,ss0,⟨xs,0,m⟩⟩=(Q,E)): AEq Tryz.prog 154 [.ptr 0 0,.sl f q (b.map zk)] [.box [.ptr 1 0],.box [.row 2 s,i64 (zC xs),i64 m],.row s 103 3 (xs.map flA)] (zwc Q E) (zwd s xs m Q E):=by
 have hx0:=zqJ
 have hs0:=zqK
 refine enT Tryz.func154 Tryz.ntmps154 ?_
 have hU:=True.intro
 repeat'(first|refine goR ?_|refine zd fun K hK=>?_|refine zc ?_ ?_<;>intro hcd<;>(try simp only[hcP]at hcd)<;>try exact cdT|(refine zj (f:=186) rfl Tryz.call186 (h:=AEq.sub' [_,_] (hc:=zux _ _ _ _ (by omega)) (hq:=?_)))|refine hK _ _ ?_;clear hK K)
 refine yE 6 0 103 3 (by decide) rfl rfl rfl ?_
 refine yE 6 1 3 1 (by decide) rfl rfl rfl ?_
 refine zN [1,5,7,8,9,30,31,32,33,34,35,36,37,38,39,40,41,42,43,44,45,46,47,48,49,50,51,52,53,54,55,56,57,58,59] (fun w:DW=>[(1,.sl false q (w.b.map zk))]) (fun w=>[.box [.ptr 1 0],.box [.row 2 s,i64 (zC xs),i64 m],.row s 103 3 (xs.map flA),.box [.sl true false [],.sl true false []],.box [.row 5 w.q.t.s,i64 (zC w.q.t.xs),i64 w.q.t.m],.row w.q.t.s 103 3 (w.q.t.xs.map flA),.box [.row 7 w.a,.row 8 w.c,.ptr 4 0],.row w.a 103 3 (w.q.F.map flA),.row w.c 3 1 (w.q.S.map yz)]) (fun w=>DOk w/\kP w.n w.b w.q=(Q,E)) (fun w=>w.b.length) ⟨b,b.length,0,0,⟨xs0,ss0,⟨xs,0,m⟩⟩⟩ ⟨⟨Nat.le_refl _,hb,by dsimp only;omega,hS,hm0,hm1,hbb,by dsimp only;omega,by dsimp only;omega⟩,htot⟩ ?_ (by dsimp only;rw[zqL,zqM];rfl) ?_
 ·dsimp only
  (refine⟨⟨_,sT,?_⟩,trivial⟩<;>(try exact zu))
 ·rintro⟨b,n,a,c,⟨F,S,⟨xt,st,mt⟩⟩⟩ ⟨⟨hbn,hbN,hxN,hSt,hmt0,hmt1,hbt,hFN,hSN⟩,htt⟩
  dsimp only at hbn hbN hxN hSt hmt0 hmt1 hbt hFN hSN htt ⊢
  simp only[yN,List.map_cons,List.map_nil,List.cons_append,List.nil_append]
  by_cases hlt:b.length=0
  ·rw[zbc hlt]at htt
   obtain⟨rfl,rfl⟩:(⟨F,S,⟨xt,st,mt⟩⟩:DQ)=Q/\0=E:=by simpa only[Prod.mk.injEq]using htt
   try dsimp only
   repeat'(first|refine goR ?_|refine zd fun K hK=>?_|refine zc ?_ ?_<;>intro hcd<;>(try simp only[hcP]at hcd)<;>try exact cdT|(guard_target =~ (_\/_)/\_;rw[zki,zkj])|((refine zX [0,1,2,4,5] exT (by rfl) (by rw[Tryz.results154];exact Lf.vF roT roT) sT sT (zF ?_ ?_) ?_)<;>(try exact uT))|refine hK _ _ ?_;clear hK K|(apply_assumption (exfalso:=false) (symm:=false)))
  obtain⟨n',rfl⟩:∃j,n=j+1:=⟨n-1,by omega⟩
  have hrr:=zdq b
  have hrl:=zoe b
  obtain⟨K,I,NM,NS,VL,VS,SZ,M,e1,hR⟩:∃K I NM NS VL VS SZ M e,rgM b=⟨K,I,NM,NS,VL,VS,SZ,M,e⟩:=⟨_,_,_,_,_,_,_,_,_,rfl⟩
  by_cases he0:e1≠0
  ·have hee : (rgM b).e ≠ 0 := by rw [hR]; exact he0
   rw[zkg hlt hee,hR]at htt
   obtain⟨rfl,rfl⟩:(⟨F,S,⟨xt,st,mt⟩⟩:DQ)=Q/\e1=E:=by simpa only[Prod.mk.injEq]using htt
   have hU:=@hR
   repeat'(first|refine goR ?_|refine zd fun K hK=>?_|refine zc ?_ ?_<;>intro hcd<;>(try simp only[hcP]at hcd)<;>try exact cdT|(refine zj (f:=187) rfl Tryz.call187 (h:=AEq.pure' agT (j6 _ _ _ (by omega)) (hq:=?_)))|(guard_target =~ (_\/_)/\_;rw[zdD he0,zdE he0])|((refine zX [0,1,2] exT (by rfl) (by rw[Tryz.results154];exact Lf.vF roT roT) sT sT (zF ?_ ?_) ?_)<;>(try exact uT))|refine hK _ _ ?_;clear hK K)
  obtain rfl:e1=0:=by omega
  have he:(rgM b).e=0:=by rw[hR]
  rcases hrr with⟨h,_⟩|⟨_,hP,hM0,hM1⟩
  ·exact absurd he h
  rw[hR]at hP hM0 hM1 hrl
  dsimp only at hP hM0 hM1 hrl
  obtain⟨a1,rfl⟩:∃j:Nat,M=j:=⟨M.toNat,by omega⟩
  have hM:(rgM b).n=(a1:Int):=by rw[hR]
  have hdl:(b.drop a1).length=b.length-a1:=List.length_drop
  have hnz:=asz NM
  have hvz:=asz VL
  have hNMs:(⟨NM.toArray⟩:ByteArray).size<=1000000:=by omega
  have hVLs:(⟨VL.toArray⟩:ByteArray).size<=1000000:=by omega
  have hKb:1<=K/\K<=5:=hP.1
  have hIb:0<=I/\I<=2147483647:=hP.2.1
  have hZb:0<=SZ/\SZ<=2147483647:=hP.2.2.1
  by_cases h5:K=5
  ·subst h5
   by_cases hF0:0<F.length
   ·have hs := zbV (Fs := F) (S := S) (t := ⟨xt, st, mt⟩) (r := rgM b) (by rw [hR]) hF0
    rw[zgQ hlt he hs (by decide)]at htt
    have h13:(13:Int)≠0:=by decide
    obtain⟨rfl,rfl⟩:(⟨F,S,⟨xt,st,mt⟩⟩:DQ)=Q/\13=E:=by simpa only[Prod.mk.injEq]using htt
    have hU:=@hR
    repeat'(first|refine goR ?_|refine zd fun K hK=>?_|refine zc ?_ ?_<;>intro hcd<;>(try simp only[hcP]at hcd)<;>try exact cdT|(refine zj (f:=188) rfl Tryz.call188 (h:=AEq.sub' [_,_,_,_,_] (hc:=zqG _ _ _ _ _ _ _ _ aoT aoT) (hq:=?_)))|refine y11 ?_|(guard_target =~ (_\/_)/\_;rw[zdD h13,zdE h13])|((refine zX [0,1,2] exT (by rfl) (by rw[Tryz.results154];exact Lf.vF roT roT) sT sT (zF ?_ ?_) ?_)<;>(try exact uT))|refine hK _ _ ?_;clear hK K)
   have hs:=j8 (Fs:=F) (S:=S) (t:=⟨xt,st,mt⟩) (r:=rgM b) (by rw[hR]) hF0
   rw[hR]at hs
   dsimp only at hs
   have hkl:=yS SZ xt
   have hks:=vO SZ hZb.1 xt
   have hsl:=zkd S SZ
   have hF00:F.length=0:=by omega
   have hap:=(zkc S SZ).symm
   have hSt2:zC xt<=2147483647:=by omega
   have hs':vQ ⟨F,S,⟨xt,st,mt⟩⟩ (rgM b)=(⟨F,snI S SZ,⟨keptL xt SZ,st+1,SZ⟩⟩,0):=by rw[hR];exact hs
   have hU:=@hR
   repeat'(first|refine goR ?_|refine zd fun K hK=>?_|refine zc ?_ ?_<;>intro hcd<;>(try simp only[hcP]at hcd)<;>try exact cdT|(guard_target =~ SOp _ _ ⟨_,.slice _ _ _ _ _,_,_,_,none⟩ _ _ _;refine z8 rfl (hg:=(fun _=>gT)) (hK:=?_))|(refine zj (f:=188) rfl Tryz.call188 (h:=AEq.sub' [_,_,_,_,_] (hc:=zqH _ _ _ _ _ _ _ _ aoT aoT aoT aoT aoT aoT aoT aoT aoT aoT) (hq:=?_)))|refine y11 ?_|refine hK _ _ ?_;clear hK K|(dsimp only[Lf.yk,Lf.yJ]))
   refine⟨⟨b.drop a1,n',a,c+1,⟨F,snI S SZ,⟨keptL xt SZ,st+1,SZ⟩⟩⟩,[0,1,2,3,4,5,6,7,8],⟨⟨by dsimp only;omega,by dsimp only;omega,by dsimp only;omega,hks,hZb.1,hZb.2,fun f hf=>hbt f (v3 _ _ f hf),by dsimp only;omega,by dsimp only;omega⟩,?_⟩,?_,rfl,?_,arT,?_⟩
   ·(rw[<-htt];exact(jv hlt he hM hs').symm)
   ·dsimp only;omega
   ·dsimp only
    have hU:=True.intro
    (refine⟨⟨_,sT,?_⟩,trivial⟩<;>(try exact zu))
   ·dsimp only
    first|rfl|(simp(disch:=omega)only[go_sem,seval,↓reduceIte];done)|(simp(disch:=omega)only[go_sem,seval,↓reduceIte];rfl)|trace_state
  have hSt2:zC xt<=2147483647:=by omega
  have hxt9:xt.length<=90000:=by omega
  cases hg:fG xt (rgM b)with
  | none=>
   have hs:=zdA (Fs:=F) (S:=S) (t:=⟨xt,st,mt⟩) (r:=rgM b) (by rw[hR];exact h5) hg
   rw[zgQ hlt he hs (by decide)]at htt
   by_cases hI0:I=0
   ·rw[zwa (by rw[hR];exact hI0)]at hg;exact absurd hg (by simp)
   rw[zwb (by rw[hR];exact hI0),hR]at hg
   dsimp only at hg
   have h12:(12:Int)≠0:=by decide
   obtain⟨rfl,rfl⟩:(⟨F,S,⟨xt,st,mt⟩⟩:DQ)=Q/\12=E:=by simpa only[Prod.mk.injEq]using htt
   have hU:=@hR
   repeat'(first|refine goR ?_|refine zd fun K hK=>?_|refine zc ?_ ?_<;>intro hcd<;>(try simp only[hcP]at hcd)<;>try exact cdT|(refine zj (f:=189) rfl Tryz.call189 (h:=AEq.sub' [_,_,_,_,_] (hc:=zyr _ _ _ _ _ _ _ _ _ _ _ _ _ _ aoT aoT aoT aoT) (hq:=?_)))|refine y11 ?_|(guard_target =~ (_\/_)/\_;rw[zdD h12,zdE h12])|((refine zX [0,1,2] exT (by rfl) (by rw[Tryz.results154];exact Lf.vF roT roT) sT sT (zF ?_ ?_) ?_)<;>(try exact uT))|refine hK _ _ ?_;clear hK K)
  | some g=>
   have hbase:(0<I/\dAt xt I=some g)\/(I=0/\g=⟨⟨NM.toArray⟩,⟨#[]⟩,false⟩):=by
    by_cases hI0:I=0
    ·rw [zwa (by rw [hR]; exact hI0), hR] at hg
     exact .inr ⟨hI0,(Option.some.inj hg).symm⟩
    ·rw [zwb (by rw [hR]; exact hI0), hR] at hg
     exact .inl ⟨by omega,hg⟩
   have hgs:g.n.size<=1000000/\g.v.size<=1000000:=by
    rcases hbase with⟨_,h⟩|⟨_,rfl⟩
    ·exact zgR hbt h
    ·exact⟨hNMs,by show(0:Nat)<=_;omega⟩
   obtain⟨hgs1,hgs2⟩:=hgs
   by_cases hk:K=1
   ·subst hk
    have hfv:fV (rgM b) g=g:=by rw[hR];unfold fV;rfl
    have hs:=jK (Fs:=F) (S:=S) (t:=⟨xt,st,mt⟩) (r:=rgM b) (by rw[hR];show(1:Int)≠5;decide) (by rw[hR];show(1:Int)≠2;decide) hg
    rw[hfv]at hs
    have hsn:=kO F g
    have hU:=@hR
    repeat'(first|refine goR ?_|refine zd fun K hK=>?_|refine zc ?_ ?_<;>intro hcd<;>(try simp only[hcP]at hcd)<;>try exact cdT|(guard_target =~ SOp _ _ ⟨_,.slice _ _ _ _ _,_,_,_,none⟩ _ _ _;refine z8 rfl (hg:=(fun _=>gT)) (hK:=?_))|(refine zj (f:=189) rfl Tryz.call189 (h:=AEq.sub' [_,_,_,_,_] (hc:=zEA _ _ _ _ _ _ _ _ _ _ _ _ _ aoT aoT aoT aoT aoT aoT aoT _ aoT aoT aoT aoT aoT aoT) (hq:=?_)))|refine y11 ?_|refine hK _ _ ?_;clear hK K|(dsimp only[Lf.yk,Lf.yJ]))
    refine⟨⟨b.drop a1,n',a+1,c,⟨snF F g,S,⟨xt,st,mt⟩⟩⟩,[0,1,2,3,4,5,6,7,8],⟨⟨by dsimp only;omega,by dsimp only;omega,by dsimp only;omega,hSt,hmt0,hmt1,hbt,by dsimp only;omega,by dsimp only;omega⟩,?_⟩,?_,rfl,?_,arT,?_⟩
    ·(rw[<-htt];exact(jv hlt he hM hs).symm)
    ·dsimp only;omega
    ·dsimp only
     have hU:=True.intro
     (refine⟨⟨_,sT,?_⟩,trivial⟩<;>(try exact zu))
    ·dsimp only
     first|rfl|(simp(disch:=omega)only[go_sem,seval,↓reduceIte];done)|(simp(disch:=omega)only[go_sem,seval,↓reduceIte];rfl)|trace_state
   by_cases hk:K=3
   ·subst hk
    have hfv:fV (rgM b) g=⟨g.n,⟨VL.toArray⟩,false⟩:=by rw[hR];unfold fV;rfl
    have hs:=jK (Fs:=F) (S:=S) (t:=⟨xt,st,mt⟩) (r:=rgM b) (by rw[hR];show(3:Int)≠5;decide) (by rw[hR];show(3:Int)≠2;decide) hg
    rw[hfv]at hs
    have hsn:=kO F ⟨g.n,⟨VL.toArray⟩,false⟩
    have hU:=@hR
    repeat'(first|refine goR ?_|refine zd fun K hK=>?_|refine zc ?_ ?_<;>intro hcd<;>(try simp only[hcP]at hcd)<;>try exact cdT|(guard_target =~ SOp _ _ ⟨_,.slice _ _ _ _ _,_,_,_,none⟩ _ _ _;refine z8 rfl (hg:=(fun _=>gT)) (hK:=?_))|(refine zj (f:=189) rfl Tryz.call189 (h:=AEq.sub' [_,_,_,_,_] (hc:=zEB _ _ _ _ _ _ _ _ _ _ _ _ _ aoT aoT aoT aoT aoT aoT aoT _ aoT aoT aoT aoT aoT aoT) (hq:=?_)))|refine y11 ?_|refine hK _ _ ?_;clear hK K|(dsimp only[Lf.yk,Lf.yJ]))
    refine⟨⟨b.drop a1,n',a+1,c,⟨snF F ⟨g.n,⟨VL.toArray⟩,false⟩,S,⟨xt,st,mt⟩⟩⟩,[0,1,2,3,4,5,6,7,8],⟨⟨by dsimp only;omega,by dsimp only;omega,by dsimp only;omega,hSt,hmt0,hmt1,hbt,by dsimp only;omega,by dsimp only;omega⟩,?_⟩,?_,rfl,?_,arT,?_⟩
    ·(rw[<-htt];exact(jv hlt he hM hs).symm)
    ·dsimp only;omega
    ·dsimp only
     have hU:=True.intro
     (refine⟨⟨_,sT,?_⟩,trivial⟩<;>(try exact zu))
    ·dsimp only
     first|rfl|(simp(disch:=omega)only[go_sem,seval,↓reduceIte];done)|(simp(disch:=omega)only[go_sem,seval,↓reduceIte];rfl)|trace_state
   by_cases hk:K=4
   ·subst hk
    have hfv:fV (rgM b) g=⟨g.n,⟨VL.toArray⟩,true⟩:=by rw[hR];unfold fV;rfl
    have hs:=jK (Fs:=F) (S:=S) (t:=⟨xt,st,mt⟩) (r:=rgM b) (by rw[hR];show(4:Int)≠5;decide) (by rw[hR];show(4:Int)≠2;decide) hg
    rw[hfv]at hs
    have hsn:=kO F ⟨g.n,⟨VL.toArray⟩,true⟩
    have hU:=@hR
    repeat'(first|refine goR ?_|refine zd fun K hK=>?_|refine zc ?_ ?_<;>intro hcd<;>(try simp only[hcP]at hcd)<;>try exact cdT|(guard_target =~ SOp _ _ ⟨_,.slice _ _ _ _ _,_,_,_,none⟩ _ _ _;refine z8 rfl (hg:=(fun _=>gT)) (hK:=?_))|(refine zj (f:=189) rfl Tryz.call189 (h:=AEq.sub' [_,_,_,_,_] (hc:=zEC _ _ _ _ _ _ _ _ _ _ _ _ _ aoT aoT aoT aoT aoT aoT aoT _ aoT aoT aoT aoT aoT aoT) (hq:=?_)))|refine y11 ?_|refine hK _ _ ?_;clear hK K|(dsimp only[Lf.yk,Lf.yJ]))
    refine⟨⟨b.drop a1,n',a+1,c,⟨snF F ⟨g.n,⟨VL.toArray⟩,true⟩,S,⟨xt,st,mt⟩⟩⟩,[0,1,2,3,4,5,6,7,8],⟨⟨by dsimp only;omega,by dsimp only;omega,by dsimp only;omega,hSt,hmt0,hmt1,hbt,by dsimp only;omega,by dsimp only;omega⟩,?_⟩,?_,rfl,?_,arT,?_⟩
    ·(rw[<-htt];exact(jv hlt he hM hs).symm)
    ·dsimp only;omega
    ·dsimp only
     have hU:=True.intro
     (refine⟨⟨_,sT,?_⟩,trivial⟩<;>(try exact zu))
    ·dsimp only
     first|rfl|(simp(disch:=omega)only[go_sem,seval,↓reduceIte];done)|(simp(disch:=omega)only[go_sem,seval,↓reduceIte];rfl)|trace_state
   obtain rfl:K=2:=by omega
   have hfv:fV (rgM b) g=⟨g.n,⟨VL.toArray⟩,false⟩:=by rw[hR];unfold fV;rfl
   have hs:=zdB (Fs:=F) (S:=S) (t:=⟨xt,st,mt⟩) (r:=rgM b) (by rw[hR]) hg
   rw[hfv]at hs
   have hsn:=kO F ⟨g.n,⟨VL.toArray⟩,false⟩
   by_cases hw:wt ⟨g.n,⟨VL.toArray⟩,false⟩<=mt
   ·rw[zof hw]at hs
    dsimp only at hs
    have hxl:=zdz xt mt ⟨g.n,⟨VL.toArray⟩,false⟩
    have hxs:=zgN (xs:=xt) hw
    have hU:=@hR
    repeat'(first|refine goR ?_|refine zd fun K hK=>?_|refine zc ?_ ?_<;>intro hcd<;>(try simp only[hcP]at hcd)<;>try exact cdT|(guard_target =~ SOp _ _ ⟨_,.slice _ _ _ _ _,_,_,_,none⟩ _ _ _;refine z8 rfl (hg:=(fun _=>gT)) (hK:=?_))|(refine zj (f:=189) rfl Tryz.call189 (h:=AEq.sub' [_,_,_,_,_] (hc:=zys _ _ _ _ _ _ _ _ _ _ _ _ _ aoT aoT aoT aoT aoT aoT aoT _ aoT aoT aoT aoT aoT aoT aoT) (hq:=?_)))|refine y11 ?_|refine hK _ _ ?_;clear hK K|(dsimp only[Lf.yk,Lf.yJ]))
    refine⟨⟨b.drop a1,n',a+1,c,⟨snF F ⟨g.n,⟨VL.toArray⟩,false⟩,S,⟨addX xt mt ⟨g.n,⟨VL.toArray⟩,false⟩,st+2,mt⟩⟩⟩,[0,1,2,3,4,5,6,7,8],⟨⟨by dsimp only;omega,by dsimp only;omega,by dsimp only;omega,hxs,hmt0,hmt1,zes hbt hgs1 hVLs,by dsimp only;omega,by dsimp only;omega⟩,?_⟩,?_,rfl,?_,arT,?_⟩
    ·(rw[<-htt];exact(jv hlt he hM hs).symm)
    ·dsimp only;omega
    ·dsimp only
     have hU:=True.intro
     (refine⟨⟨_,sT,?_⟩,trivial⟩<;>(try exact zu))
    ·dsimp only
     first|rfl|(simp(disch:=omega)only[go_sem,seval,↓reduceIte];done)|(simp(disch:=omega)only[go_sem,seval,↓reduceIte];rfl)|trace_state
   ·rw[zog hw]at hs
    dsimp only at hs
    have hwn:mt<wt ⟨g.n,⟨VL.toArray⟩,false⟩:=by omega
    have hxl:=zfy
    have hxs:=zkh
    have hU:=@hR
    repeat'(first|refine goR ?_|refine zd fun K hK=>?_|refine zc ?_ ?_<;>intro hcd<;>(try simp only[hcP]at hcd)<;>try exact cdT|(guard_target =~ SOp _ _ ⟨_,.slice _ _ _ _ _,_,_,_,none⟩ _ _ _;refine z8 rfl (hg:=(fun _=>gT)) (hK:=?_))|(refine zj (f:=189) rfl Tryz.call189 (h:=AEq.sub' [_,_,_,_,_] (hc:=zyt _ _ _ _ _ _ _ _ _ _ _ _ _ aoT aoT aoT aoT aoT aoT aoT _ aoT aoT aoT aoT aoT aoT aoT) (hq:=?_)))|refine y11 ?_|refine hK _ _ ?_;clear hK K|(dsimp only[Lf.yk,Lf.yJ]))
    refine⟨⟨b.drop a1,n',a+1,c,⟨snF F ⟨g.n,⟨VL.toArray⟩,false⟩,S,⟨xsE,st+1,mt⟩⟩⟩,[0,1,2,3,4,5,6,7,8],⟨⟨by dsimp only;omega,by dsimp only;omega,by dsimp only;omega,by dsimp only;omega,hmt0,hmt1,zdC,by dsimp only;omega,by dsimp only;omega⟩,?_⟩,?_,rfl,?_,arT,?_⟩
    ·(rw[<-htt];exact(jv hlt he hM hs).symm)
    ·dsimp only;omega
    ·dsimp only
     have hU:=True.intro
     (refine⟨⟨_,sT,?_⟩,trivial⟩<;>(try exact zu))
    ·dsimp only
     first|rfl|(simp(disch:=omega)only[go_sem,seval,↓reduceIte];done)|(simp(disch:=omega)only[go_sem,seval,↓reduceIte];rfl)|trace_state
theorem zoh(f q:Bool)(b:List UInt8)(xs:List Fl)(s:Nat)(m:Int)(hb:b.length<=50000)(hx:xs.length<=30000)(hS:zC xs<=m)(hm0:0<=m)(hm1:m<=2147483647)(hbb:∀f∈xs,f.n.size<=1000000/\f.v.size<=1000000)(Q:DQ)(htot:kP b.length b ⟨xs0,ss0,⟨xs,0,m⟩⟩=(Q,0)): AEq Tryz.prog 154 [.ptr 0 0,.sl f q (b.map zk)] [.box [.ptr 1 0],.box [.row 2 s,i64 (zC xs),i64 m],.row s 103 3 (xs.map flA)] (.tu [.ag [.sl false false (Q.F.map flA),.sl false false (Q.S.map yz)],i64 0]) [.box [.ptr 3 0],.box [.row 2 s,i64 (zC xs),i64 m],.row s 103 3 (xs.map flA),.box [.row 4 Q.t.s,i64 (zC Q.t.xs),i64 Q.t.m],.row Q.t.s 103 3 (Q.t.xs.map flA)]:=by
 have h:=zet f q b xs s m hb hx hS hm0 hm1 hbb Q 0 htot
 rw[zki,zkj]at h
 exact h
theorem zoi(f q:Bool)(b:List UInt8)(xs:List Fl)(s:Nat)(m:Int)(hb:b.length<=50000)(hx:xs.length<=30000)(hS:zC xs<=m)(hm0:0<=m)(hm1:m<=2147483647)(hbb:∀f∈xs,f.n.size<=1000000/\f.v.size<=1000000)(Q:DQ)(E:Int)(hE:E≠0)(htot:kP b.length b ⟨xs0,ss0,⟨xs,0,m⟩⟩=(Q,E)): AEq Tryz.prog 154 [.ptr 0 0,.sl f q (b.map zk)] [.box [.ptr 1 0],.box [.row 2 s,i64 (zC xs),i64 m],.row s 103 3 (xs.map flA)] (.tu [.ag [.sl true false [],.sl true false []],i64 E]) [.box [.ptr 1 0],.box [.row 2 s,i64 (zC xs),i64 m],.row s 103 3 (xs.map flA)]:=by
 have h:=zet f q b xs s m hb hx hS hm0 hm1 hbb Q E htot
 rw[zdD hE,zdE hE]at h
 exact h
end
def TOk(t:DT): Prop:=zC t.xs<=t.m/\0<=t.m/\t.m<=2147483647/\∀f∈t.xs,f.n.size<=1000000/\f.v.size<=1000000
theorem zkk{t:DT}{f:Fl}(h:TOk t)(h1:f.n.size<=1000000)(h2:f.v.size<=1000000): TOk (zbU t f)/\(zbU t f).xs.length<=t.xs.length+1/\(zbU t f).m=t.m:=by
 obtain⟨a,b,c,d⟩:=h
 by_cases hw:wt f<=t.m
 ·rw[zof hw]
  exact⟨⟨zgN hw,b,c,zes d h1 h2⟩,zdz _ _ _,rfl⟩
 ·rw[zog hw]
  refine⟨⟨?_,b,c,zdC⟩,?_,rfl⟩
  ·dsimp only;rw[zkh];exact b
  ·dsimp only;rw[zfy];exact Nat.zero_le _
theorem zqN{r:Rp}{g:Fl}(hv:r.vl.length<=1000000)(h1:g.n.size<=1000000)(h2:g.v.size<=1000000): (fV r g).n.size<=1000000/\(fV r g).v.size<=1000000:=by
 unfold fV
 split
 ·exact⟨h1,h2⟩
 ·exact⟨h1,hv⟩
theorem zqO{xs:List Fl}{r:Rp}{g:Fl}(hn:r.nm.length<=1000000)(hb:∀f∈xs,f.n.size<=1000000/\f.v.size<=1000000)(h:fG xs r=some g): g.n.size<=1000000/\g.v.size<=1000000:=by
 unfold fG at h
 split at h
 ·obtain rfl:=Option.some.inj h
  exact⟨hn,Nat.zero_le _⟩
 ·exact zgR hb h
theorem zkl{q q':DQ}{r:Rp}(hP:RP r.k r.i r.nm r.ns r.vl r.vs r.sz)(hn:r.nm.length<=1000000)(hv:r.vl.length<=1000000)(hq:TOk q.t)(h:vQ q r=(q',0)): TOk q'.t/\q'.t.xs.length<=q.t.xs.length+1/\q'.F.length<=q.F.length+1/\q'.S.length<=q.S.length+1:=by
 obtain⟨F,S,t⟩:=q
 have hq2:=hq
 obtain⟨a,b,c,d⟩:=hq
 dsimp only at a b c d ⊢
 by_cases h5:r.k=5
 ·by_cases h0:0<F.length
  ·rw[zbV h5 h0]at h
   have h9:(13:Int)=0:=congrArg Prod.snd h
   exact absurd h9 (by decide)
  ·rw[j8 h5 h0]at h
   obtain rfl:=(Prod.mk.inj h).1
   have hz:=hP.2.2.1
   have hk:=yS r.sz t.xs
   refine⟨⟨vO _ hz.1 _,hz.1,hz.2,fun f hf=>d f (v3 _ _ f hf)⟩,?_,?_,?_⟩
   ·dsimp only;omega
   ·dsimp only;omega
   ·dsimp only;rw[zkd];omega
 ·cases hg:fG t.xs r with
  | none=>
   rw[zdA h5 hg]at h
   have h9:(12:Int)=0:=congrArg Prod.snd h
   exact absurd h9 (by decide)
  | some g=>
   obtain⟨g1,g2⟩:=zqO hn d hg
   obtain⟨v1,v2⟩:=zqN (r:=r) hv g1 g2
   by_cases h2:r.k=2
   ·rw[zdB h2 hg]at h
    obtain rfl:=(Prod.mk.inj h).1
    obtain⟨e1,e2,e3⟩:=zkk hq2 v1 v2
    refine⟨e1,e2,?_,?_⟩
    ·dsimp only;rw[kO];omega
    ·dsimp only;omega
   ·rw[jK h5 h2 hg]at h
    obtain rfl:=(Prod.mk.inj h).1
    refine⟨hq2,?_,?_,?_⟩
    ·dsimp only;omega
    ·dsimp only;rw[kO];omega
    ·dsimp only;omega
theorem zgS: ∀(n:Nat) (b:List UInt8) (q Q:DQ),b.length<=n->b.length<=50000->TOk q.t->kP n b q=(Q,0)->TOk Q.t/\Q.t.xs.length<=q.t.xs.length+b.length/\Q.F.length<=q.F.length+b.length/\Q.S.length<=q.S.length+b.length
 | n,b,q,Q,hn,hb,hq,h=>by
  by_cases hlt:b.length=0
  ·rw[zbc hlt]at h
   obtain rfl:=(Prod.mk.inj h).1
   exact⟨hq,by omega,by omega,by omega⟩
  cases n with
  | zero=>omega
  | succ n=>
   by_cases he0:(rgM b).e≠0
   ·rw[zkg hlt he0]at h;exact absurd (congrArg Prod.snd h) he0
   have he:(rgM b).e=0:=by omega
   have hrl:=zoe b
   rcases zdq b with⟨h1,_⟩|⟨_,hP,hM0,hM1⟩
   ·exact absurd he h1
   obtain⟨⟨q',e⟩,hs⟩:∃p,vQ q (rgM b)=p:=⟨_,rfl⟩
   by_cases hee:e=0
   ·subst hee
    obtain⟨a,ha⟩:∃j:Nat,(rgM b).n=j:=⟨(rgM b).n.toNat,by omega⟩
    rw[jv hlt he ha hs]at h
    have hdl:(b.drop a).length=b.length-a:=List.length_drop
    obtain⟨i1,i2,i3,i4⟩:=zkl hP (by omega) (by omega) hq hs
    obtain⟨j1,j2,j3,j4⟩:=zgS n (b.drop a) q' Q (by omega) (by omega) i1 h
    exact⟨j1,by omega,by omega,by omega⟩
   ·rw[zgQ hlt he hs hee]at h;exact absurd (congrArg Prod.snd h) hee
def w5: List UInt8:=[64,1,97,1,98]
end Go.Proofs.YtdalcgfnlbofdaaGreatDoor
