import Derived.Test.YtdalcgfnlbofdaaGreatDoorZ02
import Derived.Test.YtdalcgfnlbofdaaGreatDoorZ03
set_option linter.unusedVariables false
set_option linter.unusedSimpArgs false
namespace Go.Proofs.YtdalcgfnlbofdaaGreatDoor
open Go Go.Lf Go.Proofs
attribute [local irreducible] Lf.rg Lf.ro Lf.PWp Lf.SOp Lf.ACall Lf.Scoped Lf.dg Lf.dw
set_option maxRecDepth 20000
set_option maxHeartbeats 4000000
section
def symT: List Nat:=[48,49,50,97,99,101,105,111,115,116,32,37,45,46,47,51,52,53,54,55,56,57,61,65,95,98,100,102,103,104,108,109,110,112,114,117,58,66,67,68,69,70,71,72,73,74,75,76,77,78,79,80,81,82,83,84,85,86,87,89,106,107,113,118,119,120,121,122,38,42,44,59,88,90,33,34,40,41,63,39,43,124,35,62,0,36,64,91,93,126,94,125,60,96,123,92,195,208,128,130,131,162,184,194,224,226,153,161,167,172,176,177,179,209,216,217,227,229,230,129,132,133,134,136,146,154,156,160,163,164,169,170,173,178,181,185,186,187,189,190,196,198,228,232,233,1,135,137,138,139,140,141,143,147,149,150,151,152,155,157,158,165,166,168,174,175,180,182,183,188,191,197,231,239,9,142,144,145,148,159,171,206,215,225,236,237,199,207,234,235,192,193,200,201,202,205,210,213,218,219,238,240,242,243,255,203,204,211,212,214,221,222,223,241,244,245,246,247,248,250,251,252,253,254,2,3,4,5,6,7,8,11,12,14,15,16,17,18,19,20,21,23,24,25,26,27,28,29,30,31,127,220,249,10,13,22,256]
def lenO: List Nat:=[5,5,5,5,5,5,5,5,5,5,6,6,6,6,6,6,6,6,6,6,6,6,6,6,6,6,6,6,6,6,6,6,6,6,6,6,7,7,7,7,7,7,7,7,7,7,7,7,7,7,7,7,7,7,7,7,7,7,7,7,7,7,7,7,7,7,7,7,8,8,8,8,8,8,10,10,10,10,10,11,11,11,12,12,13,13,13,13,13,13,14,14,15,15,15,19,19,19,20,20,20,20,20,20,20,20,21,21,21,21,21,21,21,21,21,21,21,21,21,22,22,22,22,22,22,22,22,22,22,22,22,22,22,22,22,22,22,22,22,22,22,22,22,22,22,23,23,23,23,23,23,23,23,23,23,23,23,23,23,23,23,23,23,23,23,23,23,23,23,23,23,23,23,23,24,24,24,24,24,24,24,24,24,24,24,24,25,25,25,25,26,26,26,26,26,26,26,26,26,26,26,26,26,26,26,27,27,27,27,27,27,27,27,27,27,27,27,27,27,27,27,27,27,27,28,28,28,28,28,28,28,28,28,28,28,28,28,28,28,28,28,28,28,28,28,28,28,28,28,28,28,28,28,30,30,30,30]
def codO: List Int:=[0,1,2,3,4,5,6,7,8,9,20,21,22,23,24,25,26,27,28,29,30,31,32,33,34,35,36,37,38,39,40,41,42,43,44,45,92,93,94,95,96,97,98,99,100,101,102,103,104,105,106,107,108,109,110,111,112,113,114,115,116,117,118,119,120,121,122,123,248,249,250,251,252,253,1016,1017,1018,1019,1020,2042,2043,2044,4090,4091,8184,8185,8186,8187,8188,8189,16380,16381,32764,32765,32766,524272,524273,524274,1048550,1048551,1048552,1048553,1048554,1048555,1048556,1048557,2097116,2097117,2097118,2097119,2097120,2097121,2097122,2097123,2097124,2097125,2097126,2097127,2097128,4194258,4194259,4194260,4194261,4194262,4194263,4194264,4194265,4194266,4194267,4194268,4194269,4194270,4194271,4194272,4194273,4194274,4194275,4194276,4194277,4194278,4194279,4194280,4194281,4194282,4194283,8388568,8388569,8388570,8388571,8388572,8388573,8388574,8388575,8388576,8388577,8388578,8388579,8388580,8388581,8388582,8388583,8388584,8388585,8388586,8388587,8388588,8388589,8388590,8388591,8388592,8388593,8388594,8388595,8388596,16777194,16777195,16777196,16777197,16777198,16777199,16777200,16777201,16777202,16777203,16777204,16777205,33554412,33554413,33554414,33554415,67108832,67108833,67108834,67108835,67108836,67108837,67108838,67108839,67108840,67108841,67108842,67108843,67108844,67108845,67108846,134217694,134217695,134217696,134217697,134217698,134217699,134217700,134217701,134217702,134217703,134217704,134217705,134217706,134217707,134217708,134217709,134217710,134217711,134217712,268435426,268435427,268435428,268435429,268435430,268435431,268435432,268435433,268435434,268435435,268435436,268435437,268435438,268435439,268435440,268435441,268435442,268435443,268435444,268435445,268435446,268435447,268435448,268435449,268435450,268435451,268435452,268435453,268435454,1073741820,1073741821,1073741822,1073741823]
theorem zjh: ordN 31=symT:=by decide +kernel
theorem zmx: symT.length=257:=by decide +kernel
theorem zpT: ∀s∈symT,s<257:=by decide +kernel
theorem zpU: symT.map (fun s:Nat=>szI (s:Int))=lenO.map (fun n:Nat=>(n:Int)):=by decide +kernel
theorem zpV: symT.map csI=codO:=by decide +kernel
def zzE: Nat->List Int
 | 0=>List.replicate 257 0
 | i+1=>(zzE i).set (symT.getD i 0) (codO.getD i 0)
def cdB: Nat->Int
 | 0=>0
 | i+1=>codO.getD i 0
def zji: List Int:=(List.range 257).map csI
theorem zmy: lenO.length=257:=by decide +kernel
theorem zgl{i:Nat}(h:i<257): ∃s,symT[i]?=some s/\s<257/\symT.getD i 0=s/\szI (s:Int)=(lenO.getD i 0:Nat):=by
 have hl:i<symT.length:=by rw[zmx];exact h
 refine⟨symT[i],List.getElem?_eq_getElem hl,zpT _ (List.getElem_mem hl),?_,?_⟩
 ·rw[List.getD_eq_getElem?_getD,List.getElem?_eq_getElem hl];rfl
 ·have e := congrArg (fun l : List Int => l[i]?) zpU
  have hl2:i<lenO.length:=by rw[zmy];exact h
  rw[List.getElem?_map,List.getElem?_map,List.getElem?_eq_getElem hl,List.getElem?_eq_getElem hl2]at e
  rw[List.getD_eq_getElem?_getD,List.getElem?_eq_getElem hl2]
  exact Option.some.inj e
attribute [local irreducible] szI zms symT codO lenO zzE zji csI cdB
end
section
attribute [go_sem] zi7
@[go_sem] theorem zjj: rnl (ix [] 0) bkB=bkB:=by
 rw[zff]
 unfold bkB bkA b2
 have h:∀l:List Int,(l.map nA).map (rn (ix [] 0))=l.map nA:=by
  intro l;rw[List.map_map];exact List.map_congr_left (fun _ _=>rfl)
 simp only[List.map_cons,List.map_append,h]
 rfl
def encS(L:List Int)(x:UInt8): List Int:=rpL L (csI x.toNat) (szI (x.toNat:Int))
def encL(b:List UInt8): List Int:=b.foldl encS []
theorem zjk(b:List UInt8)(x:UInt8): encL (b++[x])=encS (encL b) x:=by unfold encL;rw[List.foldl_append];rfl
theorem zpW(L:List Int)(v n:Int): L.length<=(rpL L v n).length/\(rpL L v n).length<=L.length+32:=by
 unfold rpL
 split
 ·rename_i h
  rw[List.length_append,zpG]
  unfold rpE at h
  split at h
  ·cases h
  ·omega
 ·omega
theorem zdh(b:List UInt8): (encL b).length<=32*b.length:=by
 have key:∀(b:List UInt8) (L:List Int),(b.foldl encS L).length<=L.length+32*b.length:=by
  intro b
  induction b with
  | nil=>intro L;simp
  | cons x b ih=>
   intro L
   have h1:=ih (encS L x)
   have h2:=(zpW L (csI x.toNat) (szI (x.toNat:Int))).2
   rw[List.foldl_cons,List.length_cons]
   unfold encS at h1 ⊢
   omega
 have:=key b []
 unfold encL
 simpa using this
theorem zxY{b:List UInt8}{i:Nat}{x:UInt8}(h:b[i]?=some x): encL (b.take (i+1))=encS (encL (b.take i)) x:=by
 rw[vq h];exact zjk _ _
def zEq(b:List UInt8): Int:=b.foldl (fun n x=>n+szI (x.toNat:Int)) 0
theorem zxZ(x:UInt8): 0<=szI (x.toNat:Int)/\szI (x.toNat:Int)<=30:=by
 have:=x.toNat_lt
 have hb:=zgd (s:=(x.toNat:Int)) (by omega) (by omega)
 omega
theorem zuh: encL []=[]:=rfl
theorem zui: yO []=[]:=rfl
attribute [local irreducible] bkB cntN ordB zaG zeI csI szI rpL yO encL zEq
theorem zpX(f q:Bool)(b:List UInt8)(hb:b.length<=100000): AEq Tryz.prog 222 [.sl f q (b.map zk)] [] (.sl false false ((yO (encL b)).map zk)) []:=by
 have hr0:=zjj
 refine enT Tryz.func222 Tryz.ntmps222 ?_
 have hU:=@hr0
 repeat'(first|refine goR ?_|refine zd fun K hK=>?_|(refine zj (f:=237) rfl Tryz.call237 (h:=AEq.sub' [] (hc:=zt8) (hq:=?_)))|refine hK _ _ ?_;clear hK K)
 refine yE (σ2:=[.box bkB,.row 257 3 1 (ordB.map zaR),.box [.row 3 0,i64 0],.row 0 5 1 []]) 2 0 5 1 (by decide) rfl rfl rfl ?_
 refine zO [6,10,11,12,13,14,15,16,17,18,19,20,21] (fun i:Nat=>[(10,i64 i)]) (fun i=>[.box bkB,.row 257 3 1 (ordB.map zaR),.box [.row 3 (yO (encL (b.take i))).length,i64 (encL (b.take i)).length],.row (yO (encL (b.take i))).length 5 1 ((yO (encL (b.take i))).map zk)]) (fun i=>i<=b.length) (fun i=>b.length-i) 0 (Nat.zero_le _) ?_ (by rw[List.take_zero,zuh,zui];rfl) ?_
 ·have hU:=True.intro
  (refine⟨⟨_,sT,?_⟩,trivial⟩<;>(try exact zu))
 ·rintro i hi
  simp only[yN,List.map_cons,List.map_nil,List.cons_append,List.nil_append]
  by_cases hlt:i<b.length
  ·obtain⟨x,hx⟩:=yv hlt
   have hbs:rpL (encL (b.take i)) (csI x.toNat) (szI (x.toNat:Int))=encL (b.take (i+1)):=(zxY hx).symm
   have hel:=zdh (b.take i)
   have htl:(b.take i).length=i:=by rw[List.length_take];omega
   have hxl:=x.toNat_lt
   have hU:=@hbs
   repeat'(first|refine goR ?_|refine zd fun K hK=>?_|refine zc ?_ ?_<;>intro hcd<;>(try simp only[hcP]at hcd)<;>try exact cdT|(refine zj (f:=238) rfl Tryz.call238 (h:=AEq.sub' [_,_] (hc:=zt3 _ _ _ (by omega)) (hq:=?_)))|(refine zj (f:=239) rfl Tryz.call239 (h:=AEq.sub' [0,1] (by refine⟨?_,?_,trivial⟩<;>(first|exact zi|exact zD (by rfl) (by rfl))) (by exact jY _) (zxX _ (by omega)) (ho:=by exact jZ) (hq:=?_)))|refine hK _ _ ?_;clear hK K)
   refine⟨i+1,by omega,by omega,?_,arT,srT⟩
   (refine⟨⟨_,sT,?_⟩,trivial⟩<;>(try exact zu))
  ·have hib : i = b.length := by omega
   subst hib
   have hel:=zdh b
   have hrl:=ja (encL b)
   have htk:b.take b.length=b:=List.take_length
   rw[htk]
   have hU:=True.intro
   repeat'(first|refine goR ?_|refine zd fun K hK=>?_|refine zc ?_ ?_<;>intro hcd<;>(try simp only[hcP]at hcd)<;>try exact cdT|(refine zj (f:=240) rfl Tryz.call240 (h:=AEq.sub' [_,_] (hc:=zmf _ _ (by omega)) (hq:=?_)))|((refine zo [] (by rw[Tryz.results222,Lf.zI]) (zw ?_) ?_)<;>(try exact uT))|refine hK _ _ ?_;clear hK K|(apply_assumption (exfalso:=false) (symm:=false)))
end
def fstT: List Int:=[0,0,0,0,0,0,20,92,248,508,1016,2042,4090,8184,16380,32764,65534,131068,262136,524272,1048550,2097116,4194258,8388568,16777194,33554412,67108832,134217694,268435426,536870910,1073741820]
def cntT: List Int:=[0,0,0,0,0,10,26,32,6,0,5,3,2,6,2,3,0,0,0,3,8,13,26,29,12,4,15,19,29,0,4]
def bseT: List Int:=[0,0,0,0,0,0,10,36,68,74,74,79,82,84,90,92,95,95,95,95,98,106,119,145,174,186,190,205,224,253,253]
theorem znY: ∀n:Fin 31,zaG n.val=fstT.getD n.val 0/\cntN 257 n.val=cntT.getD n.val 0/\zeI n.val=bseT.getD n.val 0:=by decide +kernel
theorem zmz: codeN 31=1073741824:=by decide +kernel
theorem zuj: ∀i:Fin 257,1<=lenO.getD i.val 0/\lenO.getD i.val 0<=30/\codO.getD i.val 0=fstT.getD (lenO.getD i.val 0) 0+((i.val:Nat):Int)-bseT.getD (lenO.getD i.val 0) 0/\bseT.getD (lenO.getD i.val 0) 0<=((i.val:Nat):Int)/\((i.val:Nat):Int)<bseT.getD (lenO.getD i.val 0) 0+cntT.getD (lenO.getD i.val 0) 0:=by decide +kernel
theorem zx0: ∀n:Fin 31,∀i:Fin 257,bseT.getD n.val 0<=((i.val:Nat):Int)->((i.val:Nat):Int)<bseT.getD n.val 0+cntT.getD n.val 0->lenO.getD i.val 0=n.val:=by decide +kernel
theorem zx1: ∀n:Fin 31,0<=bseT.getD n.val 0/\0<=cntT.getD n.val 0/\bseT.getD n.val 0+cntT.getD n.val 0<=257:=by decide +kernel
theorem zjl: ∀s:Fin 257,symT.idxOf s.val<257/\symT.getD (symT.idxOf s.val) 0=s.val:=by decide +kernel
theorem zjm{i:Nat}(h:i<257): csI (symT.getD i 0)=codO.getD i 0:=by
 obtain⟨s,hs,_,hs2,_⟩:=zgl h
 have h1:(symT.map csI)[i]?=codO[i]?:=by rw[zpV]
 rw[List.getElem?_map,hs,Option.map_some]at h1
 rw[hs2,List.getD_eq_getElem?_getD,<-h1];rfl
theorem zpY{c n:Int}(h:vT c n=true): ∃s:Nat,s<257/\kt c n=s/\csI s=c/\szI (s:Int)=n/\1<=n/\n<=30:=by
 have h:=of_decide_eq_true h
 obtain⟨h1,h2,h3,h4⟩:=h
 obtain⟨m,rfl⟩:∃m:Nat,n=m:=⟨n.toNat,by omega⟩
 rw[Int.toNat_natCast]at h3 h4
 obtain⟨t1,t2,t3⟩:=znY ⟨m,by omega⟩
 obtain⟨b1,b2,b3⟩:=zx1 ⟨m,by omega⟩
 dsimp only at t1 t2 t3 b1 b2 b3
 rw[<-t2,<-t3]at b3
 rw[<-t3]at b1
 obtain⟨i,hi⟩:∃i:Nat,zeI m+(c-zaG m)=i:=⟨(zeI m+(c-zaG m)).toNat,by omega⟩
 have hi2:i<257:=by omega
 have hn:=zx0 ⟨m,by omega⟩ ⟨i,hi2⟩ (by dsimp only;rw[<-t3];omega) (by dsimp only;rw[<-t3,<-t2];omega)
 dsimp only at hn
 obtain⟨s,e1,e2,e3,e4⟩:=zgl hi2
 obtain⟨_,_,e5,_,_⟩:=zuj ⟨i,hi2⟩
 dsimp only at e5
 rw[hn,<-t1,<-t3]at e5
 refine⟨s,e2,?_,?_,?_,h1,h2⟩
 ·unfold kt ordB
  rw[Int.toNat_natCast,hi,Int.toNat_natCast,zjh,e3]
 ·rw[<-e3,zjm hi2,e5];omega
 ·rw[e4,hn]
theorem zpZ{s:Nat}(h:s<257): vT (csI s) (szI (s:Int))=true/\kt (csI s) (szI (s:Int))=s:=by
 obtain⟨h1,h2⟩:=zjl ⟨s,h⟩
 dsimp only at h1 h2
 generalize symT.idxOf s=i at h1 h2
 obtain⟨s2,e1,e2,e3,e4⟩:=zgl h1
 rw[h2]at e3
 subst e3
 obtain⟨t1,t2,t3,t4,t5⟩:=zuj ⟨i,h1⟩
 dsimp only at t1 t2 t3 t4 t5
 have hc:=zjm h1
 rw[h2]at hc
 obtain⟨u1,u2,u3⟩:=znY ⟨lenO.getD i 0,by omega⟩
 dsimp only at u1 u2 u3
 rw[<-u1,<-u3,<-hc]at t3
 rw[<-u3]at t4 t5
 rw[<-u2]at t5
 rw[e4]
 refine⟨decide_eq_true ?_,?_⟩
 ·rw[Int.toNat_natCast];omega
 ·unfold kt ordB
  rw[Int.toNat_natCast,zjh,show zeI (lenO.getD i 0)+(csI s-zaG (lenO.getD i 0))=(i:Int)from by omega,Int.toNat_natCast,h2]
structure Way(c:Int)(n:Nat): Prop where
 l:codeN (n+1)<=c
 u:c<2 ^ n
 n:n<=29
 z:0<=c
theorem zx2: Way 0 0:=⟨by decide +kernel,by decide,by decide,by decide⟩
theorem zx3{c x:Int}{n:Nat}(h:Way c n)(hx:x=0\/x=1)(hf:¬vT (2*c+x) ((n:Int)+1)=true): Way (2*c+x) (n+1):=by
 obtain⟨h1,h2,h3,h4⟩:=h
 have hf:=of_decide_eq_false (show vT (2*c+x) ((n:Int)+1)=false by revert hf;cases vT (2*c+x) ((n:Int)+1)<;>simp)
 rw[show((n:Int)+1).toNat=n+1 from by omega]at hf
 have e1:zaG (n+1)=codeN (n+1)*2:=rfl
 have e2:codeN (n+1+1)=codeN (n+1)*2+cntN 257 (n+1):=rfl
 have hl:codeN (n+1+1)<=2*c+x:=by omega
 have hu:2*c+x<2 ^ (n+1):=by rw[Int.pow_succ];omega
 refine⟨hl,hu,?_,by omega⟩
 by_cases h9:n=29
 ·exfalso
  subst h9
  have e3:codeN (29+1+1)=1073741824:=zmz
  have e4:(2:Int) ^ (29+1)=1073741824:=by decide
  omega
 ·omega
def huM: List Int->Int->Nat->List UInt8->List UInt8×Int
 | [],c,n,o=>if 7<n\/c≠2 ^ n-1 then([],10)else(o,0)
 | x::l,c,n,o=>if vT (2*c+x) ((n:Int)+1)=true then(if kt (2*c+x) ((n:Int)+1)=256 then([],11)else huM l 0 0 (o++[UInt8.ofNat (kt (2*c+x) ((n:Int)+1)).toNat]))else huM l (2*c+x) (n+1) o
theorem zdi(c:Int)(n:Nat)(o:List UInt8): huM [] c n o=if 7<n\/c≠2 ^ n-1 then([],10)else(o,0):=rfl
theorem zgm{x c:Int}{n:Nat}(l:List Int)(o:List UInt8)(h:¬vT (2*c+x) ((n:Int)+1)=true): huM (x::l) c n o=huM l (2*c+x) (n+1) o:=by rw[huM,if_neg h]
theorem zjn{x c:Int}{n:Nat}(l:List Int)(o:List UInt8)(h:vT (2*c+x) ((n:Int)+1)=true)(h2:kt (2*c+x) ((n:Int)+1)=256): huM (x::l) c n o=([],11):=by rw[huM,if_pos h,if_pos h2]
theorem zfl{x c:Int}{n:Nat}(l:List Int)(o:List UInt8)(h:vT (2*c+x) ((n:Int)+1)=true)(h2:¬kt (2*c+x) ((n:Int)+1)=256): huM (x::l) c n o=huM l 0 0 (o++[UInt8.ofNat (kt (2*c+x) ((n:Int)+1)).toNat]):=by rw[huM,if_pos h,if_neg h2]
theorem zfm: ∀(l:List Int) (c:Int) (n:Nat) (o:List UInt8),(huM l c n o).1.length<=l.length+o.length
 | [],c,n,o=>by rw[zdi];split<;>simp
 | x::l,c,n,o=>by
  by_cases h:vT (2*c+x) ((n:Int)+1)=true
  ·by_cases h2:kt (2*c+x) ((n:Int)+1)=256
   ·rw[zjn l o h h2];simp
   ·rw[zfl l o h h2]
    have:=zfm l 0 0 (o++[UInt8.ofNat (kt (2*c+x) ((n:Int)+1)).toNat])
    rw[List.length_append]at this
    simp at this ⊢;omega
  ·rw[zgm l o h]
   have:=zfm l (2*c+x) (n+1) o
   simp;omega
section
structure HS where
 (k:Fin 3) (a:Nat) (c:Int) (n:Nat) (o:List UInt8)
def HOk(b:List UInt8)(d:List UInt8)(e:Int)(q:HS): Prop:=
 q.a<=8*b.length/\q.o.length<=q.a/\(q.k=0->huM ((bitsL b).drop q.a) 0 0 q.o=(d,e))/\(q.k=1->Way q.c q.n/\huM ((bitsL b).drop q.a) q.c q.n q.o=(d,e))/\(q.k=2->Way q.c q.n/\huM [] q.c q.n q.o=(d,e))
theorem zzF{b d:List UInt8}{e:Int}{a n:Nat}{c:Int}{o:List UInt8}(h1:a<=8*b.length)(h2:o.length<=a)(h3:huM ((bitsL b).drop a) 0 0 o=(d,e)): HOk b d e ⟨0,a,c,n,o⟩:=
 ⟨h1,h2,fun _=>h3,fun h=>absurd (show(0:Fin 3)=1 from h) (by decide),fun h=>absurd (show(0:Fin 3)=2 from h) (by decide)⟩
theorem zzG{b d:List UInt8}{e:Int}{a n:Nat}{c:Int}{o:List UInt8}(h1:a<=8*b.length)(h2:o.length<=a)(hw:Way c n)(h3:huM ((bitsL b).drop a) c n o=(d,e)): HOk b d e ⟨1,a,c,n,o⟩:=
 ⟨h1,h2,fun h=>absurd (show(1:Fin 3)=0 from h) (by decide),fun _=>⟨hw,h3⟩,fun h=>absurd (show(1:Fin 3)=2 from h) (by decide)⟩
theorem hok2{b d:List UInt8}{e:Int}{a n:Nat}{c:Int}{o:List UInt8}(h1:a<=8*b.length)(h2:o.length<=a)(hw:Way c n)(h3:huM [] c n o=(d,e)): HOk b d e ⟨2,a,c,n,o⟩:=
 ⟨h1,h2,fun h=>absurd (show(2:Fin 3)=0 from h) (by decide),fun h=>absurd (show(2:Fin 3)=1 from h) (by decide),fun _=>⟨hw,h3⟩⟩
@[go_sem] theorem jn{σ:Sto}: fzl [0,1,2,3] σ bkB=bkB:=by
 rw[jz]
 unfold bkB bkA b2
 have h:∀l:List Int,(l.map nA).map (fz [0,1,2,3] σ)=l.map nA:=by
  intro l;rw[List.map_map];exact List.map_congr_left (fun _ _=>rfl)
 simp only[List.map_cons,List.map_append,h]
 rfl
theorem znZ{c:Int}{n:Nat}(h:Way c n): 0<=c/\c<=536870912/\n<=29:=by
 obtain⟨h1,h2,h3,h4⟩:=h
 have h5:2 ^ n<=2 ^ 29:=Nat.pow_le_pow_right (by decide) h3
 have e:(2:Int) ^ n=((2 ^ n:Nat):Int):=by simp
 rw[e]at h2
 omega
theorem zuk{n:Nat}(h:n<=29): 1<=(2:Int) ^ n/\(2:Int) ^ n<=536870912:=by
 have h5:2 ^ n<=2 ^ 29:=Nat.pow_le_pow_right (by decide) h
 have h6:0<2 ^ n:=Nat.pow_pos (by decide)
 have e:(2:Int) ^ n=((2 ^ n:Nat):Int):=by simp
 rw[e];omega
theorem zjo{l:List Int}{a:Nat}{x:Int}(h:l[a]?=some x): l.drop a=x::l.drop (a+1):=by
 obtain⟨h1,h2⟩:=List.getElem?_eq_some_iff.1 h
 rw[List.drop_eq_getElem_cons h1,h2]
theorem zmA{c n:Int}(h:vT c n=true): j0 c n=kt c n:=by unfold j0;rw[if_pos h]
theorem zmB{c n:Int}(h:¬vT c n=true): j0 c n=0:=by unfold j0;rw[if_neg h]
attribute [local irreducible] bkB cntN ordB zaG zeI csI szI vT kt j0 bitsL codeN huM
theorem zmC(f q:Bool)(b:List UInt8)(hb:b.length<=100000)(d:List UInt8)(e:Int)(htot:huM (bitsL b) 0 0 []=(d,e)): AEq Tryz.prog 233 [.sl f q (b.map zk)] [] (.tu [.sl false false (d.map zk),i64 e]) []:=by
 have hr0:=zjj
 have hbl:=zej b
 refine enT Tryz.func233 Tryz.ntmps233 ?_
 have hU:=@hr0
 repeat'(first|refine goR ?_|refine zd fun K hK=>?_|refine hK _ _ ?_;clear hK K)
 refine zfi (S:=HS) HS.k (fun q=>[(4,.row 3 q.o.length),(5,i64 q.c),(6,i64 q.n),(11,.ptr 0 0),(12,.ptr 2 0)]) (fun q=>[.box bkB,.row 257 3 1 (ordB.map zaR),.box [.sl false false (b.map zk),i64 q.a],.row q.o.length 5 1 (q.o.map zk)]) (HOk b d e) (fun q=>3*(8*b.length-q.a)+(2-q.k.val)) (by rfl) (by rfl) (by rfl) ?_ ?_ ?_ (fun hB=>?_)
 ·rintro⟨k,a,c,n,o⟩ rfl ⟨ha,ho,h0,h1,h2⟩ hB
  dsimp only at ha ho h0 h1 h2 hB ⊢
  have h0:=h0 rfl
  clear h1 h2
  have hU:=True.intro
  repeat'(first|refine goR ?_|refine zd fun K hK=>?_|refine hK _ _ ?_;clear hK K)
  refine zbg ?_
  dsimp only[Lf.yk]
  refine hK _ _ ?_
  refine hB _ _ ⟨1,a,0,0,o⟩ [0,1,2,3] rfl (zzG ha ho zx2 h0) ?_ rfl ?_ ?_
  ·dsimp only;omega
  ·(refine⟨⟨_,sT,?_⟩,⟨_,sT,?_⟩,⟨_,sT,?_⟩,⟨_,sT,?_⟩,⟨_,sT,?_⟩,trivial⟩<;>(try exact zu))
  ·first|rfl|(simp(disch:=omega)only[go_sem,seval,↓reduceIte,jn];done)|(simp(disch:=omega)only[go_sem,seval,↓reduceIte,jn];rfl)|trace_state
 ·rintro⟨k,a,c,n,o⟩ rfl ⟨ha,ho,h0,h1,h2⟩
  dsimp only at ha ho h0 h1 h2 ⊢
  obtain⟨hw,h1⟩:=h1 rfl
  obtain⟨hc0,hc1,hn⟩:=znZ hw
  clear h0 h2
  by_cases hend:a=8*b.length
  ·rw [List.drop_eq_nil_of_le (by omega)] at h1
   have hU:=True.intro
   repeat'(first|refine goR ?_|refine zd fun K hK=>?_|refine zc ?_ ?_<;>intro hcd<;>(try simp only[hcP]at hcd)<;>try exact cdT|refine y1b ?_|(refine zj (f:=243) rfl Tryz.call243 (h:=AEq.sub' [_] (hc:=ziT _ _ _ (by omega) (by omega) (by omega)) (hq:=?_)))|refine hK _ _ ?_;clear hK K|(dsimp only[Lf.yk,Lf.yJ]))
   refine⟨⟨2,a,c,n,o⟩,[0,1,2,3],rfl,hok2 ha ho hw h1,?_,rfl,?_,?_⟩
   ·dsimp only;omega
   ·(refine⟨⟨_,sT,?_⟩,⟨_,sT,?_⟩,⟨_,sT,?_⟩,⟨_,sT,?_⟩,⟨_,sT,?_⟩,trivial⟩<;>(try exact zu))
   ·first|rfl|(simp(disch:=omega)only[go_sem,seval,↓reduceIte,jn];done)|(simp(disch:=omega)only[go_sem,seval,↓reduceIte,jn];rfl)|trace_state
  ·have hlt : a < (bitsL b).length := by omega
   obtain⟨x,hx⟩:=yv hlt
   have hx01:=zt0 b x (List.mem_of_getElem? hx)
   have hxg:(bitsL b).getD a 0=x:=by rw[List.getD_eq_getElem?_getD,hx];rfl
   have hor:=zt4 c x (by omega) (by omega) hx01
   rw[zjo hx]at h1
   by_cases hY:vT (2*c+x) ((n:Int)+1)=true
   ·have hR:=zmA hY
    by_cases h256:kt (2*c+x) ((n:Int)+1)=256
    ·rw[zjn _ _ hY h256]at h1
     obtain⟨rfl,rfl⟩:d=[]/\e=11:=by simp only[Prod.mk.injEq]at h1;exact⟨h1.1.symm,h1.2.symm⟩
     have hU:=And.intro @hxg ( And.intro @hor ( And.intro @hR ( And.intro @hY (@h256))))
     repeat'(first|refine goR ?_|refine zd fun K hK=>?_|refine zc ?_ ?_<;>intro hcd<;>(try simp only[hcP]at hcd)<;>try exact cdT|(refine zj (f:=244) rfl Tryz.call244 (h:=AEq.sub' [0,1] (by refine⟨?_,?_,?_,trivial⟩<;>(first|exact zi|exact zD (by rfl) (by rfl))) (by exact jY _) (zpO _ _ (by omega) (by omega)) (ho:=by exact jZ) (hq:=?_)))|refine y1w ?_|((refine zo [] (by rw[Tryz.results233,Lf.ym]) (zF ?_ ?_) ?_)<;>(try exact uT))|refine hK _ _ ?_;clear hK K)
    ·rw[zfl _ _ hY h256]at h1
     obtain⟨s,hs,hS,_⟩:=zpY hY
     rw[hS]at hR h256 h1
     rw[Int.toNat_natCast]at h1
     have hs6:s<256:=by omega
     have hol:(o++[UInt8.ofNat s]).length=o.length+1:=by rw[List.length_append];rfl
     have hsn:(UInt8.ofNat s).toNat=s:=by simp;omega
     have hap:List.map zk o++[[AV.lit (.int .u8 (s:Int))]]=List.map zk (o++[UInt8.ofNat s]):=by rw[List.map_append];show _=List.map zk o++[[AV.lit (.int .u8 ((UInt8.ofNat s).toNat:Int))]];rw[hsn]
     have hU:=And.intro @hxg ( And.intro @hor ( And.intro @hR ( And.intro @hY ( And.intro @h256 (@hap)))))
     repeat'(first|refine goS ?_|refine zd fun K hK=>?_|refine zc ?_ ?_<;>intro hcd<;>(try simp only[hcP]at hcd)<;>try exact cdT|refine y1b ?_|(refine zj (f:=244) rfl Tryz.call244 (h:=AEq.sub' [0,1] (by refine⟨?_,?_,?_,trivial⟩<;>(first|exact zi|exact zD (by rfl) (by rfl))) (by exact jY _) (zpO _ _ (by omega) (by omega)) (ho:=by exact jZ) (hq:=?_)))|refine y1w ?_|refine hK _ _ ?_;clear hK K|(dsimp only[Lf.yk,Lf.yJ]))
     refine⟨⟨0,a+1,2*c+x,n+1,o++[UInt8.ofNat s]⟩,[0,1,2,3],rfl,zzF (by omega) (by rw[hol];omega) h1,?_,rfl,?_,?_⟩
     ·dsimp only;omega
     ·(refine⟨⟨_,sT,?_⟩,⟨_,sT,?_⟩,⟨_,sT,?_⟩,⟨_,sT,?_⟩,⟨_,sT,?_⟩,trivial⟩<;>(try(first | exact zu)))
      all_goals exact yo (by dsimp only;rw[hol])
     ·dsimp only;rw[hol];first|rfl|(simp(disch:=omega)only[go_sem,seval,↓reduceIte,hxg,hor,hR,hY,h256,hap,jn];done)|(simp(disch:=omega)only[go_sem,seval,↓reduceIte,hxg,hor,hR,hY,h256,hap,jn];rfl)|trace_state
   ·have hR:=zmB hY
    rw[zgm _ _ hY]at h1
    have hw2:=zx3 hw hx01 hY
    have hU:=And.intro @hxg ( And.intro @hor ( And.intro @hR (@hY)))
    repeat'(first|refine goR ?_|refine zd fun K hK=>?_|refine zc ?_ ?_<;>intro hcd<;>(try simp only[hcP]at hcd)<;>try exact cdT|refine y1b ?_|(refine zj (f:=244) rfl Tryz.call244 (h:=AEq.sub' [0,1] (by refine⟨?_,?_,?_,trivial⟩<;>(first|exact zi|exact zD (by rfl) (by rfl))) (by exact jY _) (zpO _ _ (by omega) (by omega)) (ho:=by exact jZ) (hq:=?_)))|refine y1w ?_|refine hK _ _ ?_;clear hK K|(dsimp only[Lf.yk,Lf.yJ]))
    refine⟨⟨1,a+1,2*c+x,n+1,o⟩,[0,1,2,3],rfl,zzG (by omega) (by omega) hw2 h1,?_,rfl,?_,?_⟩
    ·dsimp only;omega
    ·(refine⟨⟨_,sT,?_⟩,⟨_,sT,?_⟩,⟨_,sT,?_⟩,⟨_,sT,?_⟩,⟨_,sT,?_⟩,trivial⟩<;>(try exact zu))
    ·first|rfl|(simp(disch:=omega)only[go_sem,seval,↓reduceIte,hxg,hor,hR,hY,jn];done)|(simp(disch:=omega)only[go_sem,seval,↓reduceIte,hxg,hor,hR,hY,jn];rfl)|trace_state
 ·rintro⟨k,a,c,n,o⟩ rfl ⟨ha,ho,h0,h1,h2⟩
  dsimp only at ha ho h0 h1 h2 ⊢
  obtain⟨hw,h2⟩:=h2 rfl
  obtain⟨hc0,hc1,hn⟩:=znZ hw
  clear h0 h1
  have hp:=zuk hn
  have hwr:IntKind.i64.wrap (IntKind.i64.wrap (2 ^ n)-1)=2 ^ n-1:=by rw[w64 (n:=2 ^ n) (by omega),w64 (by omega)]
  by_cases hbad:7<n\/c≠2 ^ n-1
  ·rw[zdi,if_pos hbad]at h2
   obtain⟨rfl,rfl⟩:d=[]/\e=10:=by simp only[Prod.mk.injEq]at h2;exact⟨h2.1.symm,h2.2.symm⟩
   have hU:=@hwr
   exact wl
  ·rw[zdi,if_neg hbad]at h2
   obtain⟨rfl,rfl⟩:d=o/\e=0:=by simp only[Prod.mk.injEq]at h2;exact⟨h2.1.symm,h2.2.symm⟩
   have hU:=@hwr
   exact wl
 ·have hU:=True.intro
  repeat'(first|refine goR ?_|refine zd fun K hK=>?_|(refine zj (f:=242) rfl Tryz.call242 (h:=AEq.sub' [] (hc:=zxO _ _ _ (by omega)) (hq:=?_)))|(refine zj (f:=237) rfl Tryz.call237 (h:=AEq.sub' [] (hc:=zt8) (hq:=?_)))|refine hK _ _ ?_;clear hK K)
  refine zbg ?_
  dsimp only[Lf.yk]
  refine hK _ _ ?_
  refine kD 4 5 1 (by decide) (by rfl) rfl rfl ?_
  refine hB _ _ ⟨0,0,0,0,[]⟩ [0,1,2,3] rfl (zzF (Nat.zero_le _) (Nat.le_refl _) htot) rfl ?_ ?_
  ·(refine⟨⟨_,sT,?_⟩,⟨_,sT,?_⟩,⟨_,sT,?_⟩,⟨_,sT,?_⟩,⟨_,sT,?_⟩,trivial⟩<;>(try exact zu))
  ·first|rfl|(simp(disch:=omega)only[go_sem,seval,↓reduceIte,jn];done)|(simp(disch:=omega)only[go_sem,seval,↓reduceIte,jn];rfl)|trace_state
theorem zjp(f q:Bool)(b:List UInt8)(hb:b.length<=100000): AEq Tryz.prog 233 [.sl f q (b.map zk)] [] (.tu [.sl false false ((huM (bitsL b) 0 0 []).1.map zk),i64 (huM (bitsL b) 0 0 []).2]) []:=zmC f q b hb _ _ rfl
end
section
theorem zul(b:List UInt8): ∀x∈encL b,x=0\/x=1:=by
 have key:∀(b:List UInt8) (L:List Int),(∀x∈L,x=0\/x=1)->∀x∈b.foldl encS L,x=0\/x=1:=by
  intro b
  induction b with
  | nil=>intro L h;exact h
  | cons y b ih=>
   intro L h
   rw[List.foldl_cons]
   refine ih _ ?_
   unfold encS rpL
   split
   ·intro x hx
    rw[List.mem_append]at hx
    rcases hx with hx|hx
    ·exact h x hx
    ·exact zxR _ _ x hx
   ·exact h
 exact key b [] (by simp)
attribute [local irreducible] zji csI szI rpL yO encL zxQ zms
end
section
def zzH(l:List Int): Nat->Nat->Int×Int
 | 0,_=>(-1,0)
 | m+1,p=>if vT (zda (l.take (p+1))) ((p:Int)+1)=true then(kt (zda (l.take (p+1))) ((p:Int)+1),(p:Int)+1)else zzH l m (p+1)
def zEr(l:List Int): Int×Int:=zzH l (min 30 l.length) 0
attribute [local irreducible] zji csI szI zms vT kt zda zEr
attribute [local irreducible] huM bitsL
end
theorem zx4: ∀i:Fin 257,0<=codO.getD i.val 0/\codO.getD i.val 0<2 ^ (lenO.getD i.val 0):=by decide +kernel
theorem zum{s:Nat}(h:s<257): 0<=csI s/\csI s<2 ^ (szI (s:Int)).toNat:=by
 obtain⟨h1,h2⟩:=zjl ⟨s,h⟩
 dsimp only at h1 h2
 generalize symT.idxOf s=i at h1 h2
 obtain⟨s2,e1,e2,e3,e4⟩:=zgl h1
 rw[h2]at e3
 subst e3
 have hc:=zjm h1
 rw[h2]at hc
 have:=zx4 ⟨i,h1⟩
 dsimp only at this
 rw[hc,e4,Int.toNat_natCast]
 exact this
def cdL(x:UInt8): List Int:=msb (csI x.toNat) (szI (x.toNat:Int)).toNat
theorem zp0(L:List Int)(x:UInt8): encS L x=L++cdL x:=by
 have hx:=x.toNat_lt
 have h1:=zum (s:=x.toNat) (by omega)
 have h2:=zxZ x
 unfold encS rpL cdL
 have e:rpE (csI x.toNat) (szI (x.toNat:Int))=0:=by
  unfold rpE
  rw[if_neg (by omega),if_neg (by omega)]
 rw[if_pos e]
theorem zmD(b:List UInt8)(L:List Int): b.foldl encS L=L++b.flatMap cdL:=by
 induction b generalizing L with
 | nil=>simp
 | cons x b ih=>rw[List.foldl_cons,ih,zp0,List.flatMap_cons,List.append_assoc]
theorem zjq(b:List UInt8): encL b=b.flatMap cdL:=by unfold encL;rw[zmD];rfl
theorem zjr{p:Nat}{c:Int}(hp:p<=30)(h:codeN (p+1)<=c): ¬vT c (p:Int)=true:=by
 intro hy
 have hy:=of_decide_eq_true hy
 rw[Int.toNat_natCast]at hy
 have e1:codeN (p+1)=codeN p*2+cntN 257 p:=rfl
 have e2:zaG p=codeN p*2:=rfl
 omega
theorem zp1(n:Nat): 0<=cntN 257 n:=(zfd (Nat.le_refl _)).1
theorem zmE{n:Nat}{c:Int}(h:codeN n*2<=c): ∀q p:Nat,p+q=n->1<=q->codeN (p+1)<=c / 2 ^ q:=by
 intro q
 induction q with
 | zero=>intro p _ h;omega
 | succ q ih=>
  intro p hp _
  by_cases hq:q=0
  ·subst hq
   obtain rfl:p+1=n:=by omega
   rw[show(2:Int) ^ (0+1)=2 from rfl];omega
  ·have h1 := ih (p + 1) (by omega) (by omega)
   have e:codeN (p+1+1)=codeN (p+1)*2+cntN 257 (p+1):=rfl
   have h2:=zp1 (p+1)
   rw[Int.pow_succ,<-Int.ediv_ediv_of_nonneg (Int.le_of_lt (Int.pow_pos (by decide)))]
   omega
theorem zp2{s:Nat}(h:s<256)(l:List Int)(o:List UInt8): huM (msb (csI s) (szI (s:Int)).toNat++l) 0 0 o=huM l 0 0 (o++[UInt8.ofNat s]):=by
 obtain⟨hy,hS⟩:=zpZ (s:=s) (by omega)
 obtain⟨hc0,hc1⟩:=zum (s:=s) (by omega)
 have hy2:=of_decide_eq_true hy
 obtain⟨n,hn⟩:∃n:Nat,szI (s:Int)=n:=⟨(szI (s:Int)).toNat,by omega⟩
 rw[hn]at hy hS hc1 hy2 ⊢
 rw[Int.toNat_natCast]at hc1 hy2 ⊢
 generalize hc:csI s=c at *
 have hge:codeN n*2<=c:=hy2.2.2.1
 have key:∀q p:Nat,p+q=n->1<=q->huM (msb c q++l) (c / 2 ^ q) p o=huM l 0 0 (o++[UInt8.ofNat s]):=by
  intro q
  induction q with
  | zero=>intro p _ h;omega
  | succ q ih=>
   intro p hp _
   have e:2*(c / 2 ^ (q+1))+c / 2 ^ q % 2=c / 2 ^ q:=by
    rw[Int.pow_succ,<-Int.ediv_ediv_of_nonneg (Int.le_of_lt (Int.pow_pos (by decide)))];omega
   show huM ((c / 2 ^ q % 2)::(msb c q++l)) (c / 2 ^ (q+1)) p o=_
   by_cases hq:q=0
   ·subst hq
    have e0:c / 2 ^ 0=c:=by rw[Int.pow_zero,Int.ediv_one]
    have ep:((p:Int)+1)=(n:Int):=by omega
    rw[zfl _ _ (by rw[e,e0,ep];exact hy) (by rw[e,e0,ep,hS];omega),e,e0,ep,hS,Int.toNat_natCast]
    rfl
   ·have h1 := zmE hge q (p + 1) (by omega) (by omega)
    have h2:=zjr (p:=p+1) (by omega) h1
    rw[zgm _ _ (by rw[e];exact h2),e]
    exact ih (p+1) (by omega) (by omega)
 have:=key n 0 (by omega) (by omega)
 rw[Int.ediv_eq_zero_of_lt hc0 hc1]at this
 exact this
theorem zmF(b:List UInt8)(l:List Int)(o:List UInt8): huM (b.flatMap cdL++l) 0 0 o=huM l 0 0 (o++b):=by
 induction b generalizing o with
 | nil=>simp
 | cons x b ih=>
  rw[List.flatMap_cons,List.append_assoc]
  have:=zp2 x.toNat_lt (b.flatMap cdL++l) o
  show huM (msb (csI x.toNat) (szI (x.toNat:Int)).toNat++(b.flatMap cdL++l)) 0 0 o=_
  rw[this,ih]
  simp
theorem zp3: ∀p:Fin 7,vT (2*(2 ^ p.val-1)+1) ((p.val:Nat)+1)=false:=by decide +kernel
theorem zp4(k:Nat)(o:List UInt8): ∀p:Nat,p+k<=7->huM (List.replicate k 1) (2 ^ p-1) p o=(o,0):=by
 induction k with
 | zero=>intro p h;rw[List.replicate_zero,zdi,if_neg (by omega)]
 | succ k ih=>
  intro p h
  have h1:=zp3 ⟨p,by omega⟩
  dsimp only at h1
  rw[List.replicate_succ,zgm _ _ (by rw[h1];decide),show(2:Int)*(2 ^ p-1)+1=2 ^ (p+1)-1 from by rw[Int.pow_succ];omega]
  exact ih (p+1) (by omega)
theorem zp5(b:List UInt8): huM (bitsL (yO (encL b))) 0 0 []=(b,0):=by
 have hl:=ja (encL b)
 rw[zmg _ (zul b),zjq,zmF,List.nil_append]
 rw[zjq]at hl
 exact zp4 _ b 0 (by omega)
end Go.Proofs.YtdalcgfnlbofdaaGreatDoor
