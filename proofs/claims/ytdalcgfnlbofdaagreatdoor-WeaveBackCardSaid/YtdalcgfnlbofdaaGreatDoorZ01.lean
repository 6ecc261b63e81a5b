import Derived.Test.YtdalcgfnlbofdaaGreatDoorTg
set_option linter.unusedVariables false
set_option linter.unusedSimpArgs false
namespace Go.Proofs.YtdalcgfnlbofdaaGreatDoor
open Go Go.Lf Go.Proofs
attribute [local irreducible] Lf.rg Lf.ro Lf.PWp Lf.SOp Lf.ACall Lf.Scoped Lf.dg Lf.dw
set_option maxRecDepth 20000
set_option maxHeartbeats 4000000
theorem vq{α:Type}{l:List α}{i:Nat}{x:α}(h:l[i]?=some x): l.take (i+1)=l.take i++[x]:=by
 rw[List.take_add_one,h];rfl
theorem zpD(f g q r:Bool)(a b:List UInt8)(hb:a.length<=4000000000000000000): AEq Tryz.prog 75 [.sl f q (a.map zk),.sl g r (b.map zk)] [] (bl (decide (a=b))) []:=by
  by_cases h:a.length=b.length
  · refine enT Tryz.func75 Tryz.ntmps75 ?_
    have hU:=True.intro
    repeat'(first|refine goR ?_|refine zd fun K hK=>?_|refine zc ?_ ?_<;>intro hcd<;>(try simp only[hcP]at hcd)<;>try exact cdT|refine hK _ _ ?_;clear hK K)
    refine zO [4,5,11,12,13,14,15,16,17,18,19,20,21,22,23,24,25] (fun i:Nat=>[(5,i64 i)]) (fun _=>[]) (fun i=>i<=a.length/\a.take i=b.take i) (fun i=>a.length-i) 0 ⟨Nat.zero_le _,rfl⟩ ?_ rfl ?_
    · (refine⟨⟨_,sT,?_⟩,trivial⟩<;>(try exact zu))
    · rintro i ⟨hi,ht⟩
      simp only[yN,List.map_cons,List.map_nil,List.cons_append,List.nil_append]
      by_cases hlt:i<a.length
      · obtain⟨x,hx⟩:∃x,a[i]?=some x:=⟨a[i],List.getElem?_eq_getElem hlt⟩
        obtain⟨y,hy⟩:∃y,b[i]?=some y:=⟨b[i],List.getElem?_eq_getElem (by omega)⟩
        repeat'(first|refine goR ?_|refine zd fun K hK=>?_|refine y7 ?_|refine zc ?_ ?_<;>intro hcd<;>(try simp only[hcP]at hcd)<;>try exact cdT|((refine zo [] (by rw[Tryz.results75,Lf.zI]) (zw ?_) ?_)<;>(try exact uT))|(guard_target =~ dg _ _ _ _ _ _ _;first|(guard_target =~ dg _ _ _ (⟨_,.indexAddr _ _ _,_,_,_,none⟩::_) _ _ _;(refine vz (x:=_) (h:=zH (h:=zZ rfl (hK:=zl ⟨rfl,rfl⟩))) (hk:=?_))))|refine hK _ _ ?_;clear hK K)
        · have hne:a≠b:=by
            rintro rfl
            rw[hx]at hy
            cases hy
            exact hcd rfl
          exact yo (by simp[hne])
        · have hxy : x = y := UInt8.toNat_inj.1 (by omega)
          refine⟨i+1,⟨by omega,by rw[vq hx,vq hy,ht,hxy]⟩,by omega,?_,arT,rfl⟩
          (refine⟨⟨_,sT,?_⟩,trivial⟩<;>(try exact zu))
      · have hab:a=b:=by
          have h1:a.take i=a:=List.take_of_length_le (by omega)
          have h2:b.take i=b:=List.take_of_length_le (by omega)
          rw[<-h1,<-h2];exact ht
        subst hab
        repeat'(first|refine goR ?_|refine zd fun K hK=>?_|refine zc ?_ ?_<;>intro hcd<;>(try simp only[hcP]at hcd)<;>try exact cdT|((refine zo [] (by rw[Tryz.results75,Lf.zI]) (zw ?_) ?_)<;>(try exact uT))|refine hK _ _ ?_;clear hK K|(apply_assumption (exfalso:=false) (symm:=false)))
        exact yo (by simp)
  · have : a ≠ b := fun e => h (by rw [e])
    rw[show decide (a=b)=false by simp[this]]
    refine enT Tryz.func75 Tryz.ntmps75 ?_
    have hU:=True.intro
    repeat'(first|refine goR ?_|refine zd fun K hK=>?_|refine zc ?_ ?_<;>intro hcd<;>(try simp only[hcP]at hcd)<;>try exact cdT|((refine zo [] (by rw[Tryz.results75,Lf.zI]) (zw ?_) ?_)<;>(try exact uT))|refine hK _ _ ?_;clear hK K)
theorem zc9(f q:Bool)(l:List UInt8)(h:l.length<=100000000000000): AEq Tryz.prog 143 [.sl f q (l.map zk)] [] (.sl false false (l.map zk)) []:=by
  refine enT Tryz.func143 Tryz.ntmps143 ?_
  have hU:=True.intro
  repeat'(first|refine goS ?_|refine zd fun K hK=>?_|refine zc ?_ ?_<;>intro hcd<;>(try simp only[hcP]at hcd)<;>try exact cdT|(guard_target =~ SOp _ _ ⟨_,.binOp _ _ _ _ _,_,_,_,none⟩ _ _ _;refine ze3 (ne:=false) rfl (hx:=⟨_,sT,rfl⟩) (hK:=(fun b hb=>?_)))|((refine zo [] (by rw[Tryz.results143,Lf.zI]) (zw ?_) ?_)<;>(try exact uT))|refine hK _ _ ?_;clear hK K)
  · have:l=[]:=by
      cases l with
      | nil=>rfl
      | cons x l=>simp_all
    subst this
    exact zbt (by simp)
def vW(x:UInt8): List Int:=[(x.toNat:Int) / 128 % 2,(x.toNat:Int) / 64 % 2,(x.toNat:Int) / 32 % 2,(x.toNat:Int) / 16 % 2,(x.toNat:Int) / 8 % 2,(x.toNat:Int) / 4 % 2,(x.toNat:Int) / 2 % 2,(x.toNat:Int) / 1 % 2]
def bitsL(b:List UInt8): List Int:=b.flatMap vW
theorem zej(b:List UInt8): (bitsL b).length=8*b.length:=by
 induction b with
 | nil=>rfl
 | cons x b ih=>simp only[bitsL,List.flatMap_cons,List.length_append]at ih ⊢;rw[ih];simp[vW];omega
theorem ziR(b:List UInt8)(a:Nat)(x:UInt8)(h:b[a / 8]?=some x): (bitsL b)[a]?=(vW x)[a % 8]?:=by
 induction b generalizing a with
 | nil=>simp at h
 | cons y b ih=>
  have e:bitsL (y::b)=vW y++bitsL b:=rfl
  rw[e]
  by_cases ha:a<8
  ·rw [List.getElem?_append_left (by simpa [vW] using ha), Nat.mod_eq_of_lt ha]
   rw[Nat.div_eq_of_lt ha]at h
   simp at h
   rw[h]
  ·rw [List.getElem?_append_right (by simp [vW]; omega)]
   have h8:(vW y).length=8:=rfl
   rw[h8]
   have hd:a / 8=(a-8) / 8+1:=by omega
   rw[hd]at h
   simp only[List.getElem?_cons_succ]at h
   rw[ih (a-8) h]
   congr 1;omega
theorem zt0(b:List UInt8): ∀x∈bitsL b,x=0\/x=1:=by
 intro x hx
 rw[bitsL,List.mem_flatMap]at hx
 obtain⟨y,_,hx⟩:=hx
 simp only[vW,List.mem_cons,List.not_mem_nil,or_false]at hx
 omega
def zda(l:List Int): Int:=l.foldl (fun v x=>2*v+x) 0
theorem zEe(n:Nat)(h:n<256): jV .u8 (n:Int) 1=(n:Int) % 2:=by
 show IntKind.u8.wrap ((BitVec.ofInt 8 (n:Int) &&& BitVec.ofInt 8 1).toNat:Int)=_
 have e:BitVec.ofInt 8 (n:Int)=BitVec.ofNat 8 n:=rfl
 have e1:BitVec.ofInt 8 1=BitVec.ofNat 8 1:=rfl
 rw[e,e1,BitVec.toNat_and,BitVec.toNat_ofNat,BitVec.toNat_ofNat,Nat.mod_eq_of_lt h,show 1 % 2 ^ 8=1 from rfl,Nat.and_one_is_mod]
 have:=wu8 (n:=((n % 2:Nat):Int)) (by omega)
 rw[this];simp
theorem zpE(b:List UInt8)(a:Int)(x:UInt8)(h0:0<=a)(hx:b[(a / 8).toNat]?=some x): IntKind.i64.wrap (jV IntKind.u8 (((x.toNat:Int)).fdiv (2 ^ (7-a % 8).toNat)) 1)=(bitsL b).getD a.toNat 0:=by
 have hl:=x.toNat_lt
 have e:(a / 8).toNat=a.toNat / 8:=by omega
 rw[e]at hx
 rw[List.getD_eq_getElem?_getD,ziR b a.toNat x hx]
 have key:∀k:Nat,k<8->IntKind.i64.wrap (jV IntKind.u8 (((x.toNat:Int)).fdiv (2 ^ (7-k))) 1)=((vW x)[k]?).getD 0:=by
  intro k hk
  have hp:((x.toNat:Int)).fdiv (2 ^ (7-k))=((x.toNat / 2 ^ (7-k):Nat):Int):=by
   rw[Int.fdiv_eq_ediv_of_nonneg _ (Int.le_of_lt (Int.pow_pos (by decide)))]
   simp
  have hq:x.toNat / 2 ^ (7-k)<256:=Nat.lt_of_le_of_lt (Nat.div_le_self _ _) hl
  rw[hp,zEe _ hq,w64 (by omega)]
  rcases(show k=0\/k=1\/k=2\/k=3\/k=4\/k=5\/k=6\/k=7 by omega)with rfl|rfl|rfl|rfl|rfl|rfl|rfl|rfl<;>simp[vW]
 have:=key (a.toNat % 8) (by omega)
 rw[show(7-a % 8).toNat=7-a.toNat % 8 from by omega]
 exact this
theorem zxO(f q:Bool)(l:List UInt8)(h:l.length<=100000000000000): AEq Tryz.prog 242 [.sl f q (l.map zk)] [] (.ptr 0 0) [.box [.sl false false (l.map zk),i64 0]]:=by
 refine enT Tryz.func242 Tryz.ntmps242 ?_
 have hU:=True.intro
 repeat'(first|refine goR ?_|refine zd fun K hK=>?_|(refine zj (f:=143) rfl Tryz.call143 (h:=AEq.pure' agT (zc9 _ _ _ (by assumption)) (hq:=?_)))|((refine zo [0] (by rw[Tryz.results242,Lf.zI]) (zw ?_) ?_)<;>(try exact uT))|refine hK _ _ ?_;clear hK K)
theorem ziS(f:Bool)(b:List UInt8)(a:Int)(h0:0<=a)(h1:a<=8*b.length)(hb:b.length<=100000000000000): AEq Tryz.prog 250 [.ptr 0 0] [.box [.sl f false (b.map zk),i64 a]] (i64 (8*b.length-a)) [.box [.sl f false (b.map zk),i64 a]]:=by
 refine enT Tryz.func250 Tryz.ntmps250 ?_
 have hU:=True.intro
 repeat'(first|refine goR ?_|refine zd fun K hK=>?_|refine y7 ?_|refine zc ?_ ?_<;>intro hcd<;>(try simp only[hcP]at hcd)<;>try exact cdT|((refine zo [0] (by rw[Tryz.results250,Lf.zI]) (zw ?_) ?_)<;>(try exact uT))|refine hK _ _ ?_;clear hK K)
theorem ziT(f:Bool)(b:List UInt8)(a:Int)(h0:0<=a)(h1:a=8*b.length)(hb:b.length<=100000000000000): AEq Tryz.prog 243 [.ptr 0 0] [.box [.sl f false (b.map zk),i64 a]] (.tu [i64 0,bl false]) [.box [.sl f false (b.map zk),i64 a]]:=by
 refine enT Tryz.func243 Tryz.ntmps243 ?_
 have hU:=True.intro
 repeat'(first|refine goR ?_|refine zd fun K hK=>?_|refine zc ?_ ?_<;>intro hcd<;>(try simp only[hcP]at hcd)<;>try exact cdT|(refine zj (f:=250) rfl Tryz.call250 (h:=AEq.sub' [_] (hc:=ziS _ _ _ aoT aoT aoT) (hq:=?_)))|((refine zo [0] (by rw[Tryz.results243,Lf.ym]) (zF ?_ ?_) ?_)<;>(try exact uT))|refine hK _ _ ?_;clear hK K)
theorem ziU(f:Bool)(b:List UInt8)(a:Int)(h0:0<=a)(h1:a<8*b.length)(hb:b.length<=100000000000000): AEq Tryz.prog 243 [.ptr 0 0] [.box [.sl f false (b.map zk),i64 a]] (.tu [i64 ((bitsL b).getD a.toNat 0),bl true]) [.box [.sl f false (b.map zk),i64 (a+1)]]:=by
 obtain⟨x,hx⟩:∃x,b[(a / 8).toNat]?=some x:=⟨b[(a / 8).toNat],List.getElem?_eq_getElem (by omega)⟩
 have hv:=zpE b a x h0 hx
 refine enT Tryz.func243 Tryz.ntmps243 ?_
 have hU:=True.intro
 repeat'(first|refine goR ?_|refine zd fun K hK=>?_|refine y7 ?_|refine zc ?_ ?_<;>intro hcd<;>(try simp only[hcP]at hcd)<;>try exact cdT|(refine zj (f:=250) rfl Tryz.call250 (h:=AEq.sub' [_] (hc:=ziS _ _ _ aoT aoT aoT) (hq:=?_)))|((refine zo [0] (by rw[Tryz.results243,Lf.ym]) (zF ?_ ?_) ?_)<;>(try exact uT))|(guard_target =~ dg _ _ _ _ _ _ _;first|(guard_target =~ dg _ _ _ (⟨_,.indexAddr _ _ _,_,_,_,none⟩::_) _ _ _;(refine vz (x:=_) (h:=zH (h:=zZ rfl (hK:=zl ⟨rfl,rfl⟩))) (hk:=?_))))|refine hK _ _ ?_;clear hK K)
 exact yV hv
theorem zfc(n:Int): AEq Tryz.prog 248 [i64 n] [] (bl (decide (0<=n) && decide (n<=32))) []:=by
 refine enT Tryz.func248 Tryz.ntmps248 ?_
 have hU:=True.intro
 repeat'(first|refine goR ?_|refine zd fun K hK=>?_|((refine zo [] (by rw[Tryz.results248,Lf.zI]) (zw ?_) ?_)<;>(try exact uT))|refine hK _ _ ?_;clear hK K)
theorem zme(a b:Int): 0<=jD .u8 a b/\jD .u8 a b<=255:=by
 unfold jD
 have h:=(BitVec.ofInt (IntKind.bits .u8) a &&& ~~~ BitVec.ofInt (IntKind.bits .u8) b).isLt
 have h2:(BitVec.ofInt (IntKind.bits .u8) a &&& ~~~ BitVec.ofInt (IntKind.bits .u8) b).toNat<256:=h
 rw[wu8 (by omega)]
 omega
def zpF(y:UInt8)(j:Nat): UInt8:=UInt8.ofNat (jD .u8 (y.toNat:Int) (128 / 2 ^ j)).toNat
theorem zgb(y:UInt8)(j:Nat): ((zpF y j).toNat:Int)=jD .u8 (y.toNat:Int) (128 / 2 ^ j):=by
 have:=zme (y.toNat:Int) (128 / 2 ^ j)
 unfold zpF
 rw[UInt8.toNat_ofNat_of_lt' (by simp;omega)]
 omega
theorem zhH: ∀(y:Fin 256) (j:Fin 8),vW (zpF (UInt8.ofNat y.val) j.val)=(vW (UInt8.ofNat y.val)).set j.val 0:=by decide +kernel
theorem ziV(y:UInt8)(j:Nat)(hj:j<8): vW (zpF y j)=(vW y).set j 0:=by
 have:=zhH ⟨y.toNat,y.toNat_lt⟩ ⟨j,hj⟩
 simpa using this
def zce(bs:List UInt8)(k:Nat)(x:Int): List UInt8:=
 if x=0 then(if k % 8=0 then bs++[255]else bs).set (k / 8) (zpF ((if k % 8=0 then bs++[255]else bs).getD (k / 8) 0) (k % 8))else(if k % 8=0 then bs++[255]else bs)
def zvW(L:List Int): List UInt8×Nat:=L.foldl (fun p x=>(zce p.1 p.2 x,p.2+1)) ([],0)
def yO(L:List Int): List UInt8:=(zvW L).1
theorem zt1(L:List Int): (zvW L).2=L.length:=by
 have key:∀(L:List Int) (p:List UInt8×Nat),(L.foldl (fun p x=>(zce p.1 p.2 x,p.2+1)) p).2=p.2+L.length:=by
  intro L
  induction L with
  | nil=>intro p;rfl
  | cons x L ih=>intro p;rw[List.foldl_cons,ih];simp;omega
 have:=key L ([],0)
 simpa[zvW]using this
theorem zbz(L:List Int)(x:Int): yO (L++[x])=zce (yO L) L.length x:=by
 have:=zt1 L
 unfold yO zvW at *
 rw[List.foldl_append,List.foldl_cons,List.foldl_nil,this]
theorem zbA(bs:List UInt8)(k:Nat)(x:Int): (zce bs k x).length=if k % 8=0 then bs.length+1 else bs.length:=by
 unfold zce
 split<;>split<;>simp
theorem ja(L:List Int): (yO L).length=(L.length+7) / 8:=by
 have key:∀n (L:List Int),L.length=n->(yO L).length=(L.length+7) / 8:=by
  intro n
  induction n with
  | zero=>intro L h;rw[List.eq_nil_of_length_eq_zero h];rfl
  | succ n ih=>
   intro L h
   obtain⟨x,hx⟩:∃x,L[n]?=some x:=⟨L[n],List.getElem?_eq_getElem (by omega)⟩
   have e:L=L.take n++[x]:=by rw[<-vq hx,List.take_of_length_le (by omega)]
   have hl:(L.take n).length=n:=by rw[List.length_take];omega
   rw[e,zbz,zbA,ih _ hl,List.length_append,List.length_singleton,hl]
   split<;>omega
 exact key _ L rfl
def msb(v:Int): Nat->List Int
 | 0=>[]
 | m+1=>(v / 2 ^ m % 2)::msb v m
theorem zpG(v:Int)(n:Nat): (msb v n).length=n:=by induction n with|zero=>rfl|succ n ih=>simp[msb,ih]
def rpE(v n:Int): Int:=if n<0\/32<n then 1 else if v<0\/2 ^ n.toNat<=v then 5 else 0
def rpL(L:List Int)(v n:Int): List Int:=if rpE v n=0 then L++msb v n.toNat else L
theorem zt2(v:Int)(m:Nat)(h0:0<=v)(h1:v<=9223372036854775807): jV .i64 (v.fdiv (2 ^ (((m+1:Nat):Int)-1).toNat)) 1=v / 2 ^ m % 2:=by
 rw[show(((m+1:Nat):Int)-1).toNat=m from by omega]
 obtain⟨k,rfl⟩:=Int.eq_ofNat_of_zero_le h0
 have e:((k:Int)).fdiv (2 ^ m)=((k / 2 ^ m:Nat):Int):=by
  rw[Int.fdiv_eq_ediv_of_nonneg _ (Int.le_of_lt (Int.pow_pos (by decide)))];simp
 have e2:(k:Int) / 2 ^ m=((k / 2 ^ m:Nat):Int):=by simp
 have hq:k / 2 ^ m<9223372036854775808:=Nat.lt_of_le_of_lt (Nat.div_le_self _ _) (by omega)
 rw[e,e2]
 generalize k / 2 ^ m=q at *
 show IntKind.i64.wrap ((BitVec.ofInt 64 (q:Int) &&& BitVec.ofInt 64 1).toNat:Int)=_
 have e:BitVec.ofInt 64 (q:Int)=BitVec.ofNat 64 q:=rfl
 have e1:BitVec.ofInt 64 1=BitVec.ofNat 64 1:=rfl
 rw[e,e1,BitVec.toNat_and,BitVec.toNat_ofNat,BitVec.toNat_ofNat,Nat.mod_eq_of_lt (by omega),show 1 % 2 ^ 64=1 from rfl,Nat.and_one_is_mod]
 have:=w64 (n:=((q % 2:Nat):Int)) (by omega)
 rw[this];simp
theorem zt3(L:List Int)(v n:Int)(hL:L.length<=1000000000): AEq Tryz.prog 238 [.ptr 0 0,i64 v,i64 n] [.box [.row 1 (yO L).length,i64 L.length],.row (yO L).length 5 1 ((yO L).map zk)] (i64 (rpE v n)) [.box [.row 1 (yO (rpL L v n)).length,i64 (rpL L v n).length],.row (yO (rpL L v n)).length 5 1 ((yO (rpL L v n)).map zk)]:=by
  by_cases hn:n<0\/32<n
  · have h1:rpE v n=1:=if_pos hn
    have h2:rpL L v n=L:=by simp[rpL,h1]
    rw[h1,h2]
    refine enT Tryz.func238 Tryz.ntmps238 ?_
    have hU:=True.intro
    exact wk
  have hp:(2:Int) ^ n.toNat<=4294967296/\1<=(2:Int) ^ n.toNat:=by
    have h1:2 ^ n.toNat<=2 ^ 32:=Nat.pow_le_pow_right (by decide) (by omega)
    have h2:0<2 ^ n.toNat:=Nat.pow_pos (by decide)
    have e:(2:Int) ^ n.toNat=((2 ^ n.toNat:Nat):Int):=by simp
    rw[e];omega
  by_cases hv:v<0\/2 ^ n.toNat<=v
  · have h1 : rpE v n = 5 := by simp only [rpE]; rw [if_neg hn, if_pos hv]
    have h2:rpL L v n=L:=by simp[rpL,h1]
    rw[h1,h2]
    refine enT Tryz.func238 Tryz.ntmps238 ?_
    have hU:=True.intro
    exact wk
  have h1:rpE v n=0:=by simp only[rpE];rw[if_neg hn,if_neg hv]
  have h2:rpL L v n=L++msb v n.toNat:=by simp[rpL,h1]
  rw[h1,h2]
  generalize hM:L++msb v n.toNat=M
  refine enT Tryz.func238 Tryz.ntmps238 ?_
  have hU:=True.intro
  repeat'(first|refine goR ?_|refine zd fun K hK=>?_|refine zc ?_ ?_<;>intro hcd<;>(try simp only[hcP]at hcd)<;>try exact cdT|(refine zj (f:=248) rfl Tryz.call248 (h:=AEq.pure' agT (zfc _) (hq:=?_)))|refine hK _ _ ?_;clear hK K)
  refine zO [2,24,25,26,27,28,29,30,31,32,33,34,35,36,37,38,39,40,41,42,43,44,45,46,47,48,49,50,51,52,53,54,55,56,57,58,59,60,61,62,63,64,65,66,67,68,69,70,71,72,73,74,75] (fun s:List Int×Nat=>[(2,i64 s.2)]) (fun s=>[.box [.row 1 (yO s.1).length,i64 s.1.length],.row (yO s.1).length 5 1 ((yO s.1).map zk)]) (fun s=>s.1++msb v s.2=M/\s.2<=32/\s.1.length+s.2<=1000000032) (fun s=>s.2) (L,n.toNat) ⟨hM,by dsimp only;omega,by dsimp only;omega⟩ ?_ rfl ?_
  · (refine⟨⟨_,sT,?_⟩,trivial⟩<;>(try(first | exact zu)))
    all_goals exact yV (by omega)
  · rintro⟨C,m⟩ ⟨hk,hm,hC⟩
    dsimp only at hk hm hC
    simp only[yN,List.map_cons,List.map_nil,List.cons_append,List.nil_append]
    have hlen:=ja C
    cases m with
    | zero=>
      rw[msb,List.append_nil]at hk
      subst hk
      repeat'(first|refine goR ?_|refine zd fun K hK=>?_|refine zc ?_ ?_<;>intro hcd<;>(try simp only[hcP]at hcd)<;>try exact cdT|((refine zo [0,1] (by rw[Tryz.results238,Lf.zI]) (zw ?_) ?_)<;>(try exact uT))|refine hK _ _ ?_;clear hK K|(apply_assumption (exfalso:=false) (symm:=false)))
    | succ m=>
      have hb:=zt2 v m (by omega) (by omega)
      have hs:=zbz C (v / 2 ^ m % 2)
      have hk2:(C++[v / 2 ^ m % 2])++msb v m=M:=by rw[<-hk];simp[msb]
      have hl2:(C++[v / 2 ^ m % 2]).length=C.length+1:=by simp
      by_cases h8:C.length % 8=0
      · have hr:(List.map zk (yO C)++[[AV.lit (.int .u8 255)]])[((C.length:Int) / 8).toNat]?=some [AV.lit (.int .u8 255)]:=by
          rw[List.getElem?_append_right (by rw[List.length_map];omega),List.length_map,show((C.length:Int) / 8).toNat-(yO C).length=0 from by omega];rfl
        have hRl:(yO (C++[v / 2 ^ m % 2])).length=(yO C).length+1:=by rw[hs,zbA,if_pos h8]
        have hR0:v / 2 ^ m % 2=0->List.map zk (yO (C++[v / 2 ^ m % 2]))=(List.map zk (yO C)++[[AV.lit (.int .u8 255)]]).set ((C.length:Int) / 8).toNat [AV.lit (.int .u8 (jD .u8 255 (Int.fdiv 128 (2 ^ ((C.length:Int) % 8).toNat))))]:=by
          intro hx
          have hy:(yO C++[255]).getD (C.length / 8) 0=255:=by
            rw[List.getD_eq_getElem?_getD,List.getElem?_append_right (by omega),show C.length / 8-(yO C).length=0 from by omega];rfl
          rw[hs,zce,if_pos hx,if_pos h8,hy,List.map_set,List.map_append,show((C.length:Int) / 8).toNat=C.length / 8 from by omega,show((C.length:Int) % 8).toNat=C.length % 8 from by omega]
          have:=zgb 255 (C.length % 8)
          congr 1
          show[AV.lit (.int .u8 (zpF 255 (C.length % 8)).toNat)]=_
          rw[this,Int.fdiv_eq_ediv_of_nonneg _ (Int.le_of_lt (Int.pow_pos (by decide)))];rfl
        have hR1:¬v / 2 ^ m % 2=0->List.map zk (yO (C++[v / 2 ^ m % 2]))=List.map zk (yO C)++[[AV.lit (.int .u8 255)]]:=by
          intro hx
          rw[hs,zce,if_neg hx,if_pos h8,List.map_append];rfl
        have hU:=And.intro @hr (@hb)
        repeat'(first|refine goS ?_|refine y1S ?_|refine zd fun K hK=>?_|refine zc ?_ ?_<;>intro hcd<;>(try simp only[hcP]at hcd)<;>try exact cdT|refine hK _ _ ?_;clear hK K|(guard_target =~ dg _ _ _ _ _ _ _;first|(guard_target =~ dg _ _ _ (⟨_,.indexAddr _ _ _,_,_,_,none⟩::_) _ _ _;(refine vz (x:=_) (h:=zH (h:=yG rfl (hK:=zl ⟨rfl,rfl⟩))) (hk:=?_))))|(dsimp only[Lf.yk,Lf.yJ]))
        · refine ⟨(C ++ [v / 2 ^ m % 2], m), ⟨hk2, by dsimp only; omega, by dsimp only; omega⟩, by dsimp only; omega, ?_, arT, by first | (dsimp only; rw [hRl, hR0 hcd, hl2]; rfl) | fail⟩
          (refine⟨⟨_,sT,?_⟩,trivial⟩<;>(try exact zu))
          all_goals exact yV (by omega)
        · refine ⟨(C ++ [v / 2 ^ m % 2], m), ⟨hk2, by dsimp only; omega, by dsimp only; omega⟩, by dsimp only; omega, ?_, arT, by first | (dsimp only; rw [hRl, hR1 hcd, hl2]; rfl) | fail⟩
          (refine⟨⟨_,sT,?_⟩,trivial⟩<;>(try exact zu))
          all_goals exact yV (by omega)
      · obtain ⟨y, hy⟩ : ∃ y, (yO C)[C.length / 8]? = some y := ⟨(yO C)[C.length / 8], List.getElem?_eq_getElem (by omega)⟩
        have hr:(List.map zk (yO C))[((C.length:Int) / 8).toNat]?=some [AV.lit (.int .u8 y.toNat)]:=by
          rw[show((C.length:Int) / 8).toNat=C.length / 8 from by omega,List.getElem?_map,hy];rfl
        have hRl:(yO (C++[v / 2 ^ m % 2])).length=(yO C).length:=by rw[hs,zbA,if_neg h8]
        have hR0:v / 2 ^ m % 2=0->List.map zk (yO (C++[v / 2 ^ m % 2]))=(List.map zk (yO C)).set ((C.length:Int) / 8).toNat [AV.lit (.int .u8 (jD .u8 y.toNat (Int.fdiv 128 (2 ^ ((C.length:Int) % 8).toNat))))]:=by
          intro hx
          have hy:(yO C).getD (C.length / 8) 0=y:=by rw[List.getD_eq_getElem?_getD,hy];rfl
          rw[hs,zce,if_pos hx,if_neg h8,hy,List.map_set,show((C.length:Int) / 8).toNat=C.length / 8 from by omega,show((C.length:Int) % 8).toNat=C.length % 8 from by omega]
          have:=zgb y (C.length % 8)
          congr 1
          show[AV.lit (.int .u8 (zpF y (C.length % 8)).toNat)]=_
          rw[this,Int.fdiv_eq_ediv_of_nonneg _ (Int.le_of_lt (Int.pow_pos (by decide)))]
        have hR1:¬v / 2 ^ m % 2=0->List.map zk (yO (C++[v / 2 ^ m % 2]))=List.map zk (yO C):=by
          intro hx
          rw[hs,zce,if_neg hx,if_neg h8]
        have hU:=And.intro @hr (@hb)
        repeat'(first|refine goR ?_|refine y1S ?_|refine zd fun K hK=>?_|refine zc ?_ ?_<;>intro hcd<;>(try simp only[hcP]at hcd)<;>try exact cdT|refine hK _ _ ?_;clear hK K|(guard_target =~ dg _ _ _ _ _ _ _;first|(guard_target =~ dg _ _ _ (⟨_,.indexAddr _ _ _,_,_,_,none⟩::_) _ _ _;(refine vz (x:=_) (h:=zH (h:=yG rfl (hK:=zl ⟨rfl,rfl⟩))) (hk:=?_))))|(dsimp only[Lf.yk,Lf.yJ]))
        · refine ⟨(C ++ [v / 2 ^ m % 2], m), ⟨hk2, by dsimp only; omega, by dsimp only; omega⟩, by dsimp only; omega, ?_, arT, by first | (dsimp only; rw [hRl, hR0 hcd, hl2]; rfl) | fail⟩
          (refine⟨⟨_,sT,?_⟩,trivial⟩<;>(try exact zu))
          all_goals exact yV (by omega)
        · refine ⟨(C ++ [v / 2 ^ m % 2], m), ⟨hk2, by dsimp only; omega, by dsimp only; omega⟩, by dsimp only; omega, ?_, arT, by first | (dsimp only; rw [hRl, hR1 hcd, hl2]; rfl) | fail⟩
          (refine⟨⟨_,sT,?_⟩,trivial⟩<;>(try exact zu))
          all_goals exact yV (by omega)
theorem zmf(b:List UInt8)(n:Int)(hb:b.length<=1000000000): AEq Tryz.prog 240 [.ptr 0 0] [.box [.row 1 b.length,i64 n],.row b.length 5 1 (b.map zk)] (.sl false false (b.map zk)) [.box [.row 1 b.length,i64 n],.row b.length 5 1 (b.map zk)]:=by
 refine enT Tryz.func240 Tryz.ntmps240 ?_
 have hU:=True.intro
 repeat'(first|refine goR ?_|refine zd fun K hK=>?_|refine zc ?_ ?_<;>intro hcd<;>(try simp only[hcP]at hcd)<;>try exact cdT|(refine zj (f:=143) rfl Tryz.call143 (h:=AEq.pure' agT (zc9 _ _ _ (by omega)) (hq:=?_)))|((refine zo [0,1] (by rw[Tryz.results240,Lf.zI]) (zw ?_) ?_)<;>(try exact uT))|refine hK _ _ ?_;clear hK K)
theorem zt4(v x:Int)(h0:0<=v)(h1:v<=4294967296)(hx:x=0\/x=1): ior .i64 (v*2) x=2*v+x:=by
 obtain⟨k,rfl⟩:=Int.eq_ofNat_of_zero_le h0
 have key:((k:Int)*(2:Int))=((k <<< 1:Nat):Int):=by rw[Nat.shiftLeft_eq];omega
 rw[show(k:Int)*(2:Int)=((k <<< 1:Nat):Int)from key]
 have hk:k <<< 1<2 ^ 64:=by rw[Nat.shiftLeft_eq];omega
 show IntKind.i64.wrap ((BitVec.ofInt 64 ((k <<< 1:Nat):Int) ||| BitVec.ofInt 64 x).toNat:Int)=_
 have e:BitVec.ofInt 64 ((k <<< 1:Nat):Int)=BitVec.ofNat 64 (k <<< 1):=rfl
 rcases hx with rfl|rfl
 ·rw[show BitVec.ofInt 64 0=BitVec.ofNat 64 0 from rfl,e,BitVec.toNat_or,BitVec.toNat_ofNat,BitVec.toNat_ofNat,Nat.mod_eq_of_lt hk]
  simp only[Nat.zero_mod,Nat.or_zero]
  rw[w64 (by rw[Nat.shiftLeft_eq];omega),Nat.shiftLeft_eq];omega
 ·rw[show BitVec.ofInt 64 1=BitVec.ofNat 64 1 from rfl,e,BitVec.toNat_or,BitVec.toNat_ofNat,BitVec.toNat_ofNat,Nat.mod_eq_of_lt hk]
  have h2:k <<< 1 ||| 1 % 2 ^ 64=k <<< 1+1:=Nat.shiftLeft_add_eq_or_of_lt (b:=1) (i:=1) (by decide) k ▸ rfl
  rw[h2,w64 (by rw[Nat.shiftLeft_eq];omega),Nat.shiftLeft_eq];omega
theorem ziW(a b:List UInt8): bitsL (a++b)=bitsL a++bitsL b:=by simp[bitsL]
theorem zbB(x:UInt8): (vW x).length=8:=rfl
theorem ziX(b:List UInt8)(c j:Nat)(y z:UInt8)(hj:j<8)(hz:vW z=(vW y).set j 0)(hy:b[c]?=some y): bitsL (b.set c z)=(bitsL b).set (8*c+j) 0:=by
 induction b generalizing c with
 | nil=>simp at hy
 | cons x b ih=>
  cases c with
  | zero=>
   simp at hy;subst hy
   show vW z++bitsL b=(vW x++bitsL b).set (8*0+j) 0
   rw[hz,List.set_append_left _ _ (by rw[zbB];omega)]
   simp
  | succ c=>
   simp only[List.getElem?_cons_succ]at hy
   show vW x++bitsL (b.set c z)=(vW x++bitsL b).set (8*(c+1)+j) 0
   rw[ih c hy,List.set_append_right _ _ (by rw[zbB];omega),zbB]
   congr 2;omega
theorem zmg(L:List Int)(h:∀x∈L,x=0\/x=1): bitsL (yO L)=L++List.replicate (8*(yO L).length-L.length) 1:=by
 have key:∀n (L:List Int),(∀x∈L,x=0\/x=1)->L.length=n->bitsL (yO L)=L++List.replicate (8*(yO L).length-L.length) 1:=by
  intro n
  induction n with
  | zero=>intro L _ h;rw[List.eq_nil_of_length_eq_zero h];rfl
  | succ n ih=>
   intro L hb h
   obtain⟨x,hx⟩:∃x,L[n]?=some x:=⟨L[n],List.getElem?_eq_getElem (by omega)⟩
   have e:L=L.take n++[x]:=by rw[<-vq hx,List.take_of_length_le (by omega)]
   have hl:(L.take n).length=n:=by rw[List.length_take];omega
   have hx01:=hb x (List.mem_of_getElem? hx)
   have ihn:=ih (L.take n) (fun y hy=>hb y (List.mem_of_mem_take hy)) hl
   generalize L.take n=M at *
   subst e
   have hlen:=ja M
   have hM:bitsL (if M.length % 8=0 then yO M++[255]else yO M)=M++1::List.replicate (8*(M.length / 8+1)-M.length-1) 1:=by
    by_cases h8:M.length % 8=0
    ·rw [if_pos h8, ziW, ihn, show 8 * (yO M).length - M.length = 0 from by omega, show 8 * (M.length / 8 + 1) - M.length - 1 = 7 from by omega]
     simp;rfl
    ·rw[if_neg h8,ihn,<-List.replicate_succ]
     congr 2;omega
   have hr:(if M.length % 8=0 then yO M++[255]else yO M).length=M.length / 8+1:=by
    split
    ·rw[List.length_append];simp;omega
    ·omega
   have h8l:(yO (M++[x])).length=M.length / 8+1:=by rw[ja,List.length_append];simp;omega
   rw[h8l,zbz,zce]
   generalize hB:(if M.length % 8=0 then yO M++[255]else yO M)=B at *
   have hfin:8*(M.length / 8+1)-(M++[x]).length=8*(M.length / 8+1)-M.length-1:=by rw[List.length_append];simp;omega
   rw[hfin]
   rcases hx01 with rfl|rfl
   ·rw[if_pos rfl]
    obtain⟨y,hy⟩:∃y,B[M.length / 8]?=some y:=⟨B[M.length / 8],List.getElem?_eq_getElem (by omega)⟩
    rw[ziX B (M.length / 8) (M.length % 8) y _ (by omega) (by rw[List.getD_eq_getElem?_getD,hy];exact ziV y _ (by omega)) hy,hM,show 8*(M.length / 8)+M.length % 8=M.length from by omega,List.set_append_right _ _ (Nat.le_refl _)]
    simp
   ·rw[if_neg (by decide),hM];simp
 exact key _ L h rfl
def zxP(L:List Int)(c:Nat): List Int:=(List.range 8).map fun j=>L.getD (8*c+j) 1
def zxQ(L:List Int): List UInt8:=(List.range ((L.length+7) / 8)).map fun c=>UInt8.ofNat (zda (zxP L c)).toNat
theorem zxR(v:Int)(n:Nat): ∀x∈msb v n,x=0\/x=1:=by
  induction n with
  | zero=>intro x h;simp[msb]at h
  | succ n ih => intro x h; simp only [msb, List.mem_cons] at h; rcases h with rfl | h; · omega
                 exact ih x h
def lenT: List UInt8:=[73,83,88,88,88,88,88,88,88,84,90,88,88,90,88,88,88,88,88,88,88,88,90,88,88,88,88,88,88,88,88,88,66,70,70,72,73,66,68,71,70,70,68,71,68,66,66,66,65,65,65,66,66,66,66,66,66,66,67,68,75,66,72,70,73,66,67,67,67,67,67,67,67,67,67,67,67,67,67,67,67,67,67,67,67,67,67,67,68,67,68,73,79,73,74,66,75,65,66,65,66,65,66,66,66,65,67,67,66,66,66,65,66,67,66,65,65,66,67,67,67,67,67,75,71,74,73,88,80,82,80,80,82,82,82,83,82,83,83,83,83,83,84,83,84,84,82,83,84,83,83,83,83,81,82,83,82,83,83,84,82,81,80,82,82,83,83,81,83,82,82,84,81,82,83,83,81,81,82,81,83,82,83,83,80,82,82,82,83,82,82,83,86,86,80,79,82,83,82,85,86,86,86,87,87,86,84,85,79,81,86,87,87,86,87,84,81,81,86,86,88,87,87,87,80,84,80,81,82,81,81,83,82,82,85,85,84,84,86,83,86,87,86,86,87,87,87,87,87,88,87,87,87,87,87,86,90]
theorem zgc: lenT.length=257:=by decide +kernel
theorem ziY: ∀i:Fin 257,65<=(lenT.getD i.val 0).toNat/\(lenT.getD i.val 0).toNat<=90:=by decide +kernel
def szI(s:Int): Int:=((lenT.getD s.toNat 0).toNat:Int)-60
theorem zgd{s:Int}(h0:0<=s)(h1:s<=256): 5<=szI s/\szI s<=30:=by
 have:=ziY ⟨s.toNat,by omega⟩
 unfold szI
 dsimp only at this
 omega
theorem zpH{s:Int}(h0:0<=s)(h1:s<=256): zbj Tryz.prog 9 (.lit (.string ({ data:=(((73::83::88::88::88::88::88::88::88::84::90::88::88::90::88::88::88::88::88::88::88::88::90::88::88::88::88::88::88::88::88::88::66::70::70::72::73::66::68::71::70::70::68::71::68::66::66::66::65::65::65::66::66::66::66::66::66::66::67::68::75::66::72::70::[]).append (73::66::67::67::67::67::67::67::67::67::67::67::67::67::67::67::67::67::67::67::67::67::67::67::68::67::68::73::79::73::74::66::75::65::66::65::66::65::66::66::66::65::67::67::66::66::66::65::66::67::66::65::65::66::67::67::67::67::67::75::71::74::73::88::[])).append ((80::82::80::80::82::82::82::83::82::83::83::83::83::83::84::83::84::84::82::83::84::83::83::83::83::81::82::83::82::83::83::84::82::81::80::82::82::83::83::81::83::82::82::84::81::82::83::83::81::81::82::81::83::82::83::83::80::82::82::82::83::82::82::83::[]).append ((86::86::80::79::82::83::82::85::86::86::86::87::87::86::84::85::79::81::86::87::87::86::87::84::81::81::86::86::88::87::87::87::[]).append (80::84::80::81::82::81::81::83::82::82::85::85::84::84::86::83::86::87::86::86::87::87::87::87::87::88::87::87::87::87::87::86::90::[])))).toArray }))) (.lit (.int .i64 s))=some (.lit (.int .u8 ((lenT.getD s.toNat 0).toNat:Nat))):=by
 have hd:({ data:=(((73::83::88::88::88::88::88::88::88::84::90::88::88::90::88::88::88::88::88::88::88::88::90::88::88::88::88::88::88::88::88::88::66::70::70::72::73::66::68::71::70::70::68::71::68::66::66::66::65::65::65::66::66::66::66::66::66::66::67::68::75::66::72::70::[]).append (73::66::67::67::67::67::67::67::67::67::67::67::67::67::67::67::67::67::67::67::67::67::67::67::68::67::68::73::79::73::74::66::75::65::66::65::66::65::66::66::66::65::67::67::66::66::66::65::66::67::66::65::65::66::67::67::67::67::67::75::71::74::73::88::[])).append ((80::82::80::80::82::82::82::83::82::83::83::83::83::83::84::83::84::84::82::83::84::83::83::83::83::81::82::83::82::83::83::84::82::81::80::82::82::83::83::81::83::82::82::84::81::82::83::83::81::81::82::81::83::82::83::83::80::82::82::82::83::82::82::83::[]).append ((86::86::80::79::82::83::82::85::86::86::86::87::87::86::84::85::79::81::86::87::87::86::87::84::81::81::86::86::88::87::87::87::[]).append (80::84::80::81::82::81::81::83::82::82::85::85::84::84::86::83::86::87::86::86::87::87::87::87::87::88::87::87::87::87::87::86::90::[])))).toArray }:ByteArray).data=lenT.toArray:=by kernel_rfl
 generalize ({ data:=(((73::83::88::88::88::88::88::88::88::84::90::88::88::90::88::88::88::88::88::88::88::88::90::88::88::88::88::88::88::88::88::88::66::70::70::72::73::66::68::71::70::70::68::71::68::66::66::66::65::65::65::66::66::66::66::66::66::66::67::68::75::66::72::70::[]).append (73::66::67::67::67::67::67::67::67::67::67::67::67::67::67::67::67::67::67::67::67::67::67::67::68::67::68::73::79::73::74::66::75::65::66::65::66::65::66::66::66::65::67::67::66::66::66::65::66::67::66::65::65::66::67::67::67::67::67::75::71::74::73::88::[])).append ((80::82::80::80::82::82::82::83::82::83::83::83::83::83::84::83::84::84::82::83::84::83::83::83::83::81::82::83::82::83::83::84::82::81::80::82::82::83::83::81::83::82::82::84::81::82::83::83::81::81::82::81::83::82::83::83::80::82::82::82::83::82::82::83::[]).append ((86::86::80::79::82::83::82::85::86::86::86::87::87::86::84::85::79::81::86::87::87::86::87::84::81::81::86::86::88::87::87::87::[]).append (80::84::80::81::82::81::81::83::82::82::85::85::84::84::86::83::86::87::86::86::87::87::87::87::87::88::87::87::87::87::87::86::90::[])))).toArray }:ByteArray)=str at hd ⊢
 unfold zbj
 rw[show Tryz.prog.underlying 9=some .string from by rfl]
 dsimp only
 have hs:str.size=lenT.length:=by rw[show str.size=str.data.size from rfl,hd];simp
 have hj:s.toNat<lenT.length:=by rw[zgc];omega
 rw[if_pos ⟨h0,by rw[hs,zgc];omega⟩,hd]
 congr 4
 simp[Array.getD,List.getD,hj]
theorem zmh(s:Int)(h0:0<=s)(h1:s<=256): AEq Tryz.prog 247 [i64 s] [] (i64 (szI s)) []:=by
 have hb:=ziY ⟨s.toNat,by omega⟩
 dsimp only at hb
 have hsz:szI s=((lenT.getD s.toNat 0).toNat:Int)-60:=rfl
 rw[hsz]
 have hix:=zpH h0 h1
 obtain⟨x,hx⟩:∃x,lenT.getD s.toNat 0=x:=⟨_,rfl⟩
 rw[hx]at hb hix ⊢
 simp only[go_sem,seval,↓reduceIte]at hix
 refine enT Tryz.func247 Tryz.ntmps247 ?_
 have hU:=@hix
 repeat'(first|refine goR ?_|refine zd fun K hK=>?_|((refine zo [] (by rw[Tryz.results247,Lf.zI]) (zw ?_) ?_)<;>(try exact uT))|refine hK _ _ ?_;clear hK K)
 all_goals exact yV (by omega)
@[go_sem] def bsA(b:List UInt8): List AV:=[.sl false false (b.map zk)]
@[go_sem] theorem zxS(l:List (List UInt8)): y9 (l.map bsA).flatten=true:=ze (fun a=>by simp[bsA,y9,pur]) l
@[go_sem] theorem zvX{κ:List Nat}{σ:Sto}(l:List (List UInt8)): List.map (fzl κ σ) (l.map bsA)=l.map bsA:=vc (fun _=>rfl) l
end Go.Proofs.YtdalcgfnlbofdaaGreatDoor
