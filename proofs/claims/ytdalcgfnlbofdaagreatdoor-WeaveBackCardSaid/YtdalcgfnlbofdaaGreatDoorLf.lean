/- The layer Lf: abstract values,stores and frames over the kit's weakest preconditions;generic in the program. -/
import Derived.Test.YtdalcgfnlbofdaaGreatDoorLa
import Derived.Orders
set_option linter.unusedVariables false
set_option linter.unusedSimpArgs false
namespace Go.Lf
abbrev i64(n:Int): AV:=.lit (.int .i64 n)
abbrev bl(b:Bool): AV:=.lit (.bool b)
abbrev str(s:ByteArray): AV:=.lit (.string s)
theorem w64{n:Int}(h:-9223372036854775808<=n/\n<=9223372036854775807): IntKind.i64.wrap n=n:=IntWalk.i64_in n h
theorem zzc{n:Int}(h:0<=n/\n<=18446744073709551615): IntKind.u64.wrap n=n:=IntWalk.u64_in n h
theorem wu8{n:Int}(h:0<=n/\n<=255): IntKind.u8.wrap n=n:=IntWalk.u8_in n h
theorem zzT{n:Int}(h:-2147483648<=n/\n<=2147483647): IntKind.i32.wrap n=n:=IntWalk.i32_in n h
theorem zzU{n:Int}(h:0<=n/\n<=4294967295): IntKind.u32.wrap n=n:=IntWalk.u32_in n h
theorem jC{P:Program}{Γ:Env}{σ:Sto}: zb7 P Γ σ (#[]:Array ResultVar).toList=some (.tu []):=by simp[zb7]
theorem zI{P:Program}{Γ:Env}{σ:Sto}{a:Nat}: zb7 P Γ σ (#[.tmp a]:Array ResultVar).toList=some (get Γ a):=by simp[zb7,z3]
theorem ym{P:Program}{Γ:Env}{σ:Sto}{a b:Nat}: zb7 P Γ σ (#[.tmp a,.tmp b]:Array ResultVar).toList=some (.tu [get Γ a,get Γ b]):=by simp[zb7,z3]
theorem zrP{P:Program}{Γ:Env}{σ:Sto}{a b c:Nat}: zb7 P Γ σ (#[.tmp a,.tmp b,.tmp c]:Array ResultVar).toList=some (.tu [get Γ a,get Γ b,get Γ c]):=by simp[zb7,z3]
end Go.Lf
namespace Go.Lf
def jV(k:IntKind)(a b:Int): Int:=k.wrap (BitVec.ofInt k.bits a &&& BitVec.ofInt k.bits b).toNat
def ior(k:IntKind)(a b:Int): Int:=k.wrap (BitVec.ofInt k.bits a ||| BitVec.ofInt k.bits b).toNat
def zzd(k:IntKind)(a b:Int): Int:=k.wrap (BitVec.ofInt k.bits a ^^^ BitVec.ofInt k.bits b).toNat
def jD(k:IntKind)(a b:Int): Int:=k.wrap (BitVec.ofInt k.bits a &&& ~~~ BitVec.ofInt k.bits b).toNat
section rules
variable {P : Program} {Γ : Env} {σ : Sto} {d : Option Nat} {ty t s e : TypeId} {pos : String} {af : Array Edge} {g : Option (Nat × Bool)} {x y c i : Operand} {k : IntKind}
theorem zlE: opv P ⟨d,.move x,ty,pos,af,g⟩ Γ σ=some (ev Γ x):=rfl
theorem zlF: opv P ⟨d,.pick c x y,ty,pos,af,g⟩ Γ σ=zbo (ev Γ c) (ev Γ x) (ev Γ y):=rfl
theorem zo1: opv P ⟨d,.nilCheck x,ty,pos,af,g⟩ Γ σ=if zaP σ (ev Γ x)=true then some (ev Γ x)else none:=rfl
theorem zo2{op:BinOp}: opv P ⟨d,.binOp op t x y s,ty,pos,af,g⟩ Γ σ=y7 P σ op t (ev Γ x) (ev Γ y):=rfl
theorem zr7{op:UnOp}: opv P ⟨d,.unOp op t x,ty,pos,af,g⟩ Γ σ=aun op (ev Γ x):=rfl
theorem zlG: opv P ⟨d,.convert s t x,ty,pos,af,g⟩ Γ σ=zhq P s t (ev Γ x):=rfl
theorem ziw{f:Nat}: opv P ⟨d,.field t x f,ty,pos,af,g⟩ Γ σ=zd2 P t (ev Γ x) f:=rfl
theorem zix: opv P ⟨d,.index t x i,ty,pos,af,g⟩ Γ σ=zbj P t (ev Γ x) (ev Γ i):=rfl
theorem ziy{f:Nat}: opv P ⟨d,.fieldAddr t x f,ty,pos,af,g⟩ Γ σ=if zaP σ (ev Γ x)=true then zd3 P t (ev Γ x) f else none:=rfl
theorem zlH: opv P ⟨d,.load t x,ty,pos,af,g⟩ Γ σ=zeL P σ t (ev Γ x):=rfl
theorem zo3: opv P ⟨d,.call { callee:=.builtin .len,args:=#[x],argTypes:=#[t] },ty,pos,af,g⟩ Γ σ=(zeH P σ t (ev Γ x)).map fun n=>.lit (.int .i64 n):=rfl
theorem zr8{n:Nat}: ev Γ (.tmp n)=get Γ n:=rfl
theorem zr9{n:Int}: ev Γ (.const (.int k n))=.lit (.int k n):=rfl
theorem zo4{b:Bool}: ev Γ (.const (.bool b))=.lit (.bool b):=rfl
theorem ziz{b:ByteArray}: ev Γ (.const (.string b))=.lit (.string b):=rfl
theorem ziA{g:Nat}: ev Γ (.global g)=zeK g:=rfl
theorem zlI: ev Γ (.const (.slice none 0 0))=.sl true false []:=rfl
theorem zlJ{n:Int}: alit (.int k n)=.lit (.int k n):=rfl
theorem ziB{b:Bool}: alit (.bool b)=.lit (.bool b):=rfl
theorem zeV{b:ByteArray}: alit (.string b)=.lit (.string b):=rfl
theorem zlK: alit (.slice none 0 0)=.sl true false []:=rfl
theorem zlL{a:Option Addr}: alit (.pointer a)=.lit (.pointer a):=rfl
theorem zsa{a:Option Addr}: ev Γ (.const (.pointer a))=.lit (.pointer a):=rfl
theorem zsb{cs:Array Value}: ev Γ (.const (.agg cs))=.ag (cs.toList.map alit):=rfl
theorem zlM{r:Env}{n m:Nat}{v:AV}: get ((n,v)::r) m=if m=n then v else get r m:=rfl
variable {a b : Int}
theorem zsc: y7 P σ .add t (.lit (.int k a)) (.lit (.int k b))=some (.lit (.int k (k.wrap (a+b)))):=by simp[y7,zdY]
theorem zsd: y7 P σ .sub t (.lit (.int k a)) (.lit (.int k b))=some (.lit (.int k (k.wrap (a-b)))):=by simp[y7,zdY]
theorem zse: y7 P σ .mul t (.lit (.int k a)) (.lit (.int k b))=some (.lit (.int k (k.wrap (a*b)))):=by simp[y7,zdY]
theorem zsf: y7 P σ .quo t (.lit (.int k a)) (.lit (.int k b))=if b=0 then none else some (.lit (.int k (k.wrap (a.tdiv b)))):=by simp only[y7,zdY,if_true];split<;>rfl
theorem zsg: y7 P σ .rem t (.lit (.int k a)) (.lit (.int k b))=if b=0 then none else some (.lit (.int k (a.tmod b))):=by simp only[y7,zdY,if_true];split<;>rfl
theorem zsh: y7 P σ .and t (.lit (.int k a)) (.lit (.int k b))=some (.lit (.int k (jV k a b))):=by simp[y7,zdY,jV]
theorem zwz: y7 P σ .or t (.lit (.int k a)) (.lit (.int k b))=some (.lit (.int k (ior k a b))):=by simp[y7,zdY,ior]
theorem zsi: y7 P σ .xor t (.lit (.int k a)) (.lit (.int k b))=some (.lit (.int k (zzd k a b))):=by simp[y7,zdY,zzd]
theorem ziC: y7 P σ .andNot t (.lit (.int k a)) (.lit (.int k b))=some (.lit (.int k (jD k a b))):=by simp[y7,zdY,jD]
theorem zsj: y7 P σ .eql t (.lit (.int k a)) (.lit (.int k b))=some (.lit (.bool (a == b))):=by simp[y7,zdY]
theorem zsk: y7 P σ .neq t (.lit (.int k a)) (.lit (.int k b))=some (.lit (.bool (a != b))):=by simp[y7,zdY]
theorem zsl: y7 P σ .lss t (.lit (.int k a)) (.lit (.int k b))=some (.lit (.bool (decide (a<b)))):=by simp[y7,zdY]
theorem zsm: y7 P σ .leq t (.lit (.int k a)) (.lit (.int k b))=some (.lit (.bool (decide (a<=b)))):=by simp[y7,zdY]
theorem zsn: y7 P σ .gtr t (.lit (.int k a)) (.lit (.int k b))=some (.lit (.bool (decide (b<a)))):=by simp[y7,zdY]
theorem zso: y7 P σ .geq t (.lit (.int k a)) (.lit (.int k b))=some (.lit (.bool (decide (b<=a)))):=by simp[y7,zdY]
theorem zsp{k':IntKind}(h:0<=b): y7 P σ .shl t (.lit (.int k a)) (.lit (.int k' b))=some (.lit (.int k (k.wrap (a*2 ^ min b.toNat k.bits)))):=by simp[y7,zd0];omega
theorem zsq{k':IntKind}(h:0<=b): y7 P σ .shr t (.lit (.int k a)) (.lit (.int k' b))=some (.lit (.int k (a.fdiv (2 ^ min b.toNat k.bits)))):=by simp[y7,zd0];omega
theorem zsr{p q:Bool}: y7 P σ .eql t (.lit (.bool p)) (.lit (.bool q))=match P.underlying t with|some .bool=>some (.lit (.bool (p == q)))|_=>none:=by
 unfold y7;generalize P.underlying t=T;cases T
 ·rfl
 ·rename_i u;cases u<;>rfl
theorem zss{p q:Bool}: y7 P σ .neq t (.lit (.bool p)) (.lit (.bool q))=match P.underlying t with|some .bool=>some (.lit (.bool (!(p == q))))|_=>none:=by
 unfold y7;generalize P.underlying t=T;cases T
 ·rfl
 ·rename_i u;cases u<;>rfl
theorem zst{p q:ByteArray}: y7 P σ .eql t (.lit (.string p)) (.lit (.string q))=some (.lit (.bool (p.toList == q.toList))):=by simp[y7,zd1]
theorem zsu{p q:ByteArray}: y7 P σ .neq t (.lit (.string p)) (.lit (.string q))=some (.lit (.bool (!(p.toList == q.toList)))):=by simp[y7,zd1]
theorem zo5: y7 P σ .eql t (.lit (.pointer none)) (.lit (.pointer none))=match P.underlying t with|some (.pointer _)=>some (.lit (.bool true))|_=>none:=by
 unfold y7;generalize P.underlying t=T;cases T
 ·rfl
 ·rename_i u;cases u<;>rfl
theorem zlN: y7 P σ .neq t (.lit (.pointer none)) (.lit (.pointer none))=match P.underlying t with|some (.pointer _)=>some (.lit (.bool false))|_=>none:=by
 unfold y7;generalize P.underlying t=T;cases T
 ·rfl
 ·rename_i u;cases u<;>rfl
theorem zsv{o n:Nat}: y7 P σ .eql t (.ptr o n) (.lit (.pointer none))=match P.underlying t,σ[o]? with|some (.pointer _),some (.box _)=>some (.lit (.bool false))|_,_=>none:=by
 rcases hT:P.underlying t with _|u<;>rcases hO:σ[o]? with _|v<;>(try cases u)<;>(try cases v)<;>simp[y7,hT,hO]
theorem zsw{o n:Nat}: y7 P σ .neq t (.ptr o n) (.lit (.pointer none))=match P.underlying t,σ[o]? with|some (.pointer _),some (.box _)=>some (.lit (.bool true))|_,_=>none:=by
 rcases hT:P.underlying t with _|u<;>rcases hO:σ[o]? with _|v<;>(try cases u)<;>(try cases v)<;>simp[y7,hT,hO]
theorem zsx{p:Bool}: aun .not (.lit (.bool p))=some (.lit (.bool (!p))):=rfl
theorem zsy: aun .neg (.lit (.int k a))=some (.lit (.int k (k.wrap (0-a)))):=rfl
theorem zo6: zhq P s t (.lit (.int k a))=match P.underlying s,P.underlying t with|some _,some (.int k')=>some (.lit (.int k' (k'.wrap a)))|_,_=>none:=by
 unfold zhq;generalize P.underlying s=S;generalize P.underlying t=T;cases S<;>cases T<;>try rfl
 rename_i u v;cases u<;>cases v<;>rfl
theorem pk0{p q r:Bool}: zbo (.lit (.bool p)) (.lit (.bool q)) (.lit (.bool r))=some (.lit (.bool (if p then q else r))):=by cases p<;>rfl
theorem zzV{x y:AV}: zbo (.lit (.bool true)) x y=some (zh7 true x):=rfl
theorem zzW{x y:AV}: zbo (.lit (.bool false)) x y=some (zh7 true y):=rfl
theorem zwA{p q:Bool}: zbo (.lit (.bool p)) (.lit (.bool true)) (.gd (p == false) (.lit (.bool q)))=some (.lit (.bool (p || q))):=by cases p<;>rfl
theorem zsz{p q:Bool}: zbo (.lit (.bool p)) (.gd (p == true) (.lit (.bool q))) (.lit (.bool false))=some (.lit (.bool (p && q))):=by cases p<;>rfl
theorem zsA{p q:Bool}: zbo (.lit (.bool p)) (.lit (.bool true)) (.gd (!p) (.lit (.bool q)))=some (.lit (.bool (p || q))):=by cases p<;>rfl
theorem zo7{p q:Bool}: zbo (.lit (.bool p)) (.gd p (.lit (.bool q))) (.lit (.bool false))=some (.lit (.bool (p && q))):=by cases p<;>rfl
theorem zsB{b:ByteArray}: zeH P σ t (.lit (.string b))=match P.underlying t with|some .string=>some (b.size:Int)|some (.array n _)=>some (n:Int)|_=>none:=by
 unfold zeH;generalize P.underlying t=T;cases T
 ·rfl
 ·rename_i u;cases u<;>rfl
theorem zsC{o:Option Addr}{n m:Nat}: zeH P σ t (.lit (.slice o n m))=match P.underlying t with|some (.slice _)=>some (n:Int)|some (.array n _)=>some (n:Int)|_=>none:=by
 unfold zeH;generalize P.underlying t=T;cases T
 ·rfl
 ·rename_i u;cases u<;>rfl
theorem zwB{o n i m:Nat}: zeH P σ t (.vw o n i m)=match P.underlying t with|some (.slice _)=>(match σ[o]? with|some (.row s' _ _ _)=>if s'=n then some (m:Int)else none|_=>none)|some (.array n _)=>some (n:Int)|_=>none:=by
 unfold zeH;generalize P.underlying t=T;cases T
 ·rfl
 ·rename_i u;cases u<;>rfl
theorem zwC{f q:Bool}{xs:List (List AV)}: zeH P σ t (.sl f q xs)=match P.underlying t with|some (.slice _)=>some (xs.length:Int)|some (.array n _)=>some (n:Int)|_=>none:=by
 unfold zeH;generalize P.underlying t=T;cases T
 ·rfl
 ·rename_i u;cases u<;>rfl
theorem zsD{o n:Nat}: zeH P σ t (.row o n)=match P.underlying t with|some (.slice _)=>(match σ[o]? with|some (.row s' _ _ xs)=>if s'=n then some (xs.length:Int)else none|_=>none)|some (.array n _)=>some (n:Int)|_=>none:=by
 unfold zeH;generalize P.underlying t=T;cases T
 ·rfl
 ·rename_i u;cases u<;>rfl
theorem zwD{xs:List AV}: zeH P σ t (.ag xs)=match P.underlying t with|some (.array n _)=>some (n:Int)|_=>none:=by
 unfold zeH;generalize P.underlying t=T;cases T
 ·rfl
 ·rename_i u;cases u<;>rfl
theorem zhw{o n:Nat}: zaP σ (.ptr o n)=match σ[o]? with|some (.box _)=>true|_=>false:=rfl
theorem ziD{o s' i' n:Nat}: zaP σ (.ep o s' i' n)=match σ[o]? with|some (.row s2 _ _ _)=>s2 == s'|_=>false:=rfl
theorem ziE{q:Bool}{cs:List AV}: zaP σ (.ip q cs)=true:=rfl
theorem ziF{o n:Nat}: zeL P σ t (.ptr o n)=match σ[o]? with|some (.box cs)=>v7 P t n cs|_=>none:=rfl
theorem zlO{q:Bool}{cs:List AV}: zeL P σ t (.ip q cs)=v7 P t 0 cs:=rfl
theorem zlP{o s' i' n:Nat}: zeL P σ t (.ep o s' i' n)=match σ[o]? with|some (.row s2 _ _ xs)=>if s2=s' then(match xs[i']? with|some x=>v7 P t n x|none=>none)else none|_=>none:=rfl
end rules
end Go.Lf
namespace Go.Lf
section
variable {P : Program} {N n : Nat} {o : Oper} {Γ : Env} {σ : Sto} {K : AV -> Sto -> Prop}
theorem zal{S:Type}{c:Code}{Q:Exit->Env->Sto->Prop}(E:S->Env)(T:S->Sto)(R:S->Prop)(μ:S->Nat)(s0:S)(hR:R s0)(h0:Wk N n Γ σ (E s0) (T s0))
    (round:∀s,R s->PWp P N n c (E s) (T s) (yk (fun Γ' σ'=>∃s',R s'/\μ s'<μ s/\Wk N n Γ' σ' (E s') (T s')) Q)):PWp P N n (.loop c) Γ σ Q:=by
  refine zbh h0 ?_
  refine zlt (fun k Γ σ=>∃s,R s/\μ s=k/\Γ=E s/\σ=T s) (μ s0) ⟨s0,hR,rfl,rfl,rfl⟩ ?_
  rintro k Γ1 σ1 ⟨s,hs,rfl,rfl,rfl⟩
  refine zlu ((round s hs).mono ?_)
  intro e Γ2 σ2 q
  cases e with
  | normal=>
    obtain⟨s',h1,h2,h3⟩:=q
    exact⟨E s',T s',h3,μ s',h2,s',h1,rfl,rfl,rfl⟩
  | exit id=>exact⟨Γ2,σ2,zd6 (fun _=>.inr rfl),q⟩
  | goto l=>exact⟨Γ2,σ2,zd6 (fun _=>.inr rfl),q⟩
  | ret=>exact⟨Γ2,σ2,zd6 (fun _=>.inr rfl),q⟩
  | panic ch=>exact⟨Γ2,σ2,zd6 (fun _=>.inr rfl),q⟩
  | outgrown=>exact⟨Γ2,σ2,zd6 (fun _=>.inr rfl),q⟩
theorem zeW{α:Type}{g:α->List AV}{l:List α}{t e:TypeId}{x:Operand}{lo hi:Option Operand}(ho:o.op=.slice t x lo hi none)(ht:P.underlying t=some (.slice e))(he:(P.underlying e).isSome=true)
    {f q:Bool} {L H:Int} (hx:ev Γ x=.sl f q (l.map g)) (hg:∀a,(g a).length=P.cellsOf e)
    (hlo:(lo=none/\L=0)\/∃y k,lo=some y/\ev Γ y=.lit (.int k L)) (hhi:(hi=none/\H=l.length)\/∃y k,hi=some y/\ev Γ y=.lit (.int k H))
    (h0:0<=L) (h1:L<=H) (h2:H<=l.length) (hK:K (.sl false q (((l.take H.toNat).drop L.toNat).map g)) σ):SOp P N o Γ σ K:=by
  have hlen:(l.map g).length=l.length:=by simp
  have key:SOp P N o Γ σ (fun x τ=>x=.sl (f && decide (H=(l.map g).length)) q (((l.map g).take H.toNat).drop L.toNat)/\τ=σ):=by
    refine zit (l:=L) (h:=H) ho ht he hx ?_ hlo (by rw[hlen];exact hhi) h0 h1 (by rw[hlen];exact h2) ⟨rfl,rfl⟩
    cases l with
    | nil=>exact .inl rfl
    | cons a l=>exact .inr ⟨g a,by simp,hg a⟩
  intro ρ w a next Q hf hr hn
  refine key ρ w a next Q hf hr ?_
  rintro x' σ' ρ' w' v ⟨rfl,rfl⟩ h1 h2 h3
  refine hn _ _ _ _ v hK h1 ?_ h3
  rw[<-List.map_take,<-List.map_drop]at h2
  simp only[VR]at h2 ⊢
  obtain⟨a,cap,sz,k1,k2,k3,k4,k5⟩:=h2
  exact⟨a,cap,sz,k1,k2,k3,by simp,k5⟩
theorem zeX{α:Type}{g:α->List AV}{l:List α}{t e:TypeId}{x i:Operand}(ho:o.op=.indexAddr t x i)(ht:P.underlying t=some (.slice e))(he:(P.underlying e).isSome=true)
    {f q:Bool} {k:IntKind} {j:Int} {y:α} (hx:ev Γ x=.sl f q (l.map g)) (hi:ev Γ i=.lit (.int k j)) (h0:0<=j) (hy:l[j.toNat]?=some y) (hg:(g y).length=P.cellsOf e) (hK:K (.ip q (g y)) σ):SOp P N o Γ σ K:=
  zis ho ht he hx hi h0 (by simp[hy]) hg hK
end
def zk(x:UInt8): List AV:=[.lit (.int .u8 x.toNat)]
def yz(x:Int): List AV:=[.lit (.int .i64 x)]
@[go_sem] theorem zlQ(l:List UInt8): (jl l).length=l.length:=by simp[jl]
attribute [go_sem] List.length_map
@[go_sem] theorem zvP(x:UInt8): IntKind.i64.wrap (x.toNat:Int)=x.toNat:=by have:=x.toNat_lt;exact w64 (by omega)
@[go_sem] theorem zsE(x:UInt8): IntKind.u64.wrap (x.toNat:Int)=x.toNat:=by have:=x.toNat_lt;exact zzc (by omega)
@[go_sem] theorem zvQ(x:UInt8): IntKind.u8.wrap (x.toNat:Int)=x.toNat:=by have:=x.toNat_lt;exact wu8 (by omega)
/-! what a result may be taken for -/
def Ale1(x y:AV): Prop:=x=y\/y=.junk\/(∃f q q' xs,x=.sl f q xs/\y=.sl false q' xs/\(q=true->q'=true))
def Alel: List AV->List AV->Prop
 | [],[]=>True
 | x::xs,y::ys=>Ale1 x y/\Alel xs ys
 | _,_=>False
def Ale: AV->AV->Prop
 | .tu xs,.tu ys=>Alel xs ys
 | x,y=>Ale1 x y
theorem Ale1.VR{σ:Sto}{ρ:Rz}{w:World}{x y:AV}{v:Value}(h:Ale1 x y)(hv:Lf.VR σ ρ w x v): Lf.VR σ ρ w y v:=by
 rcases h with rfl|rfl|⟨f,q,q',xs,rfl,rfl,hq⟩
 ·exact hv
 ·simp[Lf.VR]
 ·simp only[Lf.VR]at hv ⊢
  obtain⟨a,cap,sz,k1,k2,k3,k4,k5,k6,k7⟩:=hv
  refine⟨a,cap,sz,k1,k2,k3,by simp,k5,k6,fun hx=>?_⟩
  obtain⟨b,o,h1,h2,h3,h4⟩:=k7 hx
  refine⟨b,o,h1,h2,fun h=>h3 ?_,h4⟩
  cases q'
  ·cases q
   ·exact h
   ·cases hq rfl
  ·exact Own.bset h
theorem Alel.VR{σ:Sto}{ρ:Rz}{w:World}: ∀(xs ys:List AV) (vs:List Value),Alel xs ys->VRl σ ρ w xs vs->VRl σ ρ w ys vs
 | [],[],_,_,h=>h
 | [],_::_,_,h,_=>by simp[Alel]at h
 | _::_,[],_,h,_=>by simp[Alel]at h
 | x::xs,y::ys,[],_,h=>by simp[VRl]at h
 | x::xs,y::ys,v::vs,h,hv=>by
  simp only[Alel]at h
  simp only[VRl]at hv ⊢
  exact⟨h.1.VR hv.1,Alel.VR xs ys vs h.2 hv.2⟩
theorem Ale.VR{σ:Sto}{ρ:Rz}{w:World}{x y:AV}{v:Value}(h:Ale x y)(hv:Lf.VR σ ρ w x v): Lf.VR σ ρ w y v:=by
 by_cases hx:∃xs ys,x=.tu xs/\y=.tu ys
 ·obtain⟨xs,ys,rfl,rfl⟩:=hx
  simp only[Lf.VR]at hv ⊢
  obtain⟨vs,h1,h2⟩:=hv
  exact⟨vs,h1,Alel.VR xs ys vs h h2⟩
 ·refine Ale1.VR (x:=x) ?_ hv
  unfold Ale at h
  split at h
  ·exact absurd ⟨_,_,rfl,rfl⟩ hx
  ·exact h
theorem zsF{n:Nat}{r r' r'':AV}{σ σ':Sto}(h:Fin n r σ r' σ')(hl:Ale r' r''): Fin n r σ r'' σ':=by
 intro ρ w v hn hr hv
 obtain⟨ρ',h1,h2,h3⟩:=h ρ w v hn hr hv
 exact⟨ρ',h1,hl.VR h2,h3⟩
theorem zfX{x:AV}: Ale1 x x:=.inl rfl
theorem zbt{f q q':Bool}{xs:List (List AV)}(h:q=true->q'=true): Ale1 (.sl f q xs) (.sl false q' xs):=.inr (.inr ⟨f,q,q',xs,rfl,rfl,h⟩)
theorem za1{f q:Bool}{xs:List (List AV)}: Ale1 (.sl f q xs) (.sl false q xs):=zbt id
theorem zsG{N n:Nat}{Γ:Env}{σ:Sto}{q:Bool}(d e sz:Nat)(h00:0<sz)(hd:get Γ d=.sl true q []): Wk N n Γ σ ((d,.row σ.length 0)::Γ) (σ++[.row 0 e sz []]):=by
 intro ρ w a hn hf hr
 have hv:=hf.2.2 d
 rw[hd]at hv
 simp only[VR]at hv
 obtain⟨ad,cap,sz',k1,_,_,k4,_⟩:=hv
 obtain rfl:=k4 trivial
 obtain⟨ρ',h1,h2,h3⟩:=kc (w':=w) (e:=e) hr rfl rfl rfl (Nat.le_refl _) (fun _ _=>rfl) h00 ad
 refine⟨ρ',⟨hf.1,⟨hf.2.1.1,hf.2.1.2.carry h3⟩,fun i=>?_⟩,h1,h3.mono hn⟩
 simp only[get]
 split
 ·rename_i hi
  subst hi
  rw[k1];exact h2
 ·exact VR.carry h3 _ _ (hf.2.2 i)
end Go.Lf
namespace Go.Lf
def rst(ops:Array Oper)(o:Oper)(Γ:Env): Env:=(o.looksAt ops).map fun t=>(t,get Γ t)
theorem zo8(S:List Nat)(Γ:Env)(t:Nat): get (S.map fun t=>(t,get Γ t)) t=if t∈S then get Γ t else .junk:=by
 induction S with
 | nil=>simp[get]
 | cons s S ih=>
  simp only[List.map_cons,get,ih,List.mem_cons]
  by_cases h:t=s
  ·subst h;simp
  ·simp[h]
theorem FR.rst{N:Nat}{ops:Array Oper}{o:Oper}{Γ Γ':Env}{σ:Sto}{ρ:Rz}{w:World}{a:Act}(h:FR N Γ' σ ρ w a)(hag:∀t∈o.looksAt ops,get Γ' t=get Γ t): FR N (Lf.rst ops o Γ) σ ρ w a:=by
 refine⟨h.1,h.2.1,fun i=>?_⟩
 unfold Lf.rst
 rw[zo8]
 split
 ·rename_i hi;rw[<-hag i hi];exact h.2.2 i
 ·simp[VR]
def jm(ops:Array Oper): Bool:=
 (List.range ops.size).all fun i => match ops[i]? with
  | none=>true
  | some o=>
   (o.after.all fun e=>!Region.binds .any e || decide (e.on<i)) &&
   (List.range ops.size).all fun j => j == i || match ops[j]? with
    | none=>true
    | some p => match p.dst with
     | none=>true
     | some d=>(o.dst != some d) && (!(o.looksAt ops).contains d || (if j<i then o.after.any (fun e=>Region.binds .any e && e.on == j)else p.after.any (fun e=>Region.binds .any e && e.on == i)))
def dg(P:Program)(N:Nat)(ops:Array Oper): List Oper->Env->Sto->(Env->Sto->Prop)->Prop
 | [],Γ,σ,K=>K Γ σ
 | o::l,Γ,σ,K=>∃x,ro P N ops [o] (rst ops o Γ) σ (fun Γ1 τ=>Γ1=put (rst ops o Γ) o.dst x/\τ=σ)/\dg P N ops l (put Γ o.dst x) σ K
theorem znO{P:Program}{N:Nat}{ops:Array Oper}{Γ:Env}{σ:Sto}{K:Env->Sto->Prop}(h:K Γ σ): dg P N ops [] Γ σ K:=h
theorem vz{P:Program}{N:Nat}{ops:Array Oper}{Γ R:Env}{σ:Sto}{K:Env->Sto->Prop}{d:Nat}{op:Op}{ty:TypeId}{pos:String}{af:Array Edge}{g:Option (Nat×Bool)}{l:List Oper}{x:AV}
    (hR:rst ops ⟨some d,op,ty,pos,af,g⟩ Γ=R:=by exact kE (by simp only[go_sem];rfl) (by simp only[go_sem,seval,↓reduceIte,hU];rfl)) (h:ro P N ops [⟨some d,op,ty,pos,af,g⟩] R σ (fun Γ1 τ=>Γ1=(d,x)::R/\τ=σ)) (hk:dg P N ops l ((d,x)::Γ) σ K):dg P N ops (⟨some d,op,ty,pos,af,g⟩::l) Γ σ K:=by
  subst hR;exact⟨x,h,hk⟩
theorem zze{P:Program}{N:Nat}{ops:Array Oper}{Γ R:Env}{σ:Sto}{K:Env->Sto->Prop}{d:Nat}{op:Op}{ty:TypeId}{pos:String}{af:Array Edge}{l:List Oper}{x:AV}
    (hd:Oper.dstOk N ⟨some d,op,ty,pos,af,none⟩=true) (hR:rst ops ⟨some d,op,ty,pos,af,none⟩ Γ=R:=by exact kE (by simp only[go_sem];rfl) (by simp only[go_sem,seval,↓reduceIte,hU];rfl)) (hv:opv P ⟨some d,op,ty,pos,af,none⟩ R σ=some x:=by(try simp(disch:=omega)only[go_sem,seval,↓reduceIte,hU])<;>rfl) (hk:dg P N ops l ((d,x)::Γ) σ K):dg P N ops (⟨some d,op,ty,pos,af,none⟩::l) Γ σ K:=
  vz hR (zlz hd hv (zl ⟨rfl,rfl⟩)) hk
theorem zzf{P:Program}{N:Nat}{ops:Array Oper}{Γ R:Env}{σ:Sto}{K:Env->Sto->Prop}{d:Nat}{y:Operand}{ty:TypeId}{pos:String}{af:Array Edge}{l:List Oper}{x:AV}
    (hd:Oper.dstOk N ⟨some d,.assign y,ty,pos,af,none⟩=true) (hR:rst ops ⟨some d,.assign y,ty,pos,af,none⟩ Γ=R:=by exact kE (by simp only[go_sem];rfl) (by simp only[go_sem,seval,↓reduceIte,hU];rfl)) (hv:ev R y=x:=by(try simp(disch:=omega)only[go_sem,seval,↓reduceIte,hU])<;>rfl) (hk:dg P N ops l ((d,x)::Γ) σ K):dg P N ops (⟨some d,.assign y,ty,pos,af,none⟩::l) Γ σ K:=
  vz hR (zwx hd hv (zl ⟨rfl,rfl⟩)) hk
theorem zsH{P:Program}{N:Nat}{ops:Array Oper}{Γ R:Env}{σ:Sto}{K:Env->Sto->Prop}{d j:Nat}{want t:Bool}{op:Op}{ty:TypeId}{pos:String}{af:Array Edge}{l:List Oper}
    (hd:Oper.dstOk N ⟨some d,op,ty,pos,af,some (j,want)⟩=true) (hR:rst ops ⟨some d,op,ty,pos,af,some (j,want)⟩ Γ=R:=by exact kE (by simp only[go_sem];rfl) (by simp only[go_sem,seval,↓reduceIte,hU];rfl)) (hg:gdv ops R j=some t:=by simp only[go_sem,seval,↓reduceIte,hU]<;>rfl) (hn:t = !want) (hk:dg P N ops l ((d,.lit undef)::Γ) σ K):dg P N ops (⟨some d,op,ty,pos,af,some (j,want)⟩::l) Γ σ K:=
  vz hR (zwy hd hg hn (zl ⟨rfl,rfl⟩)) hk
theorem zzX{P:Program}{N:Nat}{ops:Array Oper}{Γ R:Env}{σ:Sto}{K:Env->Sto->Prop}{d j:Nat}{want t:Bool}{op:Op}{ty:TypeId}{pos:String}{af:Array Edge}{l:List Oper}{z:AV}
    (hd:Oper.dstOk N ⟨some d,op,ty,pos,af,some (j,want)⟩=true) (hR:rst ops ⟨some d,op,ty,pos,af,some (j,want)⟩ Γ=R) (hg:gdv ops R j=some t) (hv:gB P (t == want) ⟨some d,op,ty,pos,af,some (j,want)⟩ R σ=some z) (hk:dg P N ops l ((d,.gd (t == want) z)::Γ) σ K):dg P N ops (⟨some d,op,ty,pos,af,some (j,want)⟩::l) Γ σ K:=
  vz hR (zzR hd hg hv (zl ⟨rfl,rfl⟩)) hk
theorem yR{σ:Sto}{ρ:Rz}{w:World}{n:Nat}(h:n<=σ.length): Step n σ ρ w σ ρ { w with drawn:=w.drawn+1 }:=
 ⟨rfl,rfl,rfl,Nat.le_refl _,fun _ _ _=>rfl,fun _ h=>.inl h,h,h,fun o ho=>.refl _ _ (by simp;omega),rfl⟩
theorem za2{σ:Sto}{ρ:Rz}{w:World}(hr:Rel σ ρ w): Rel σ ρ { w with drawn:=w.drawn+1 }:=
 ⟨fun o ob h=>(hr.obj o ob h).carry (yR (Nat.le_refl _)) (fun _ _=>rfl),hr.inj,hr.fol,hr.dis⟩
theorem kf{N:Nat}{ops:Array Oper}{Γ:Env}{σ:Sto}{ρ:Rz}{w:World}{a:Act}{j:Nat}{t:Bool}(hgd:gdv ops Γ j=some t)(hf:FR N Γ σ ρ w a): yielded ops a.tmps j=some t:=by
 unfold gdv at hgd
 split at hgd
 ·rename_i d hd
  split at hgd
  ·rename_i t' ht
   simp only[Option.some.injEq]at hgd
   subst hgd
   have hv:=hf.2.2 d
   rw[ht]at hv
   simp only[VR]at hv
   have hv2:a.tmps[d]?=some (.bool t'):=by
    rw[Array.getD_eq_getD_getElem?]at hv
    cases hq:a.tmps[d]? with
    | none=>rw[hq]at hv;simp[undef]at hv
    | some q=>rw[hq]at hv;simpa using hv
   simp only[yielded,hd,Option.bind_some,hv2]
  ·cases hgd
 ·cases hgd
theorem zY{N:Nat}{o:Oper}{Γ' R:Env}{σ:Sto}{ρ:Rz}{w:World}{a:Act}{x x':AV}{v:Value}(hf:FR N Γ' σ ρ w a)(hd:Oper.dstOk N o=true)(he:put R o.dst x'=put R o.dst x)(hv:VR σ ρ w x' v): FR N (put Γ' o.dst x) σ ρ w (a.put o.dst v):=by
 have h:=hf.put _ (zaB hd) _ _ hv
 cases hod:o.dst with
 | none=>rw[hod]at h;exact h
 | some d=>
  rw[hod]at h he
  simp only[put,List.cons.injEq,Prod.mk.injEq,true_and,and_true]at he
  subst he
  exact h
section draw
variable {P : Program} {N : Nat} {ops : Array Oper}
def Agr(ops:Array Oper)(xs:List AV)(Γ0:Env)(L:Nat->Prop)(Γ:Env): Prop:=
 ∀t,(∀j o x,L j->ops[j]?=some o->o.dst=some t->xs[j]?=some x->get Γ t=x)/\((∀j o,L j->ops[j]?=some o->o.dst≠some t)->get Γ t=get Γ0 t)
theorem Agr.put{xs:List AV}{Γ0 Γ:Env}{L:Nat->Prop}{i:Nat}{o:Oper}{x:AV}(h:Agr ops xs Γ0 L Γ)(ho:ops[i]?=some o)(hx:xs[i]?=some x)
    (hd:∀j p d,j≠i->ops[j]?=some p->p.dst=some d->o.dst≠some d):Agr ops xs Γ0 (fun j=>j=i\/L j) (Lf.put Γ o.dst x):=by
  intro t
  refine⟨fun j p y hj hp hpt hy=>?_,fun hn=>?_⟩
  · by_cases hji:j=i
    · subst hji
      rw[ho]at hp
      simp at hp
      subst hp
      rw[hx]at hy
      simp at hy
      subst hy
      rw[hpt]
      simp[Lf.put,get]
    · have hL:=hj.resolve_left hji
      have hne:=hd j p t hji hp hpt
      have:=(h t).1 j p y hL hp hpt hy
      cases hod:o.dst with
      | none=>simpa[Lf.put]using this
      | some d=>
        have:t≠d:=by intro e;apply hne;rw[hod,e]
        simp only[Lf.put,get,if_neg this]
        assumption
  · have h1:=hn i o (.inl rfl) ho
    have:=(h t).2 (fun j p hL hp=>hn j p (.inr hL) hp)
    cases hod:o.dst with
    | none=>simpa[Lf.put]using this
    | some d=>
      have:t≠d:=by intro e;apply h1;rw[hod,e]
      simp only[Lf.put,get,if_neg this]
      assumption
theorem zam(hok:jm ops=true){i:Nat}{o:Oper}(ho:ops[i]?=some o): ∀e∈o.after,Region.binds .any e=true->e.on<i:=by
 unfold jm at hok
 rw[List.all_eq_true]at hok
 have hi:=(Array.getElem?_eq_some_iff.1 ho).1
 have:=hok i (by simpa using hi)
 rw[ho]at this
 simp only[Bool.and_eq_true]at this
 intro e he hb
 have h1:=(Array.all_eq_true'.1 this.1) e he
 simpa[hb]using h1
theorem va(hok:jm ops=true){i j:Nat}{o p:Oper}(ho:ops[i]?=some o)(hp:ops[j]?=some p)(hji:j≠i){d:Nat}(hd:p.dst=some d):
    o.dst≠some d/\(d∈o.looksAt ops->(j<i->∃e∈o.after,Region.binds .any e=true/\e.on=j)/\(¬j<i->∃e∈p.after,Region.binds .any e=true/\e.on=i)):=by
  unfold jm at hok
  rw[List.all_eq_true]at hok
  have hi:=(Array.getElem?_eq_some_iff.1 ho).1
  have hj:=(Array.getElem?_eq_some_iff.1 hp).1
  have:=hok i (by simpa using hi)
  rw[ho]at this
  simp only[Bool.and_eq_true]at this
  have h2:=(List.all_eq_true.1 this.2) j (by simpa using hj)
  rw[hp]at h2
  simp only[hd]at h2
  simp only[Bool.or_eq_true,beq_iff_eq,hji,false_or,Bool.and_eq_true,bne_iff_ne,ne_eq,Bool.not_eq_true']at h2
  refine⟨h2.1,fun hmem=>?_⟩
  have h3:=h2.2.resolve_left (by simp[hmem])
  constructor
  · intro hlt
    rw[if_pos hlt,Array.any_eq_true']at h3
    obtain⟨e,he,h4⟩:=h3
    simp only[Bool.and_eq_true,beq_iff_eq]at h4
    exact⟨e,he,h4.1,h4.2⟩
  · intro hlt
    rw[if_neg hlt,Array.any_eq_true']at h3
    obtain⟨e,he,h4⟩:=h3
    simp only[Bool.and_eq_true,beq_iff_eq]at h4
    exact⟨e,he,h4.1,h4.2⟩
def textEnv(Γ0:Env): List Oper->List AV->Nat->Env
 | _,_,0=>Γ0
 | o::l,x::xs,i+1=>textEnv (put Γ0 o.dst x) l xs i
 | _,_,_+1=>Γ0
theorem zeY{K:Env->Sto->Prop}: ∀(l:List Oper) (Γ:Env) (σ:Sto),dg P N ops l Γ σ K->∃xs:List AV,xs.length=l.length/\K (textEnv Γ l xs l.length) σ /\
    ∀i o x,l[i]?=some o->xs[i]?=some x->ro P N ops [o] (rst ops o (textEnv Γ l xs i)) σ (fun Γ1 τ=>Γ1=put (rst ops o (textEnv Γ l xs i)) o.dst x/\τ=σ)
  | [],Γ,σ,h=>⟨[],rfl,h,by simp⟩
  | o::l,Γ,σ,h=>by
    obtain⟨x,h1,h2⟩:=h
    obtain⟨xs,k1,k2,k3⟩:=zeY l _ σ h2
    refine⟨x::xs,by simp[k1],by simpa[textEnv]using k2,fun i o' x' ho hx=>?_⟩
    cases i with
    | zero=>simp at ho hx;subst ho hx;simpa[textEnv]using h1
    | succ i=>simpa[textEnv]using k3 i o' x' (by simpa using ho) (by simpa using hx)
theorem zfY(hd:∀(i j:Nat) (o p:Oper) (d:Nat),i≠j->ops[i]?=some o->ops[j]?=some p->p.dst=some d->o.dst≠some d)(Γ0:Env)(xs:List AV)(hlen:xs.length=ops.size):
    ∀i,i<=ops.size->Agr ops xs Γ0 (fun j=>j<i) (textEnv Γ0 ops.toList xs i):=by
  have step:∀(l:List Oper) (ys:List AV) (Γ:Env) (i:Nat),i<l.length->ys.length=l.length->∀o x,l[i]?=some o->ys[i]?=some x->textEnv Γ l ys (i+1)=put (textEnv Γ l ys i) o.dst x:=by
    intro l
    induction l with
    | nil=>intro ys Γ i h;simp at h
    | cons p l ih=>
      intro ys Γ i h hl o x ho hx
      cases ys with
      | nil=>simp at hl
      | cons y ys=>
        cases i with
        | zero=>simp at ho hx;subst ho hx;simp[textEnv]
        | succ i=>
          have:=ih ys (put Γ p.dst y) i (by simpa using h) (by simpa using hl) o x (by simpa using ho) (by simpa using hx)
          simpa[textEnv]using this
  intro i
  induction i with
  | zero=>intro _ t;exact⟨fun j o x hj=>absurd hj (by omega),fun _=>by simp[textEnv]⟩
  | succ i ih=>
    intro hi
    have hA:=ih (by omega)
    obtain⟨o,ho⟩:∃o,ops[i]?=some o:=⟨ops[i],Array.getElem?_eq_getElem (by omega)⟩
    obtain⟨x,hx⟩:∃x,xs[i]?=some x:=⟨xs[i],List.getElem?_eq_getElem (by omega)⟩
    have e:=step ops.toList xs Γ0 i (by simp;omega) (by simpa using hlen) o x (by simpa using ho) hx
    rw[e]
    have:=hA.put ho hx (fun j p d hji hp hpd=>hd i j o p d (Ne.symm hji) ho hp hpd)
    intro t
    refine⟨fun j p y hj=>(this t).1 j p y (by omega),fun hn=>(this t).2 (fun j p hj=>hn j p (by omega))⟩
theorem Agr.same{xs:List AV}{Γ0 Γ Γ':Env}{L:Nat->Prop}(hlen:xs.length=ops.size)(h:Agr ops xs Γ0 L Γ)(h':Agr ops xs Γ0 L Γ'): ∀t,get Γ t=get Γ' t:=by
 intro t
 by_cases hex:∃j o,L j/\ops[j]?=some o/\o.dst=some t
 ·obtain⟨j,o,hL,ho,hdt⟩:=hex
  have hj:=(Array.getElem?_eq_some_iff.1 ho).1
  have hx:xs[j]?=some xs[j]:=List.getElem?_eq_getElem (by omega)
  rw[(h t).1 j o _ hL ho hdt hx,(h' t).1 j o _ hL ho hdt hx]
 ·have hn : ∀ j o, L j -> ops[j]? = some o -> o.dst ≠ some t := fun j o hL ho hdt => hex ⟨j, o, hL, ho, hdt⟩
  rw[(h t).2 hn,(h' t).2 hn]
theorem zR{n id:Nat}{l:List Oper}{Γ:Env}{σ:Sto}{Q:Exit->Env->Sto->Prop}{K:Env->Sto->Prop}(hm:P.follows .mixedOrders=true)(hok:jm l.toArray=true)(h:dg P N l.toArray l Γ σ K):
    PWp P N n (.region id l.toArray true) Γ σ (yk K Q):=by
  intro ρ w a hn hf hr
  refine wp_region_any hm ?_
  obtain⟨xs,hlen,hK,hops⟩:=zeY l Γ σ h
  generalize hQ:(fun e a' w'=>∃Γ' σ' ρ',yk K Q e Γ' σ'/\FR N Γ' σ' ρ' w' a'/\Rel σ' ρ' w'/\Step n σ ρ w σ' ρ' w')=Q0
  have hdist:∀(i j:Nat) (o p:Oper) (d:Nat),i≠j->l.toArray[i]?=some o->l.toArray[j]?=some p->p.dst=some d->o.dst≠some d:=fun i j o p d hij ho hp hd=>(va hok ho hp (Ne.symm hij) hd).1
  have hlen':xs.length=l.toArray.size:=by simpa using hlen
  have htext:=zfY hdist Γ xs hlen'
  have main : ∀ (fuel : Nat) (listed : Array Bool) (Γ' : Env) (ρ' : Rz) (a' : Act) (w' : World), listed.size = l.length -> ((List.range l.length).filter (fun i => !listed.getD i true)).length = fuel ->
      (∀i o,listed.getD i false=true->l.toArray[i]?=some o->∀e∈o.after,Region.binds .any e=true->listed.getD e.on false=true) ->
      Agr l.toArray xs Γ (fun j=>listed.getD j false=true) Γ'->FR N Γ' σ ρ' w' a'->Rel σ ρ' w'->Step n σ ρ w σ ρ' w'->wpAny P .any l.toArray Q0 fuel listed a' w':=by
    intro fuel
    induction fuel with
    | zero=>
      intro listed Γ' ρ' a' w' hsz hcnt hcl hag hf' hr' st
      have hall:∀i,i<l.length->listed.getD i true=true:=by
        intro i hi
        have:(List.range l.length).filter (fun i=>!listed.getD i true)=[]:=List.eq_nil_of_length_eq_zero hcnt
        rw[List.filter_eq_nil_iff]at this
        simpa using this i (by simpa using hi)
      refine⟨?_,?_⟩
      · unfold Region.ready
        rw[List.filter_eq_nil_iff]
        intro i hi
        simp[hall i (by simpa using hi)]
      · rw[<-hQ]
        have hT:=htext l.length (by simp)
        have hag':Agr l.toArray xs Γ (fun j=>j<l.length) Γ':=by
          intro t
          refine⟨fun j o x hj=>(hag t).1 j o x (by have:=hall j hj;simpa[Array.getD,hsz,hj]using this),fun hn=>(hag t).2 (fun j o hj ho=>hn j o (by have:=(Array.getElem?_eq_some_iff.1 ho).1;simpa using this) ho)⟩
        have hsame:=Agr.same hlen' hag' hT
        refine⟨textEnv Γ l xs l.length,σ,ρ',hK,⟨hf'.1,hf'.2.1,fun i=>?_⟩,hr',st⟩
        have:=hsame i
        rw[<-this];exact hf'.2.2 i
    | succ fuel ih=>
      intro listed Γ' ρ' a' w' hsz hcnt hcl hag hf' hr' st
      refine⟨fun hnil=>?_,fun i hi=>?_⟩
      · exfalso
        -- the least that is not listed is ready
        have hex:∃i,i<l.length/\listed.getD i true=false:=by
          have hne:(List.range l.length).filter (fun i=>!listed.getD i true)≠[]:=by intro e;rw[e]at hcnt;simp at hcnt
          obtain⟨i,hi⟩:=List.exists_mem_of_ne_nil _ hne
          rw[List.mem_filter]at hi
          exact⟨i,by simpa using hi.1,by simpa using hi.2⟩
        obtain⟨i,⟨hi1,hi2⟩,hmin⟩:=exists_least hex
        obtain⟨o,ho⟩:∃o,l.toArray[i]?=some o:=⟨l[i],by simp[hi1]⟩
        have hmem:i∈Region.ready .any l.toArray listed:=by
          unfold Region.ready
          rw[List.mem_filter]
          refine⟨by simpa using hi1,?_⟩
          rw[ho]
          simp only[Option.map_some,Option.getD_some,Bool.and_eq_true,Bool.not_eq_true',hi2,true_and]
          rw[Array.all_eq_true']
          intro e he
          cases hb:Region.binds .any e with
          | false=>rfl
          | true=>
            have hlt:=zam hok ho e he hb
            have:listed.getD e.on false=true:=by
              cases hge:listed.getD e.on true with
              | true => have hlt' : e.on < listed.size := by omega
                        simpa[Array.getD,hlt']using hge
              | false=>have:=hmin e.on ⟨by omega,hge⟩;omega
            simpa using this
        rw[hnil]at hmem
        simp at hmem
      · unfold Region.ready at hi
        rw[List.mem_filter]at hi
        obtain⟨hi1,hi2⟩:=hi
        have hil:i<l.length:=by simpa using hi1
        obtain⟨o,ho⟩:∃o,l.toArray[i]?=some o:=⟨l[i],by simp[hil]⟩
        obtain⟨x,hx⟩:∃x,xs[i]?=some x:=⟨xs[i],List.getElem?_eq_getElem (by omega)⟩
        rw[ho]at hi2
        simp only[Option.map_some,Option.getD_some,Bool.and_eq_true,Bool.not_eq_true']at hi2
        obtain⟨hi2,hi3⟩:=hi2
        rw[Array.all_eq_true']at hi3
        have hpre:∀e∈o.after,Region.binds .any e=true->listed.getD e.on false=true:=by
          intro e he hb
          have:=hi3 e he
          simpa[hb]using this
        have hli:listed.getD i false=false:=by
          have hlt':i<listed.size:=by omega
          simpa[Array.getD,hlt']using hi2
        -- what the operation sees is what it sees in the text's order
        have hsee:∀t∈o.looksAt l.toArray,get Γ' t=get (textEnv Γ l xs i) t:=by
          intro t ht
          have hT:=htext i (by simp;omega)
          by_cases hex:∃j p,j≠i/\l.toArray[j]?=some p/\p.dst=some t
          · obtain⟨j,p,hji,hp,hpd⟩:=hex
            obtain⟨_,hpair⟩:=va hok ho hp hji hpd
            obtain⟨hlt,hge⟩:=hpair ht
            have hj:=(Array.getElem?_eq_some_iff.1 hp).1
            have hxj:xs[j]?=some xs[j]:=List.getElem?_eq_getElem (by omega)
            by_cases hji':j<i
            · obtain⟨e,he,hb,heon⟩:=hlt hji'
              have hlj:=hpre e he hb
              rw[heon]at hlj
              rw[(hag t).1 j p _ hlj hp hpd hxj,(hT t).1 j p _ hji' hp hpd hxj]
            · obtain⟨e,he,hb,heon⟩:=hge hji'
              have huniq:∀k q,l.toArray[k]?=some q->q.dst=some t->k=j:=by
                intro k q hq hqd
                by_cases hkj:k=j
                · exact hkj
                · exact absurd hqd (hdist k j q p t hkj hq hp hpd)
              have hnj:¬listed.getD j false=true:=by
                intro hlj
                have:=hcl j p hlj hp e he hb
                rw[heon,hli]at this
                cases this
              rw[(hag t).2 (fun k q hL hq hqd=>hnj (by rw[<-huniq k q hq hqd];exact hL)),(hT t).2 (fun k q hk hq hqd=>by have:=huniq k q hq hqd;omega)]
          · have hn : ∀ k q, k ≠ i -> l.toArray[k]? = some q -> q.dst ≠ some t := fun k q hk hq hqd => hex ⟨k, q, hk, hq, hqd⟩
            rw[(hag t).2 (fun k q hL hq hqd=>hn k q (by intro e;have hL':listed.getD k false=true:=hL;rw[e,hli]at hL';cases hL') hq hqd),(hT t).2 (fun k q hk hq hqd=>hn k q (by omega) hq hqd)]
        have hop:=hops i o x (by simpa using ho) hx
        have hcnt':((List.range l.length).filter (fun k=>!(listed.setIfInBounds i true).getD k true)).length=fuel:=by
          have hperm:((List.range l.length).filter (fun k=>!listed.getD k true)).length=((List.range l.length).filter (fun k=>!(listed.setIfInBounds i true).getD k true)).length+1:=by
            have hsplit:∀(r:List Nat),r.Nodup->i∈r->(r.filter (fun k=>!listed.getD k true)).length=(r.filter (fun k=>!(listed.setIfInBounds i true).getD k true)).length+1:=by
              intro r
              induction r with
              | nil=>intro _ h;simp at h
              | cons k r ihr=>
                intro hnd hmem
                rw[List.nodup_cons]at hnd
                by_cases hki:k=i
                · subst hki
                  have hsame:r.filter (fun q=>!(listed.setIfInBounds k true).getD q true)=r.filter (fun q=>!listed.getD q true):=by
                    apply List.filter_congr
                    intro q hq
                    have hqk:q≠k:=fun e=>hnd.1 (e ▸ hq)
                    simp only[Array.getD_eq_getD_getElem?,Array.getElem?_setIfInBounds_ne (Ne.symm hqk)]
                  have h1:(listed.setIfInBounds k true).getD k true=true:=by simp[Array.getD_eq_getD_getElem?,Array.getElem?_setIfInBounds];split<;>simp_all
                  simp only[List.filter_cons,hi2,h1,Bool.not_false,if_true,Bool.not_true,List.length_cons,hsame]
                  simp
                · have hmem' : i ∈ r := by simpa [Ne.symm hki] using hmem
                  have hk:(listed.setIfInBounds i true).getD k true=listed.getD k true:=by
                    simp only[Array.getD_eq_getD_getElem?,Array.getElem?_setIfInBounds_ne (Ne.symm hki)]
                  have:=ihr hnd.2 hmem'
                  simp only[List.filter_cons,hk]
                  split<;>simp_all
            exact hsplit _ List.nodup_range (by simpa using hil)
          omega
        have key:∀(ρ2:Rz) (w2:World) (v:Value),FR N (put Γ' o.dst x) σ ρ2 w2 (a'.put o.dst v)->Rel σ ρ2 w2->Step n σ ρ w σ ρ2 w2->wpAny P .any l.toArray Q0 fuel (listed.setIfInBounds i true) (a'.put o.dst v) w2:=by
          intro ρ2 w2 v hf2 hr2 st2
          refine ih _ (put Γ' o.dst x) ρ2 _ w2 (by simpa using hsz) hcnt' ?_ ?_ hf2 hr2 st2
          · intro k q hk hq e he hb
            have hmono:∀m,listed.getD m false=true->(listed.setIfInBounds i true).getD m false=true:=by
              intro m hm
              by_cases hmi:m=i
              · have hi0 : i < listed.size := by omega
                simp[hmi,Array.getD_eq_getD_getElem?,hi0]
              · simpa[Array.getD_eq_getD_getElem?,Array.getElem?_setIfInBounds_ne (Ne.symm hmi)]using hm
            by_cases hki:k=i
            · subst hki
              rw[ho]at hq
              simp at hq
              subst hq
              exact hmono _ (hpre e he hb)
            · refine hmono _ (hcl k q ?_ hq e he hb)
              simpa[Array.getD_eq_getD_getElem?,Array.getElem?_setIfInBounds_ne (Ne.symm hki)]using hk
          · have := hag.put ho hx (fun j p d hji hp hpd => hdist i j o p d (Ne.symm hji) ho hp hpd)
            intro t
            have hL:∀j,(listed.setIfInBounds i true).getD j false=true↔(j=i\/listed.getD j false=true):=by
              intro j
              by_cases hji:j=i
              · have hi0 : i < listed.size := by omega
                simp[hji,Array.getD_eq_getD_getElem?,hi0]
              · simp[Array.getD_eq_getD_getElem?,Array.getElem?_setIfInBounds_ne (Ne.symm hji),hji]
            exact⟨fun j p y hj=>(this t).1 j p y ((hL j).1 hj),fun hn=>(this t).2 (fun j p hj=>hn j p ((hL j).2 hj))⟩
        have hfr:=hf'.rst (ops:=l.toArray) (o:=o) hsee
        unfold wpOp
        rw[ho]
        simp only
        generalize hR:rst l.toArray o (textEnv Γ l xs i)=R at hop hfr
        have run:Oper.dstOk N o=true->SOp P N o R σ (fun x' σ'=>put R o.dst x'=put R o.dst x/\σ'=σ)->o.wp P a' w' (wpAny P .any l.toArray Q0 fuel (listed.setIfInBounds i true)) Q0:=by
          intro hd hop
          refine hop ρ' w' a' _ Q0 hfr hr' ?_
          intro x' σ' ρ2 w2 v hK hr2 hv st2
          obtain⟨he,hs⟩:=hK
          subst hs
          exact key ρ2 w2 v (zY (hf'.carry st2) hd he hv) hr2 (st.trans (st2.mono st.len'))
        unfold ro rgn at hop
        cases hg:o.guard with
        | none=>
          rw[hg]at hop
          simp only[rgn]at hop
          rw[if_pos (by simp[Region.wanted,hg])]
          exact .inl (run hop.1 hop.2)
        | some jw=>
          obtain⟨j,want⟩:=jw
          rw[hg]at hop
          simp only[rgn]at hop
          cases hgd:gdv l.toArray R j with
          | none=>
            rw[hgd]at hop
            obtain⟨h1,hdo,h⟩:=hop
            have hy:=vI h1 hfr
            rw[if_neg (by simp[Region.wanted,hg,hy])]
            exact key _ _ _ (zY hf' hdo h.1 (by simp[VR])) hr' st
          | some t=>
            rw[hgd]at hop
            simp only at hop
            obtain⟨hdo,h⟩:=hop
            have hy:=kf hgd hfr
            rcases h with⟨x',hx',h⟩|h
            · obtain⟨hsc,hgv⟩:=kB P N _ _ _ _ _ hx' ρ' w' a' hfr hr'
              by_cases htw:t=want
              · rw [if_pos (by simp [Region.wanted, hg, hy, htw])]
                refine .inl ?_
                obtain⟨v,h1,h2⟩:=hgv (by simp[htw])
                unfold Oper.wp
                rw[h1,Oper.upon_value]
                exact key _ _ _ (zY hf' hdo h.1 (by simp only[VR];exact⟨hsc,fun _=>h2,fun e=>by simp[htw]at e⟩)) hr' st
              · rw [if_neg (by simp [Region.wanted, hg, hy, htw])]
                exact key _ _ _ (zY hf' hdo h.1 (by simp only[VR];exact⟨hsc,fun e=>absurd e (by simp[htw]),fun _=>trivial⟩)) hr' st
            · by_cases htw:t=want
              · rw [if_pos (by simp [Region.wanted, hg, hy, htw])]
                exact .inl (run hdo (h.1 htw))
              · rw [if_neg (by simp [Region.wanted, hg, hy, htw])]
                exact key _ _ _ (zY hf' hdo (h.2 htw).1 (by simp[VR])) hr' st
  refine main l.length (Array.replicate l.length false) Γ ρ a _ (by simp) ?_ ?_ ?_ ?_ (za2 hr) (yR hn)
  · have:(List.range l.length).filter (fun i=>!(Array.replicate l.length false).getD i true)=List.range l.length:=by
      rw[List.filter_eq_self]
      intro i hi
      have:i<l.length:=by simpa using hi
      simp[Array.getD,this]
    rw[this];simp
  · intro i o hi;simp[Array.getD]at hi
  · intro t;exact⟨fun j o x hj=>by simp[Array.getD]at hj,fun _=>rfl⟩
  · exact hf.carry (yR (Nat.le_refl _))
end draw
end Go.Lf
namespace Go.Lf
/-! a contract over few objects,used where there are more -/
mutual
def rn(f:Nat->Nat): AV->AV
 | .row o s=>.row (f o) s
 | .vw o s i n=>.vw (f o) s i n
 | .ptr o k=>.ptr (f o) k
 | .ep o s i k=>.ep (f o) s i k
 | .ag xs=>.ag (rnl f xs)
 | .tu xs=>.tu (rnl f xs)
 | .fn k xs=>.fn k (rnl f xs)
 | .mref o=>.mref (f o)
 | .gd g x=>.gd g (rn f x)
 | x=>x
def rnl(f:Nat->Nat): List AV->List AV
 | []=>[]
 | x::xs=>rn f x::rnl f xs
end
def rnP(f:Nat->Nat): Ob->Ob
 | .box cs=>.box (rnl f cs)
 | ob=>ob
/-! Nothing in it is borrowed. -/
mutual
def nb: AV->Bool
 | .sl _ q _=>!q
 | .ip q _=>!q
 | .ag xs=>nbl xs
 | .tu xs=>nbl xs
 | .fn _ xs=>nbl xs
 | .gd _ x=>nb x
 | _=>true
def nbl: List AV->Bool
 | []=>true
 | x::xs=>nb x && nbl xs
end
def okI(n:Nat): Ob->Bool
 | .gone=>true
 | .mp _=>true
 | .box cs=>zad n cs
 | .row _ _ _ xs=>y9 xs.flatten
def okP: Ob->Bool
 | .gone=>true
 | .mp _=>true
 | .box cs=>nbl cs
 | .row _ _ _ xs=>y9 xs.flatten
def ix(π:List Nat)(m j:Nat): Nat:=match π[j]? with|some k=>k|none=>m+(j-π.length)
theorem ziG(f:Nat->Nat): ∀xs,(rnl f xs).length=xs.length
 | []=>rfl
 | x::xs=>by simp[rnl,ziG f xs]
mutual
theorem zsI(f:Nat->Nat): ∀x,pur x=true->rn f x=x
 | .junk,_=>rfl
 | .lit _,_=>rfl
 | .sl _ _ _,_=>rfl
 | .ip _ _,_=>rfl
 | .row _ _,h=>by simp[pur]at h
 | .vw _ _ _ _,h=>by simp[pur]at h
 | .ptr _ _,h=>by simp[pur]at h
 | .ep _ _ _ _,h=>by simp[pur]at h
 | .gd _ _,h=>by simp[pur]at h
 | .ag xs,h=>by simp only[pur]at h;simp only[rn,zbu f xs h]
 | .fn _ _,h=>by simp[pur]at h
 | .mref _,h=>by simp[pur]at h
 | .tu xs,h=>by simp only[pur]at h;simp only[rn,zbu f xs h]
theorem zbu(f:Nat->Nat): ∀xs,y9 xs=true->rnl f xs=xs
 | [],_=>rfl
 | x::xs,h=>by simp only[y9,Bool.and_eq_true]at h;simp only[rnl,zsI f x h.1,zbu f xs h.2]
end
mutual
theorem zo9(n:Nat): ∀x,pur x=true->scp n x=true
 | .junk,_=>rfl
 | .lit _,_=>rfl
 | .sl _ _ _,_=>rfl
 | .ip _ _,_=>rfl
 | .row _ _,h=>by simp[pur]at h
 | .vw _ _ _ _,h=>by simp[pur]at h
 | .ptr _ _,h=>by simp[pur]at h
 | .ep _ _ _ _,h=>by simp[pur]at h
 | .gd _ _,h=>by simp[pur]at h
 | .ag xs,h=>by simp only[pur]at h;simp only[scp];exact za3 n xs h
 | .fn _ _,h=>by simp[pur]at h
 | .mref _,h=>by simp[pur]at h
 | .tu xs,h=>by simp only[pur]at h;simp only[scp];exact za3 n xs h
theorem za3(n:Nat): ∀xs,y9 xs=true->zad n xs=true
 | [],_=>rfl
 | x::xs,h=>by simp only[y9,Bool.and_eq_true]at h;simp only[zad,zo9 n x h.1,za3 n xs h.2,Bool.and_self]
end
mutual
theorem zsJ: ∀x,pur x=true->nb x=true
 | .junk,_=>rfl
 | .lit _,_=>rfl
 | .sl _ q _,h=>by simpa[pur,nb]using h
 | .ip q _,h=>by simpa[pur,nb]using h
 | .row _ _,h=>by simp[pur]at h
 | .vw _ _ _ _,h=>by simp[pur]at h
 | .ptr _ _,h=>by simp[pur]at h
 | .ep _ _ _ _,h=>by simp[pur]at h
 | .gd _ _,h=>by simp[pur]at h
 | .ag xs,h=>by simp only[pur]at h;simp only[nb];exact zcY xs h
 | .fn _ _,h=>by simp[pur]at h
 | .mref _,h=>by simp[pur]at h
 | .tu xs,h=>by simp only[pur]at h;simp only[nb];exact zcY xs h
theorem zcY: ∀xs,y9 xs=true->nbl xs=true
 | [],_=>rfl
 | x::xs,h=>by simp only[y9,Bool.and_eq_true]at h;simp only[nbl,zsJ x h.1,zcY xs h.2,Bool.and_self]
end
mutual
theorem ziH{f:Nat->Nat}{n m:Nat}(hf:∀i,i<n->f i<m): ∀x,scp n x=true->scp m (rn f x)=true
 | .junk,_=>rfl
 | .lit _,_=>rfl
 | .sl _ _ _,_=>rfl
 | .ip _ _,_=>rfl
 | .row o _,h=>by simp[scp]at h;simp[rn,scp,hf o h]
 | .vw o _ _ _,h=>by simp[scp]at h;simp[rn,scp,hf o h]
 | .ptr o _,h=>by simp[scp]at h;simp[rn,scp,hf o h]
 | .ep o _ _ _,h=>by simp[scp]at h;simp[rn,scp,hf o h]
 | .gd _ x,h=>by simp only[scp]at h;simp only[rn,scp];exact ziH hf x h
 | .ag xs,h=>by simp only[scp]at h;simp only[rn,scp];exact zcZ hf xs h
 | .tu xs,h=>by simp only[scp]at h;simp only[rn,scp];exact zcZ hf xs h
 | .fn _ xs,h=>by simp only[scp]at h;simp only[rn,scp];exact zcZ hf xs h
 | .mref o,h=>by simp[scp]at h;simp[rn,scp,hf o h]
theorem zcZ{f:Nat->Nat}{n m:Nat}(hf:∀i,i<n->f i<m): ∀xs,zad n xs=true->zad m (rnl f xs)=true
 | [],_=>rfl
 | x::xs,h=>by simp only[zad,Bool.and_eq_true]at h;simp only[rnl,zad,ziH hf x h.1,zcZ hf xs h.2,Bool.and_self]
end
theorem vL: ∀(κ:List Nat) (o j:Nat),κ.Nodup->κ[j]?=some o->ka κ o=some j
 | [],_,_,_,h=>by simp at h
 | k::κ,o,j,hn,h=>by
  simp only[ka]
  cases j with
  | zero=>simp at h;subst h;simp
  | succ j=>
   have h':κ[j]?=some o:=by simpa using h
   have hm:=List.mem_of_getElem? h'
   have hne:o≠k:=by intro e;subst e;exact(List.nodup_cons.1 hn).1 hm
   rw[if_neg hne,vL κ o j (List.nodup_cons.1 hn).2 h']
   rfl
structure SubOk(π:List Nat)(τ σ:Sto): Prop where
 len:π.length=τ.length
 nd:π.Nodup
 here:∀(j k:Nat) (ob:Ob),π[j]?=some k->τ[j]?=some ob->σ[k]?=some (rnP (ix π σ.length) ob)/\okI τ.length ob=true
section sub
variable {π : List Nat} {τ σ : Sto} {ρ : Rz} {w : World}
def zvR(π:List Nat)(σ:Sto)(ρ:Rz)(b:Nat): Prop:=∃k ob,ka π k=none/\σ[k]?=some ob/\ob.live=true/\blk (ρ k)=some b
def zee(π:List Nat)(σ:Sto)(ρ:Rz): Rz:=⟨fun j=>ρ (π.getD j 0),fun b=>ρ.fo b\/zvR π σ ρ b⟩
theorem vn{j k:Nat}(h:π[j]?=some k): zee π σ ρ j=ρ k:=by simp[zee,List.getD_eq_getElem?_getD,h]
theorem zaE{m j k:Nat}(h:π[j]?=some k): ix π m j=k:=by simp[ix,h]
theorem kg(f:Nat->Nat)(ob:Ob): (rnP f ob).live=ob.live:=by cases ob<;>rfl
theorem SubOk.get(hs:SubOk π τ σ){j:Nat}{ob:Ob}(h:τ[j]?=some ob): ∃k,π[j]?=some k/\σ[k]?=some (rnP (ix π σ.length) ob)/\okI τ.length ob=true:=by
 have hlt:=(List.getElem?_eq_some_iff.1 h).1
 have hk:π[j]?=some (π[j]'(by rw[hs.len];exact hlt)):=List.getElem?_eq_getElem _
 obtain⟨h1,h2⟩:=hs.here _ _ _ hk h
 exact⟨_,hk,h1,h2⟩
theorem zeZ(hs:SubOk π τ σ): ∀b,Own τ (zee π σ ρ) b->∃(j k:Nat) (ob:Ob),π[j]?=some k/\σ[k]?=some ob/\ob.live=true/\blk (ρ k)=some b:=by
 rintro b ⟨j,ob,h1,h2,h3⟩
 obtain⟨k,h4,h5,_⟩:=hs.get h1
 rw[vn h4]at h3
 exact⟨j,k,_,h4,h5,by rw[kg];exact h2,h3⟩
theorem za4(hs:SubOk π τ σ): ∀b,Own τ (zee π σ ρ) b->Own σ ρ b:=fun b h=>by
 obtain⟨j,k,ob,_,h2,h3,h4⟩:=zeZ hs b h
 exact⟨k,ob,h2,h3,h4⟩
theorem zc0: ∀b,zvR π σ ρ b->Own σ ρ b:=fun b ⟨k,ob,_,h2,h3,h4⟩=>⟨k,ob,h2,h3,h4⟩
theorem kW(hs:SubOk π τ σ): ∀b,jN τ (zee π σ ρ) b->jN σ ρ b:=by
 rintro b (h|h|h)
 ·exact .inl (za4 hs b h)
 ·exact .inr h
 ·exact .inl (zc0 b h)
theorem zc1(hs:SubOk π τ σ){q:Bool}: ∀b,Bset q τ (zee π σ ρ) b->Bset q σ ρ b:=by
 cases q
 ·exact kW hs
 ·exact za4 hs
mutual
theorem zfZ(hs:SubOk π τ σ): ∀(x:AV) (v:Value),scp τ.length x=true->VR σ ρ w (rn (ix π σ.length) x) v->VR τ (zee π σ ρ) w x v
 | .junk,_,_,_=>by simp[VR]
 | .lit _,_,_,h=>by simpa[VR,rn]using h
 | .sl f q xs,v,_,h=>by
  simp only[VR,rn]at h ⊢
  obtain⟨a,cap,sz,h1,h2,h3,h4,h5,h6,h7⟩:=h
  refine⟨a,cap,sz,h1,h2,h3,h4,h5,h6,fun hx=>?_⟩
  obtain⟨b,o,ha,hbs,hb,hp⟩:=h7 hx
  exact⟨b,o,ha,hbs,fun h=>hb (zc1 hs b h),PVss.carry (Nat.le_refl _) (fun _ _ _=>rfl) (fun b hb=>.inl (kW hs b hb)) xs b o rfl hp⟩
 | .ip q xs,v,_,h=>by
  simp only[VR,rn]at h ⊢
  obtain⟨b,o,ha,hbs,hb,hp⟩:=h
  exact⟨b,o,ha,hbs,fun h=>hb (zc1 hs b h),PVs.carry (Nat.le_refl _) (fun _ _ _=>rfl) (fun b hb=>.inl (kW hs b hb)) xs b o rfl hp⟩
 | .row o s,v,hsc,h=>by
  simp only[VR,rn]at h ⊢
  simp[scp]at hsc
  refine⟨hsc,fun s' e sz xs ht=>?_⟩
  obtain⟨k,h1,h2,_⟩:=hs.get ht
  rw[zaE h1]at h
  rw[vn h1]
  exact h.2 _ _ _ _ h2
 | .vw o s i n,v,hsc,h=>by
  simp only[VR,rn]at h ⊢
  simp[scp]at hsc
  refine⟨hsc,fun s' e sz xs ht=>?_⟩
  obtain⟨k,h1,h2,_⟩:=hs.get ht
  rw[zaE h1]at h
  rw[vn h1]
  exact h.2 _ _ _ _ h2
 | .ptr o k,v,hsc,h=>by
  simp only[VR,rn]at h ⊢
  simp[scp]at hsc
  refine⟨hsc,fun cs ht=>?_⟩
  obtain⟨k,h1,h2,_⟩:=hs.get ht
  rw[zaE h1]at h
  rw[vn h1]
  exact h.2 _ h2
 | .ep o s i k,v,hsc,h=>by
  simp only[VR,rn]at h ⊢
  simp[scp]at hsc
  refine⟨hsc,fun s' e sz xs ht=>?_⟩
  obtain⟨k,h1,h2,_⟩:=hs.get ht
  rw[zaE h1]at h
  rw[vn h1]
  exact h.2 _ _ _ _ h2
 | .ag xs,v,hsc,h=>by
  simp only[VR,rn,scp]at h hsc ⊢
  obtain⟨vs,h1,h2⟩:=h
  exact⟨vs,h1,zan hs xs vs hsc h2⟩
 | .mref o,v,hsc,h=>by
  simp only[VR,rn]at h ⊢
  simp[scp]at hsc
  refine⟨hsc,fun I ht=>?_⟩
  obtain⟨k,h1,h2,_⟩:=hs.get ht
  rw[zaE h1]at h
  rw[vn h1]
  exact h.2 _ h2
 | .fn _ xs,v,hsc,h=>by
  simp only[VR,rn,scp]at h hsc ⊢
  obtain⟨vs,h1,h2⟩:=h
  exact⟨vs,h1,zan hs xs vs hsc h2⟩
 | .tu xs,v,hsc,h=>by
  simp only[VR,rn,scp]at h hsc ⊢
  obtain⟨vs,h1,h2⟩:=h
  exact⟨vs,h1,zan hs xs vs hsc h2⟩
 | .gd g x,v,hsc,h=>by
  simp only[VR,rn,scp]at h hsc ⊢
  exact⟨hsc,fun hg=>zfZ hs x v hsc (h.2.1 hg),h.2.2⟩
theorem zan(hs:SubOk π τ σ): ∀(xs:List AV) (vs:List Value),zad τ.length xs=true->VRl σ ρ w (rnl (ix π σ.length) xs) vs->VRl τ (zee π σ ρ) w xs vs
 | [],[],_,_=>by simp[VRl]
 | [],_::_,_,h=>by simp[VRl,rnl]at h
 | _::_,[],_,h=>by simp[VRl,rnl]at h
 | x::xs,v::vs,hsc,h=>by
  simp only[VRl,rnl,zad,Bool.and_eq_true]at h hsc ⊢
  exact⟨zfZ hs x v hsc.1 h.1,zan hs xs vs hsc.2 h.2⟩
end
theorem zpa(hs:SubOk π τ σ)(hr:Rel σ ρ w): Rel τ (zee π σ ρ) w:=by
 refine⟨fun j ob h=>?_,fun j j' ob ob' b h h' l1 l2 e e'=>?_,fun b h=>?_,fun b h h'=>?_⟩
 ·obtain⟨k,h1,h2,h3⟩:=hs.get h
  rw[vn h1]
  have hO:=hr.obj _ _ h2
  cases ob with
  | gone=>trivial
  | mp I=>exact hO
  | box cs=>
   obtain⟨b,ty,vs,k1,k2,k3,k4⟩:=hO
   exact⟨b,ty,vs,k1,k2,k3,zan hs _ _ h3 k4⟩
  | row s e sz xs=>
   obtain⟨h0,h00,hO⟩:=hO
   refine⟨h0,h00,?_⟩
   rcases hO with hO|⟨b,cap,vs,sp,k1,k2,k3,k4,k5,k6,k7⟩
   ·exact .inl hO
   ·refine .inr ⟨b,cap,vs,sp,k1,k2,k3,k4,k5,k6,zan hs _ _ (za3 _ _ h3) ?_⟩
    rw[zbu _ _ h3];exact k7
 ·obtain⟨k,h1,h2,h3⟩:=hs.get h
  obtain⟨k',h1',h2',h3'⟩:=hs.get h'
  rw[vn h1]at e
  rw[vn h1']at e'
  have:=hr.inj _ _ _ _ _ h2 h2' (by rw[kg];exact l1) (by rw[kg];exact l2) e e'
  subst this
  obtain⟨p1,q1⟩:=List.getElem?_eq_some_iff.1 h1
  exact(List.getElem?_inj p1 hs.nd).1 (h1.trans h1'.symm)
 ·rcases h with h | ⟨k,ob,_,h2,h3,h4⟩
  ·exact hr.fol b h
  ·exact hr.blk_lt _ _ _ h2 h3 h4
 ·obtain⟨j,k,ob,h1,h2,h3,h4⟩:=zeZ hs b h
  rcases h' with h'|⟨k',ob',p1,p2,p3,p4⟩
  ·exact hr.dis b ⟨k,ob,h2,h3,h4⟩ h'
  ·have:=hr.inj _ _ _ _ _ h2 p2 h3 p3 h4 p4
   subst this
   rw[vL _ _ _ hs.nd h1]at p1
   cases p1
def Arg(π:List Nat)(τ σ:Sto)(x y:AV): Prop:=SubOk π τ σ->∀ρ w v,Rel σ ρ w->VR σ ρ w x v->VR τ (zee π σ ρ) w y v
def Argl(π:List Nat)(τ σ:Sto): List AV->List AV->Prop
 | [],[]=>True
 | x::xs,y::ys=>Arg π τ σ x y/\Argl π τ σ xs ys
 | _,_=>False
theorem Argl.VR(hs:SubOk π τ σ): ∀(xs ys:List AV) (vs:List Value),Argl π τ σ xs ys->Rel σ ρ w->VRl σ ρ w xs vs->VRl τ (zee π σ ρ) w ys vs
 | [],[],[],_,_,_=>by simp[VRl]
 | [],[],_::_,_,_,h=>by simp[VRl]at h
 | [],_::_,_,h,_,_=>by simp[Argl]at h
 | _::_,[],_,h,_,_=>by simp[Argl]at h
 | x::xs,y::ys,[],_,_,h=>by simp[VRl]at h
 | x::xs,y::ys,v::vs,h,hr,hv=>by
  simp only[Argl]at h
  simp only[VRl]at hv ⊢
  exact⟨h.1 hs _ _ _ hr hv.1,Argl.VR hs xs ys vs h.2 hr hv.2⟩
theorem zD{x y:AV}(hx:x=rn (ix π σ.length) y)(hsc:scp τ.length y=true): Arg π τ σ x y:=by
 intro hs ρ w v hr hv
 subst hx
 exact zfZ hs y v hsc hv
theorem zi{u:Value}: Arg π τ σ (.lit u) (.lit u):=by
 intro hs ρ w v hr hv
 simpa[VR]using hv
theorem zq{f f' q q':Bool}{xs:List (List AV)}(hf:f'=true->f=true)(hq:q=true->q'=true): Arg π τ σ (.sl f q xs) (.sl f' q' xs):=by
 intro hs ρ w v hr hv
 simp only[VR]at hv ⊢
 obtain⟨a,cap,sz,h1,h2,h3,h4,h5,h6,h7⟩:=hv
 refine⟨a,cap,sz,h1,h2,h3,fun e=>h4 (hf e),h5,h6,fun hx=>?_⟩
 obtain⟨b,o,ha,hbs,hb,hp⟩:=h7 hx
 refine⟨b,o,ha,hbs,fun h=>hb ?_,PVss.carry (Nat.le_refl _) (fun _ _ _=>rfl) (fun b hb=>.inl (kW hs b hb)) xs b o rfl hp⟩
 have:=zc1 hs b h
 cases q'
 ·cases q
  ·exact this
  ·cases hq rfl
 ·exact Own.bset this
theorem yr{x:AV}: Arg π τ σ x .junk:=fun _ _ _ _ _ _=>by simp[VR]
theorem jE(hs:SubOk π τ σ)(hr:Rel σ ρ w){o:Nat}{ob:Ob}{b:Nat}(ho:σ[o]?=some ob)(hl:ob.live=true)(hb:blk (ρ o)=some b)(hp:ka π o=none): ¬Own τ (zee π σ ρ) b:=by
 intro h
 obtain⟨j,k,ob',h1,h2,h3,h4⟩:=zeZ hs b h
 have:=hr.inj _ _ _ _ _ h2 ho h3 hl h4 hb
 subst this
 rw[vL _ _ _ hs.nd h1]at hp
 cases hp
theorem zpb{o s e sz:Nat}{xs:List (List AV)}(ho:σ[o]?=some (.row s e sz xs))(hp:ka π o=none)(hpu:y9 xs.flatten=true): Arg π τ σ (.row o s) (.sl false true xs):=by
 intro hs ρ w v hr hv
 simp only[VR]at hv ⊢
 have hv:=(hv.2 _ _ _ _ ho).2 rfl
 obtain⟨h0,h00,hO⟩:=hr.obj _ _ ho
 rcases hO with⟨⟨a,hO⟩,rfl⟩|⟨b,cap,vs,sp,hb,hh,hle,hm,_,hone,hl⟩
 ·exact⟨a,0,sz,by rw[hv,hO];rfl,Nat.le_refl _,by simp,by simp,by simp,by simp,fun hne=>absurd rfl hne⟩
 ·refine ⟨_, cap, sz, by rw [hv, hb], hle, hm.2, by simp, by simp, h0, fun _ => ⟨b, 0, rfl, (Array.getElem?_eq_some_iff.1 hh).1, ?_, ?_⟩⟩
  ·exact jE hs hr ho rfl (by rw[hb];simp[blk];omega) hp
  ·refine zag _ _ _ (zaD _ vs _ _ ?_ hone ?_)
   ·exact PVl.carry (Nat.le_refl _) (fun _ _ _=>rfl) (fun b hb=>.inl (kW hs b hb)) _ _ (VRl.pv _ _ hl hpu)
   ·intro j u hj
    have:=zU hh j u (by rw[List.getElem?_append_left (List.getElem?_eq_some_iff.1 hj).1];exact hj)
    rw[zQ]at this
    exact this
theorem zsK{o s e sz i n:Nat}{xs:List (List AV)}(ho:σ[o]?=some (.row s e sz xs))(hp:ka π o=none)(hpu:y9 xs.flatten=true): Arg π τ σ (.vw o s i n) (.sl false true ((xs.drop i).take n)):=by
 intro hs ρ w v hr hv
 simp only[VR]at hv ⊢
 obtain⟨a,c,rfl,k2,k3,k4,k5⟩:=(hv.2 _ _ _ _ ho).2 rfl
 obtain⟨m1,m2,m3⟩:=znJ (jN τ (zee π σ ρ)) hr ho hpu (kW hs) k2 k5
 refine⟨a,c,sz,by rw[m1],by omega,k3,by simp,k4,m2,fun hne=>?_⟩
 obtain⟨b,o',h1,h2,h3,h4⟩:=m3 hne
 exact⟨b,o',h1,h2,jE hs hr ho rfl h3 hp,h4⟩
theorem zL{xs ys:List AV}(h:Argl π τ σ xs ys): Arg π τ σ (.ag xs) (.ag ys):=by
 intro hs ρ w v hr hv
 simp only[VR]at hv ⊢
 obtain⟨vs,h1,h2⟩:=hv
 exact⟨vs,h1,Argl.VR hs _ _ _ h hr h2⟩
/-! back again -/
def mset: Sto->List Nat->List Ob->Sto
 | σ,k::π,ob::obs=>mset (σ.set k ob) π obs
 | σ,_,_=>σ
def mrg(π:List Nat)(σ τ':Sto): Sto:=mset σ π (τ'.map (rnP (ix π σ.length)))++(τ'.drop π.length).map (rnP (ix π σ.length))
theorem kX: ∀(π:List Nat) (σ:Sto) (obs:List Ob),(mset σ π obs).length=σ.length
 | [],_,_=>by simp[mset]
 | _::_,_,[]=>by simp[mset]
 | k::π,σ,ob::obs=>by simp[mset,kX π]
theorem zbv: ∀(π:List Nat) (σ:Sto) (obs:List Ob) (i:Nat),ka π i=none->(mset σ π obs)[i]?=σ[i]?
 | [],_,_,_,_=>by simp[mset]
 | _::_,_,[],_,_=>by simp[mset]
 | k::π,σ,ob::obs,i,h=>by
  simp only[ka]at h
  split at h
  ·cases h
  ·rename_i hne
   simp only[Option.map_eq_none_iff]at h
   simp only[mset]
   rw[zbv π _ obs i h,List.getElem?_set_ne (by omega)]
theorem zf0: ∀(π:List Nat) (σ:Sto) (obs:List Ob) (j k:Nat) (ob:Ob),π.Nodup->(∀k∈π,k<σ.length)->π[j]?=some k->obs[j]?=some ob->(mset σ π obs)[k]?=some ob
 | [],_,_,_,_,_,_,_,h,_=>by simp at h
 | _::_,_,[],_,_,_,_,_,_,h=>by simp at h
 | k0::π,σ,ob0::obs,0,k,ob,hn,hlt,h,h'=>by
  simp at h h'
  subst h;subst h'
  simp only[mset]
  have:ka π k0=none:=by
   cases hp:ka π k0 with
   | none=>rfl
   | some j=>exact absurd (List.mem_of_getElem? (yi _ _ _ hp)) (List.nodup_cons.1 hn).1
  rw[zbv π _ obs k0 this,List.getElem?_set_self (hlt k0 (by simp))]
 | k0::π,σ,ob0::obs,j+1,k,ob,hn,hlt,h,h'=>by
  simp only[mset]
  exact zf0 π _ obs j k ob (List.nodup_cons.1 hn).2 (fun k hk=>by simpa using hlt k (by simp[hk])) (by simpa using h) (by simpa using h')
def jW(π:List Nat)(σ:Sto)(ρ ρ1:Rz): Rz:=⟨fun i=>match ka π i with|some j=>ρ1 j|none=>if i<σ.length then ρ i else ρ1 (π.length+(i-σ.length)),ρ.fo⟩
structure Back(π:List Nat)(τ σ:Sto)(ρ:Rz)(w:World)(τ':Sto)(ρ1:Rz)(w':World): Prop where
 hs:SubOk π τ σ
 hr:Rel σ ρ w
 hr':Rel τ' ρ1 w'
 st:Step τ.length τ (zee π σ ρ) w τ' ρ1 w'
 ok:∀ob∈τ',okP ob=true
variable {τ' : Sto} {ρ1 : Rz} {w' : World}
theorem Back.pi_lt(h:Back π τ σ ρ w τ' ρ1 w'){j k:Nat}(hk:π[j]?=some k): k<σ.length/\j<π.length/\j<τ'.length:=by
 have hj:=(List.getElem?_eq_some_iff.1 hk).1
 have hjt:j<τ.length:=by rw[<-h.hs.len];exact hj
 obtain⟨h1,_⟩:=h.hs.here j k _ hk (List.getElem?_eq_getElem hjt)
 exact⟨(List.getElem?_eq_some_iff.1 h1).1,hj,Nat.lt_of_lt_of_le hjt h.st.len'⟩
theorem Back.all_lt(h:Back π τ σ ρ w τ' ρ1 w'): ∀k∈π,k<σ.length:=by
 intro k hk
 obtain⟨j,hj,e⟩:=List.getElem_of_mem hk
 exact(h.pi_lt (j:=j) (k:=k) (by rw[List.getElem?_eq_getElem hj,e])).1
theorem Back.len_le(h:Back π τ σ ρ w τ' ρ1 w'): π.length<=τ'.length:=by rw[h.hs.len];exact h.st.len'
theorem Back.len(h:Back π τ σ ρ w τ' ρ1 w'): (mrg π σ τ').length=σ.length+(τ'.length-π.length):=by simp[mrg,kX]
theorem Back.obj(h:Back π τ σ ρ w τ' ρ1 w'){j:Nat}{ob:Ob}(hj:τ'[j]?=some ob): (mrg π σ τ')[ix π σ.length j]?=some (rnP (ix π σ.length) ob)/\jW π σ ρ ρ1 (ix π σ.length j)=ρ1 j:=by
  have hjl:=(List.getElem?_eq_some_iff.1 hj).1
  cases hk:π[j]? with
  | some k=>
    obtain⟨h1,h2,_⟩:=h.pi_lt hk
    rw[zaE hk]
    refine⟨?_,by simp[jW,vL _ _ _ h.hs.nd hk]⟩
    unfold mrg
    rw[List.getElem?_append_left (by rw[kX];exact h1)]
    exact zf0 _ _ _ j k _ h.hs.nd h.all_lt hk (by simp[hj])
  | none=>
    have hge:π.length<=j:=by simpa using hk
    have hix:ix π σ.length j=σ.length+(j-π.length):=by simp[ix,hk]
    rw[hix]
    constructor
    · unfold mrg
      rw[List.getElem?_append_right (by rw[kX];omega),kX,show σ.length+(j-π.length)-σ.length=j-π.length from by omega,List.getElem?_map,List.getElem?_drop,show π.length+(j-π.length)=j from by omega,hj]
      rfl
    · have:ka π (σ.length+(j-π.length))=none:=by
        cases hp:ka π (σ.length+(j-π.length))with
        | none=>rfl
        | some i=>have:=h.all_lt _ (List.mem_of_getElem? (yi _ _ _ hp));omega
      simp only[jW,this]
      rw[if_neg (by omega)]
      congr 1;omega
theorem Back.frame(h:Back π τ σ ρ w τ' ρ1 w'){i:Nat}(hi:i<σ.length)(hp:ka π i=none): (mrg π σ τ')[i]?=σ[i]?/\jW π σ ρ ρ1 i=ρ i:=by
 constructor
 ·unfold mrg
  rw[List.getElem?_append_left (by rw[kX];exact hi),zbv _ _ _ _ hp]
 ·simp[jW,hp,hi]
theorem Back.cases(h:Back π τ σ ρ w τ' ρ1 w'){i:Nat}{ob:Ob}(hi:(mrg π σ τ')[i]?=some ob):
    (∃j ob',τ'[j]?=some ob'/\i=ix π σ.length j/\ob=rnP (ix π σ.length) ob'/\jW π σ ρ ρ1 i=ρ1 j)\/(i<σ.length/\ka π i=none/\σ[i]?=some ob/\jW π σ ρ ρ1 i=ρ i):=by
  have hlt:=(List.getElem?_eq_some_iff.1 hi).1
  rw[h.len]at hlt
  have mk:∀j,j<τ'.length->i=ix π σ.length j->∃j ob',τ'[j]?=some ob'/\i=ix π σ.length j/\ob=rnP (ix π σ.length) ob'/\jW π σ ρ ρ1 i=ρ1 j:=by
    intro j hj e
    obtain⟨h1,h2⟩:=h.obj (List.getElem?_eq_getElem hj)
    rw[<-e,hi]at h1
    simp at h1
    exact⟨j,_,List.getElem?_eq_getElem hj,e,h1,by rw[e];exact h2⟩
  by_cases hi2:i<σ.length
  · cases hp:ka π i with
    | some j=>
      have hg:=yi _ _ _ hp
      exact .inl (mk j (h.pi_lt hg).2.2 (zaE hg).symm)
    | none=>
      obtain⟨h1,h2⟩:=h.frame hi2 hp
      exact .inr ⟨hi2,rfl,by rw[<-h1];exact hi,h2⟩
  · have hl:=h.len_le
    refine .inl (mk (π.length+(i-σ.length)) (by omega) ?_)
    have:π[π.length+(i-σ.length)]?=none:=by simp
    simp[ix,this];omega
theorem Back.own(h:Back π τ σ ρ w τ' ρ1 w'): ∀b,Own (mrg π σ τ') (jW π σ ρ ρ1) b->Own τ' ρ1 b\/zvR π σ ρ b:=by
 rintro b ⟨i,ob,h1,h2,h3⟩
 rcases h.cases h1 with⟨j,ob',k1,k2,rfl,k4⟩|⟨k1,k2,k3,k4⟩
 ·rw[k4]at h3
  exact .inl ⟨j,ob',k1,by rw[kg]at h2;exact h2,h3⟩
 ·rw[k4]at h3
  exact .inr ⟨i,ob,k2,k3,h2,h3⟩
theorem Back.fo(h:Back π τ σ ρ w τ' ρ1 w'): ∀b,ρ.fo b\/zvR π σ ρ b->ρ1.fo b:=by
 intro b hb
 rw[h.st.fo];exact hb
theorem Back.mset(h:Back π τ σ ρ w τ' ρ1 w'): ∀b,jN (mrg π σ τ') (jW π σ ρ ρ1) b->jN τ' ρ1 b:=by
 rintro b (hb|hb)
 ·rcases h.own b hb with hb | hb
  ·exact .inl hb
  ·exact .inr (h.fo b (.inr hb))
 ·exact .inr (h.fo b (.inl hb))
theorem Back.ixlt(h:Back π τ σ ρ w τ' ρ1 w'): ∀i,i<τ'.length->ix π σ.length i<(mrg π σ τ').length:=by
 intro i hi
 obtain⟨h1,_⟩:=h.obj (List.getElem?_eq_getElem hi)
 exact(List.getElem?_eq_some_iff.1 h1).1
theorem ze0{f:Nat->Nat}{ob:Ob}{s e sz:Nat}{xs:List (List AV)}(h:rnP f ob=.row s e sz xs): ob=.row s e sz xs:=by
 cases ob<;>simp[rnP]at h ⊢<;>exact h
theorem zsL{f:Nat->Nat}{ob:Ob}{I:Obj->Prop}(h:rnP f ob=.mp I): ob=.mp I:=by
 cases ob<;>simp[rnP]at h ⊢<;>exact h
theorem zpc{f:Nat->Nat}{ob:Ob}{cs:List AV}(h:rnP f ob=.box cs): ∃cs',ob=.box cs'/\cs=rnl f cs':=by
 cases ob<;>simp[rnP]at h
 exact⟨_,rfl,h.symm⟩
mutual
theorem Back.VR(h:Back π τ σ ρ w τ' ρ1 w'): ∀(x:AV) (v:Value),nb x=true->Lf.VR τ' ρ1 w' x v->Lf.VR (mrg π σ τ') (jW π σ ρ ρ1) w' (rn (ix π σ.length) x) v
 | .junk,_,_,_=>by simp[Lf.VR,rn]
 | .lit _,_,_,k=>by simpa[Lf.VR,rn]using k
 | .sl f q xs,v,hq,k=>by
  simp[nb]at hq
  subst hq
  simp only[Lf.VR,rn]at k ⊢
  obtain⟨a,cap,sz,h1,h2,h3,h4,h5,h6,h7⟩:=k
  refine⟨a,cap,sz,h1,h2,h3,h4,h5,h6,fun hx=>?_⟩
  obtain⟨b,o,ha,hbs,hb,hp⟩:=h7 hx
  exact⟨b,o,ha,hbs,fun k=>hb (h.mset b k),PVss.carry (Nat.le_refl _) (fun _ _ _=>rfl) (fun b hb=>.inl (h.mset b hb)) xs b o rfl hp⟩
 | .ip q xs,v,hq,k=>by
  simp[nb]at hq
  subst hq
  simp only[Lf.VR,rn]at k ⊢
  obtain⟨b,o,ha,hbs,hb,hp⟩:=k
  exact⟨b,o,ha,hbs,fun k=>hb (h.mset b k),PVs.carry (Nat.le_refl _) (fun _ _ _=>rfl) (fun b hb=>.inl (h.mset b hb)) xs b o rfl hp⟩
 | .row o s,v,_,k=>by
  simp only[Lf.VR,rn]at k ⊢
  refine⟨h.ixlt _ k.1,fun s' e sz xs ht=>?_⟩
  obtain⟨h1,h2⟩:=h.obj (List.getElem?_eq_getElem k.1)
  rw[h1]at ht
  simp at ht
  rw[h2]
  exact k.2 _ _ _ _ (by rw[List.getElem?_eq_getElem k.1,ze0 ht])
 | .vw o s i n,v,_,k=>by
  simp only[Lf.VR,rn]at k ⊢
  refine⟨h.ixlt _ k.1,fun s' e sz xs ht=>?_⟩
  obtain⟨h1,h2⟩:=h.obj (List.getElem?_eq_getElem k.1)
  rw[h1]at ht
  simp at ht
  rw[h2]
  exact k.2 _ _ _ _ (by rw[List.getElem?_eq_getElem k.1,ze0 ht])
 | .ptr o k',v,_,k=>by
  simp only[Lf.VR,rn]at k ⊢
  refine⟨h.ixlt _ k.1,fun cs ht=>?_⟩
  obtain⟨h1,h2⟩:=h.obj (List.getElem?_eq_getElem k.1)
  rw[h1]at ht
  simp at ht
  rw[h2]
  obtain⟨cs',e,_⟩:=zpc ht
  exact k.2 cs' (by rw[List.getElem?_eq_getElem k.1,e])
 | .ep o s i k',v,_,k=>by
  simp only[Lf.VR,rn]at k ⊢
  refine⟨h.ixlt _ k.1,fun s' e sz xs ht=>?_⟩
  obtain⟨h1,h2⟩:=h.obj (List.getElem?_eq_getElem k.1)
  rw[h1]at ht
  simp at ht
  rw[h2]
  exact k.2 _ _ _ _ (by rw[List.getElem?_eq_getElem k.1,ze0 ht])
 | .ag xs,v,hq,k=>by
  simp only[Lf.VR,rn,nb]at k hq ⊢
  obtain⟨vs,h1,h2⟩:=k
  exact⟨vs,h1,Back.VRl h xs vs hq h2⟩
 | .mref o,v,_,k=>by
  simp only[Lf.VR,rn]at k ⊢
  refine⟨h.ixlt _ k.1,fun I ht=>?_⟩
  obtain⟨h1,h2⟩:=h.obj (List.getElem?_eq_getElem k.1)
  rw[h1]at ht
  simp at ht
  rw[h2]
  exact k.2 _ (by rw[List.getElem?_eq_getElem k.1,zsL ht])
 | .fn _ xs,v,hq,k=>by
  simp only[Lf.VR,rn,nb]at k hq ⊢
  obtain⟨vs,h1,h2⟩:=k
  exact⟨vs,h1,Back.VRl h xs vs hq h2⟩
 | .tu xs,v,hq,k=>by
  simp only[Lf.VR,rn,nb]at k hq ⊢
  obtain⟨vs,h1,h2⟩:=k
  exact⟨vs,h1,Back.VRl h xs vs hq h2⟩
 | .gd g x,v,hq,k=>by
  simp only[Lf.VR,rn,nb]at k hq ⊢
  exact⟨ziH h.ixlt x k.1,fun hg=>Back.VR h x v hq (k.2.1 hg),k.2.2⟩
theorem Back.VRl(h:Back π τ σ ρ w τ' ρ1 w'): ∀(xs:List AV) (vs:List Value),nbl xs=true->Lf.VRl τ' ρ1 w' xs vs->Lf.VRl (mrg π σ τ') (jW π σ ρ ρ1) w' (rnl (ix π σ.length) xs) vs
 | [],[],_,_=>by simp[Lf.VRl,rnl]
 | [],_::_,_,k=>by simp[Lf.VRl]at k
 | _::_,[],_,k=>by simp[Lf.VRl]at k
 | x::xs,v::vs,hq,k=>by
  simp only[Lf.VRl,rnl,nbl,Bool.and_eq_true]at k hq ⊢
  exact⟨Back.VR h x v hq.1 k.1,Back.VRl h xs vs hq.2 k.2⟩
end
theorem ze1{f g:Nat->Nat}{ob ob':Ob}{r r':Value}(h:ObjStep (some ob) (some ob') r r'): ObjStep (some (rnP f ob)) (some (rnP g ob')) r r':=by
 cases ob<;>cases ob'<;>simp[ObjStep,rnP,ziG]at h ⊢<;>exact h
theorem Back.step(h:Back π τ σ ρ w τ' ρ1 w'): Step σ.length σ ρ w (mrg π σ τ') (jW π σ ρ ρ1) w':=by
 refine⟨h.st.os,h.st.tape,h.st.output,h.st.size,fun b hb hm=>h.st.kept b hb fun k=>hm (za4 h.hs b k),fun b hb=>?_,Nat.le_refl _,by rw[h.len];omega,fun o ho=>?_,rfl⟩
 ·rcases h.own b hb with k | k
  ·rcases h.st.own b k with k | k
   ·exact .inl (za4 h.hs b k)
   ·exact .inr k
  ·exact .inl (zc0 b k)
 ·cases hp:ka π o with
  | none=>
   obtain⟨h1,h2⟩:=h.frame ho hp
   rw[h1,h2]
   exact .refl _ _ (by simp;omega)
  | some j=>
   have hg:=yi _ _ _ hp
   obtain⟨_,h2,h3⟩:=h.pi_lt hg
   have hjt:j<τ.length:=by rw[<-h.hs.len];exact h2
   have hso:=h.st.obj j hjt
   obtain⟨k1,k2⟩:=h.obj (List.getElem?_eq_getElem h3)
   rw[zaE hg]at k1 k2
   rw[k1,k2,(h.hs.here _ _ _ hg (List.getElem?_eq_getElem hjt)).1]
   rw[List.getElem?_eq_getElem hjt,List.getElem?_eq_getElem h3,vn hg]at hso
   exact ze1 hso
theorem Back.rel(h:Back π τ σ ρ w τ' ρ1 w'): Rel (mrg π σ τ') (jW π σ ρ ρ1) w':=by
  have fr:∀i ob b,i<σ.length->ka π i=none->σ[i]?=some ob->ob.live=true->blk (ρ i)=some b->b<w.heap.size/\¬Own τ (zee π σ ρ) b:=by
    intro i ob b hi hp ho hl hb
    exact⟨h.hr.blk_lt _ _ _ ho hl hb,jE h.hs h.hr ho hl hb hp⟩
  refine⟨fun i ob hi=>?_,fun i i' ob ob' b hi hi' l l' e e'=>?_,fun b hb=>Nat.lt_of_lt_of_le (h.hr.fol b hb) h.st.size,fun b hb hf=>?_⟩
  · rcases h.cases hi with⟨j,ob',k1,k2,rfl,k4⟩ | ⟨k1,k2,k3,k4⟩
    · rw[k4]
      have hO:=h.hr'.obj _ _ k1
      have hok:=h.ok ob' (List.mem_of_getElem? k1)
      cases ob' with
      | gone=>trivial
      | mp I=>exact hO
      | box cs=>
        obtain⟨b,ty,vs,m1,m2,m3,m4⟩:=hO
        exact⟨b,ty,vs,m1,m2,m3,h.VRl _ _ hok m4⟩
      | row s e sz xs=>
        obtain⟨h0,h00,hO⟩:=hO
        refine⟨h0,h00,?_⟩
        rcases hO with hO|⟨b,cap,vs,sp,m1,m2,m3,m4,m5,m6,m7⟩
        · exact .inl hO
        · refine .inr ⟨b,cap,vs,sp,m1,m2,m3,m4,m5,m6,?_⟩
          have:=h.VRl _ _ (zcY _ hok) m7
          rwa [zbu _ _ hok]at this
    · rw[k4]
      cases hl:ob.live with
      | false=>cases ob<;>simp[Ob.live]at hl;trivial
      | true=>
        refine(h.hr.obj _ _ k3).carry h.step (fun b hb=>?_)
        obtain⟨m1,m2⟩:=fr _ _ _ k1 k2 k3 hl hb
        exact h.st.kept b m1 m2
  · have mix:∀(j:Nat) (oj:Ob) (i:Nat) (oi:Ob),τ'[j]?=some oj->oj.live=true->blk (ρ1 j)=some b->i<σ.length->ka π i=none->σ[i]?=some oi->oi.live=true->blk (ρ i)=some b->False:=by
      intro j oj i oi a1 a2 a3 a4 a5 a6 a7 a8
      obtain⟨m1,m2⟩:=fr _ _ _ a4 a5 a6 a7 a8
      rcases h.st.own b ⟨j,oj,a1,a2,a3⟩with k|k
      · exact m2 k
      · omega
    rcases h.cases hi with⟨j,oj,k1,k2,rfl,k4⟩|⟨k1,k2,k3,k4⟩<;>rcases h.cases hi' with⟨j',oj',m1,m2,rfl,m4⟩|⟨m1,m2,m3,m4⟩
    · rw[k4]at e;rw[m4]at e'
      rw[kg]at l l'
      have:=h.hr'.inj _ _ _ _ _ k1 m1 l l' e e'
      subst this
      rw[k2,m2]
    · rw[k4]at e;rw[m4]at e'
      rw[kg]at l
      exact(mix _ _ _ _ k1 l e m1 m2 m3 l' e').elim
    · rw[k4]at e;rw[m4]at e'
      rw[kg]at l'
      exact(mix _ _ _ _ m1 l' e' k1 k2 k3 l e).elim
    · rw[k4]at e;rw[m4]at e'
      exact h.hr.inj _ _ _ _ _ k3 m3 l l' e e'
  · rcases h.own b hb with k | k
    · exact h.hr'.dis b k (h.fo b (.inl hf))
    · exact h.hr.dis b (zc0 b k) hf
end sub
theorem zpd(f:Nat->Nat)(g:Nat): rn f (zeK g)=zeK g:=by
 unfold zeK
 split
 ·simp only[rn]
 ·rfl
theorem zlR(n g:Nat): scp n (zeK g)=true:=by
 unfold zeK
 split
 ·simp only[scp]
 ·rfl
theorem GV.sub{π:List Nat}{τ σ:Sto}{ρ:Rz}{w:World}(hs:SubOk π τ σ)(h:GV σ ρ w): GV τ (zee π σ ρ) w:=fun g=>
 zfZ hs (zeK g) _ (zlR _ g) (by rw[zpd];exact h g)
theorem ziI{P:Program}{f:FuncId}{args cargs:List AV}{σ τ:Sto}{Q Q':AV->Sto->Prop}(π:List Nat)(hs:SubOk π τ σ)(ha:Argl π τ σ args cargs)(hc:ACall P f cargs τ Q')
    (hq:∀r τ',Q' r τ'->nb r=true/\(∀ob∈τ',okP ob=true)/\Q (rn (ix π σ.length) r) (mrg π σ τ')):ACall P f args σ Q:=by
  intro ρ w vs hr hG hv
  refine(hc (zee π σ ρ) w vs (zpa hs hr) (hG.sub hs) (Argl.VR hs _ _ _ ha hr hv)).mono ?_
  rintro e w' ⟨r,τ',ρ1,v,rfl,hQ,hr',hv',st⟩
  obtain⟨h1,h2,h3⟩:=hq r τ' hQ
  have B:Back π τ σ ρ w τ' ρ1 w':=⟨hs,hr,hr',st,h2⟩
  exact⟨_,_,_,v,rfl,h3,B.rel,B.VR r v h1 hv',B.step⟩
theorem AEq.sub{P:Program}{f:FuncId}{args cargs:List AV}{σ τ τ':Sto}{r:AV}{Q:AV->Sto->Prop}(π:List Nat)(hs:SubOk π τ σ)(ha:Argl π τ σ args cargs)(hc:AEq P f cargs τ r τ')
    (hn:nb r=true) (ho:τ'.all okP=true) (hq:Q (rn (ix π σ.length) r) (mrg π σ τ')):ACall P f args σ Q:=
  ziI π hs ha hc (fun x τ2 ⟨e1,e2⟩=>by subst e1;subst e2;exact⟨hn,by simpa using ho,hq⟩)
theorem zpe{σ:Sto}: SubOk [] [] σ:=⟨rfl,List.nodup_nil,by simp⟩
theorem AEq.pure{P:Program}{f:FuncId}{args cargs:List AV}{σ:Sto}{r:AV}{Q:AV->Sto->Prop}(hc:AEq P f cargs [] r [])(ha:Argl [] [] σ args cargs)
    (hn:nb r=true) (hq:Q (rn (ix [] σ.length) r) σ):ACall P f args σ Q:=
  AEq.sub [] zpe ha hc hn rfl (by simpa[mrg,Lf.mset]using hq)
def SubL(f:Nat->Nat)(n:Nat)(σ:Sto): List Nat->Sto->Prop
 | [],[]=>True
 | k::π,ob::τ=>σ[k]?=some (rnP f ob)/\okI n ob=true/\SubL f n σ π τ
 | _,_=>False
theorem SubL.len{f:Nat->Nat}{n:Nat}{σ:Sto}: ∀(π:List Nat) (τ:Sto),SubL f n σ π τ->π.length=τ.length
 | [],[],_=>rfl
 | [],_::_,h=>by simp[SubL]at h
 | _::_,[],h=>by simp[SubL]at h
 | k::π,ob::τ,h=>by simp[SubL.len π τ h.2.2]
theorem SubL.here{f:Nat->Nat}{n:Nat}{σ:Sto}: ∀(π:List Nat) (τ:Sto),SubL f n σ π τ->∀(j k:Nat) (ob:Ob),π[j]?=some k->τ[j]?=some ob->σ[k]?=some (rnP f ob)/\okI n ob=true
 | [],_,_,_,_,_,h,_=>by simp at h
 | _::_,[],h,_,_,_,_,_=>by simp[SubL]at h
 | k::π,ob::τ,h,0,k',ob',h1,h2=>by simp at h1 h2;subst h1;subst h2;exact⟨h.1,h.2.1⟩
 | k::π,ob::τ,h,j+1,k',ob',h1,h2=>SubL.here π τ h.2.2 j k' ob' (by simpa using h1) (by simpa using h2)
theorem SubOk.mk'{π:List Nat}{τ σ:Sto}(hn:decide π.Nodup=true)(h:SubL (ix π σ.length) τ.length σ π τ): SubOk π τ σ:=
 ⟨SubL.len _ _ h,by simpa using hn,SubL.here _ _ h⟩
theorem ze{α:Type}{g:α->List AV}(hg:∀a,y9 (g a)=true): ∀l:List α,y9 (l.map g).flatten=true
 | []=>rfl
 | x::l=>by simp only[List.map_cons,List.flatten_cons,zfP,hg x,ze hg l,Bool.and_self]
end Go.Lf
namespace Go.Lf
theorem zsM(a b:ByteArray): (a == b)=decide (a=b):=by
 obtain⟨x⟩:=a
 obtain⟨y⟩:=b
 have:((⟨x⟩:ByteArray) == ⟨y⟩)=(x == y):=rfl
 rw[this,Bool.eq_iff_iff]
 simp
/-! == on structs and on slices -/
def zvS(x y:AV): TypeDesc->Option Bool
 | .bool=>(match x,y with|.lit (.bool a),.lit (.bool b)=>some (a == b)|_,_=>none)
 | .int _=>(match x,y with|.lit (.int k a),.lit (.int k' b)=>if k=k' then some (a == b)else none|_,_=>none)
 | .string=>(match x,y with|.lit (.string a),.lit (.string b)=>some (decide (a=b))|_,_=>none)
 | _=>none
def zpf(P:Program)(E:TypeId->AV->AV->Option Bool): List Field->List AV->List AV->Option Bool
 | [],_,_=>some true
 | f::fs,xs,ys=>
  if f.name = "_" then zpf P E fs xs ys else
  match v7 P f.type f.offset xs,v7 P f.type f.offset ys with
  | some x,some y=>(match E f.type x y,zpf P E fs xs ys with|some b,some c=>some (b && c)|_,_=>none)
  | _,_=>none
def zln(P:Program)(E:AV->AV->Option Bool)(e n:Nat)(xs ys:List AV): Nat->Option Bool
 | 0=>some true
 | k+1=>
  match v7 P e (k*n) xs,v7 P e (k*n) ys with
  | some x,some y=>(match zln P E e n xs ys k,E x y with|some c,some b=>some (c && b)|_,_=>none)
  | _,_=>none
def aeq(P:Program): Nat->TypeId->AV->AV->Option Bool
 | 0,_,_,_=>none
 | k+1,t,x,y=>
  match P.underlying t with
  | some (.struct fs)=>if P.stoodInHeld t=true then none else(match x,y with|.ag xs,.ag ys=>zpf P (aeq P k) fs.toList xs ys|_,_=>none)
  | some (.array len e)=>if(P.underlying e).isSome=true then(match x,y with|.ag xs,.ag ys=>zln P (aeq P k e) e (P.cellsOf e) xs ys len|_,_=>none)else none
  | some d=>zvS x y d
  | none=>none
theorem zlS{P:Program}{σ:Sto}{ρ:Rz}{w:World}{t:TypeId}{D:TypeDesc}(hD:P.underlying t=some D)(d:Nat){x y:AV}{v u:Value}{b:Bool}(hx:VR σ ρ w x v)(hy:VR σ ρ w y u)(h:zvS x y D=some b): (Op.equalIn (d+1) t v u).run P w=.ok b w:=by
 unfold zvS at h
 split at h
 ·split at h
  ·simp only[VR]at hx hy
   subst hx;subst hy
   simp only[Option.some.injEq]at h
   subst h
   rw[Op.equalIn]
   simp only[Sem.run_bind,zn hD,Result.andThen_ok,Sem.run_pure]
  ·cases h
 ·split at h
  ·split at h
   ·rename_i hk
    subst hk
    simp only[VR]at hx hy
    subst hx;subst hy
    simp only[Option.some.injEq]at h
    subst h
    rw[Op.equalIn]
    simp only[Sem.run_bind,zn hD,Result.andThen_ok,Sem.run_pure,if_true]
   ·cases h
  ·cases h
 ·split at h
  ·simp only[VR]at hx hy
   subst hx;subst hy
   simp only[Option.some.injEq]at h
   subst h
   rw[Op.equalIn]
   simp only[Sem.run_bind,zn hD,Result.andThen_ok,Sem.run_pure,zsM]
  ·cases h
 ·cases h
theorem zc2{P:Program}{σ:Sto}{ρ:Rz}{w:World}{d:Nat}{E:TypeId->AV->AV->Option Bool}(hE:∀t x y v u b,VR σ ρ w x v->VR σ ρ w y u->E t x y=some b->(Op.equalIn d t v u).run P w=.ok b w)
    {xs ys:List AV} {vs us:List Value} (hx:VRl σ ρ w xs vs) (hy:VRl σ ρ w ys us):∀(fs:List Field) (b:Bool),zpf P E fs xs ys=some b ->
    (do
      for f in fs do
        if f.name ≠ "_" then
          if !(<-Op.equalIn d f.type (<-part f.type vs.toArray f.offset) (<-part f.type us.toArray f.offset))then return false
      pure true:Sem Bool).run P w=.ok b w
  | [],b,h=>by
    simp only[zpf,Option.some.injEq]at h
    subst h
    simp
  | f::fs,b,h=>by
    simp only[zpf]at h
    split at h
    · rename_i hf
      have:=zc2 hE hx hy fs b h
      simpa[List.forIn_cons,hf]using this
    · rename_i hf
      split at h
      · rename_i x y hpx hpy
        split at h
        · rename_i b1 c h1 h2
          simp only[Option.some.injEq]at h
          subst h
          obtain⟨v,k1,k2⟩:=kU hx hpx
          obtain⟨u,k3,k4⟩:=kU hy hpy
          have k5:=hE _ _ _ _ _ _ k2 k4 h1
          have:=zc2 hE hx hy fs c h2
          cases b1
          · simp[List.forIn_cons,hf,k1,k3,k5]
          · simpa[List.forIn_cons,hf,k1,k3,k5]using this
        · cases h
      · cases h
theorem zf1{P:Program}{σ:Sto}{ρ:Rz}{w:World}{d e n:Nat}{E:AV->AV->Option Bool}(hE:∀x y v u b,VR σ ρ w x v->VR σ ρ w y u->E x y=some b->(Op.equalIn d e v u).run P w=.ok b w)
    {xs ys:List AV} {vs us:List Value} (hx:VRl σ ρ w xs vs) (hy:VRl σ ρ w ys us):∀(m k:Nat) (b c:Bool),zln P E e n xs ys k=some c->zln P E e n xs ys (k+m)=some b->(c=true\/b=false) ->
    (c=true->(do
      for i in List.range' k m do
        if !(<-Op.equalIn d e (<-part e vs.toArray (i*n)) (<-part e us.toArray (i*n)))then return false
      pure true:Sem Bool).run P w=.ok b w)
  | 0,k,b,c,hc,h,_,hct=>by
    rw[Nat.add_zero,hc]at h
    simp only[Option.some.injEq]at h
    subst h;subst hct
    simp
  | m+1,k,b,c,hc,h,_,hct=>by
    have h':zln P E e n xs ys (k+1+m)=some b:=by rw[show k+1+m=k+(m+1)from by omega];exact h
    have pre:∀(m:Nat) (b:Bool),zln P E e n xs ys (k+1+m)=some b->∃c',zln P E e n xs ys (k+1)=some c'/\(c'=false->b=false):=by
      intro m
      induction m with
      | zero=>intro b h;exact⟨b,h,id⟩
      | succ m ih=>
        intro b h
        rw[show k+1+(m+1)=(k+1+m)+1 from rfl,zln]at h
        split at h
        · split at h
          · rename_i c1 b1 h1 h2
            obtain⟨c',q1,q2⟩:=ih _ h1
            simp only[Option.some.injEq]at h
            exact⟨c',q1,fun e=>by rw[<-h,q2 e];rfl⟩
          · cases h
        · cases h
    obtain⟨c',q1,q2⟩:=pre m b h'
    have q1':=q1
    rw[zln]at q1'
    split at q1'
    · rename_i x y hpx hpy
      split at q1'
      · rename_i c1 b1 r1 r2
        rw[hc]at r1
        simp only[Option.some.injEq]at r1 q1'
        subst r1;subst hct
        obtain⟨v,k1,k2⟩:=kU hx hpx
        obtain⟨u,k3,k4⟩:=kU hy hpy
        have k5:=hE _ _ _ _ _ k2 k4 r2
        simp only[Bool.true_and]at q1'
        subst q1'
        cases b1
        · have:=q2 rfl
          subst this
          simp[List.range'_succ,List.forIn_cons,k1,k3,k5]
        · have:=zf1 hE hx hy m (k+1) b true q1 h' (.inl rfl) rfl
          simpa[List.range'_succ,List.forIn_cons,k1,k3,k5]using this
      · cases q1'
    · cases q1'
theorem ze2{P:Program}{σ:Sto}{ρ:Rz}{w:World}: ∀(k d:Nat) (t:TypeId) (x y:AV) (v u:Value) (b:Bool),k<=d->VR σ ρ w x v->VR σ ρ w y u->aeq P k t x y=some b->(Op.equalIn d t v u).run P w=.ok b w
 | 0,_,_,_,_,_,_,_,_,_,_,h=>by simp[aeq]at h
 | k+1,0,_,_,_,_,_,_,hd,_,_,_=>by omega
 | k+1,d+1,t,x,y,v,u,b,hd,hx,hy,h=>by
  unfold aeq at h
  split at h
  ·rename_i fs hD
   split at h
   ·cases h
   ·rename_i hst
    split at h
    ·rename_i xs ys
     simp only[VR]at hx hy
     obtain⟨vs,rfl,h1⟩:=hx
     obtain⟨us,rfl,h2⟩:=hy
     have:=zc2 (d:=d) (fun t x y v u b p q r=>ze2 k d t x y v u b (by omega) p q r) h1 h2 fs.toList b h
     rw[Op.equalIn]
     simp only[Sem.run_bind,zn hD,Result.andThen_ok]
     simpa[run_program,hst]using this
    ·cases h
  ·rename_i len e hD
   split at h
   ·rename_i he
    obtain⟨D,hDe⟩:=z2 he
    split at h
    ·rename_i xs ys
     simp only[VR]at hx hy
     obtain⟨vs,rfl,h1⟩:=hx
     obtain⟨us,rfl,h2⟩:=hy
     have:=zf1 (d:=d) (n:=P.cellsOf e) (fun x y v u b p q r=>ze2 k d e x y v u b (by omega) p q r) h1 h2 len 0 b true rfl (by rw[Nat.zero_add];exact h) (.inl rfl) rfl
     rw[Op.equalIn]
     simp only[Sem.run_bind,zn hD,Result.andThen_ok,zE hDe]
     simpa[Std.Legacy.Range.forIn_eq_forIn_range',Std.Legacy.Range.size]using this
    ·cases h
   ·cases h
  ·rename_i D hne hna hD
   exact zlS hD d hx hy h
  ·cases h
theorem zS{P:Program}{N:Nat}{o:Oper}{Γ:Env}{σ:Sto}{K:AV->Sto->Prop}{t yt:TypeId}{x y:Operand}{ne:Bool}(ho:o.op=.binOp (if ne=true then .neq else .eql) t x y yt)(hg:P.eqGuardType P.depth t=false){xs ys:List AV}
    (hx:ev Γ x=.ag xs:=by(try simp(disch:=omega)only[go_sem,seval,↓reduceIte,hU])<;>rfl) (hy:ev Γ y=.ag ys:=by(try simp(disch:=omega)only[go_sem,seval,↓reduceIte,hU])<;>rfl) {b:Bool} (hb:aeq P 9 t (.ag xs) (.ag ys)=some b:=by simp(disch:=omega)only[aeq,zpf,zln,zvS,go_sem,seval,↓reduceIte,hU];rfl) {c:Bool} (hc:(if ne=true then !b else b)=c) (hK:K (.lit (.bool c)) σ):SOp P N o Γ σ K:=by
  refine SOp.pure _ (fun ρ w a hf hr=>?_) hK
  have hX:=hf.ev x
  have hY:=hf.ev y
  rw[hx]at hX
  rw[hy]at hY
  have hrun:=ze2 9 Op.maxDepth t _ _ _ _ b (by decide) hX hY hb
  simp only[VR]at hX hY
  obtain⟨vs,hv,_⟩:=hX
  obtain⟨us,hu,_⟩:=hY
  rw[hv,hu]at hrun
  refine⟨.bool c,?_,by simp[VR]⟩
  have heq:(Op.equal t (.agg vs.toArray) (.agg us.toArray)).run P w=.ok b w:=hrun
  subst hc
  cases ne
  · simp[execOp,ho,hv,hu,eqGuard,run_program,hg,binOp,heq]
  · simp[execOp,ho,hv,hu,eqGuard,run_program,hg,binOp,heq]
theorem ze3 {P : Program} {N : Nat} {o : Oper} {Γ : Env} {σ : Sto} {K : AV -> Sto -> Prop} {t e yt : TypeId} {x : Operand} {ne : Bool} (ho : o.op = .binOp (if ne = true then .neq else .eql) t x (.const (.slice none 0 0)) yt) (ht : P.underlying t = some (.slice e) := by (try simp (disch := omega) only [go_sem, seval, ↓reduceIte, hU]) <;> rfl) {n : Nat}
    (hx:∃ys,rd σ (ev Γ x)=some ys/\ys.length=n)
    (hK:∀b:Bool,(b=true->n=0)->K (.lit (.bool (if ne=true then !b else b))) σ):SOp P N o Γ σ K:=by
  intro ρ w a next Q hf hr hn
  obtain⟨ys,hrd,hl⟩:=hx
  obtain⟨ad,cap,vs,h1,h2,h3,h4,_⟩:=zct hr (hf.ev x) hrd
  have hb:ad.isNone=true->n=0:=by
    intro h
    have:=h4 (by simpa using h)
    omega
  have heq:(Op.equal t (.slice ad ys.length cap) (.slice none 0 0)).run P w=.ok ad.isNone w:=by
    unfold Op.equal Op.maxDepth
    rw[Op.equalIn]
    simp only[Sem.run_bind,zn ht,Result.andThen_ok]
    cases ad<;>rfl
  have ec:a.eval (.const (.slice none 0 0))=.slice none 0 0:=rfl
  have hrun:(execOp a.eval o).run P w=.ok (.value (.bool (if ne=true then !ad.isNone else ad.isNone))) w:=by
    cases ne
    · simp only[execOp,ho,h1,ec,eqGuard,binOp]
      simp[heq]
    · simp only[execOp,ho,h1,ec,eqGuard,binOp]
      simp[heq,<-Option.isNone_iff_eq_none,Option.isSome]
  unfold Oper.wp
  rw[hrun,Oper.upon_value]
  exact hn _ σ ρ w _ (hK _ hb) hr (by simp[VR]) (.refl _ _ _ _ (Nat.le_refl _))
end Go.Lf
namespace Go.Lf
/-! the rules as the walks use them: each thing that is reckoned is a premise of its own -/
section n
variable {P : Program} {N : Nat} {o : Oper} {Γ : Env} {σ σ2 : Sto} {K : AV -> Sto -> Prop}
theorem zj{f:FuncId}{args:Array Operand}{ts:Array TypeId}{as:List AV}(ho:o.op=.call { callee:=.value (.func f),args:=args,argTypes:=ts })
    (hc:∀(args:Array Value) (w:World),(callFunc f args).run P w=.ok (.enter f args) w) (ha:args.toList.map (ev Γ)=as:=by(try simp(disch:=omega)only[go_sem,seval,↓reduceIte,hU])<;>rfl) (h:ACall P f as σ K):SOp P N o Γ σ K:=
  zly ho hc (by rw[ha];exact h)
theorem zbw {t : TypeId} {cs : List Value} {cs2 : List AV} {L : Nat} (ho : o.op = .alloc t) (hz : ((P.info? t).bind fun i => i.zero.map fun z => z.cells.toList) = some cs) (h1 : cs.all (fun v => v.oneCell') = true := by first | (simp (disch := omega) only [go_sem, seval, ↓reduceIte, hU]; done) | rfl)
    (hc:cs.map alit=cs2:=by(try simp(disch:=omega)only[go_sem,seval,↓reduceIte,hU])<;>rfl) (hL:σ.length=L:=by(try simp(disch:=omega)only[go_sem,seval,↓reduceIte,hU])<;>rfl) (hσ:σ++[.box cs2]=σ2:=by(try simp(disch:=omega)only[go_sem,seval,↓reduceIte,hU])<;>rfl) (hK:K (.ptr L 0) σ2):SOp P N o Γ σ K:=by
  subst hc;subst hL;subst hσ
  exact zid ho hz h1 hK
theorem zpg{t:TypeId}{x:Operand}{X:AV}{cs:List AV}{L:Nat}(ho:o.op=.box t x)(hx:ev Γ x=X:=by(try simp(disch:=omega)only[go_sem,seval,↓reduceIte,hU])<;>rfl)(hc:acells X=cs:=by(try simp(disch:=omega)only[go_sem,seval,↓reduceIte,hU])<;>rfl)(hk:cs.all (okc σ)=true:=by first|(simp(disch:=omega)only[go_sem,seval,↓reduceIte,hU];done)|rfl)(hL:σ.length=L:=by(try simp(disch:=omega)only[go_sem,seval,↓reduceIte,hU])<;>rfl)(hσ:σ++[.box cs]=σ2:=by(try simp(disch:=omega)only[go_sem,seval,↓reduceIte,hU])<;>rfl)(hK:K (.ptr L 0) σ2): SOp P N o Γ σ K:=by
 subst hx;subst hc;subst hL;subst hσ
 exact zoU ho hk hK
theorem zW {t : TypeId} {x y : Operand} {oo k : Nat} {cs ys cs2 : List AV} {Y : AV} (ho : o.op = .store t x y) (hx : ev Γ x = .ptr oo k := by (try simp (disch := omega) only [go_sem, seval, ↓reduceIte, hU]) <;> rfl) (hs : σ[oo]? = some (.box cs) := by (try simp (disch := omega) only [go_sem, seval, ↓reduceIte, hU]) <;> rfl) (hu : (P.underlying t).isSome = true := by first | (simp (disch := omega) only [go_sem, seval, ↓reduceIte, hU]; done) | rfl) (hY : ev Γ y = Y := by (try simp (disch := omega) only [go_sem, seval, ↓reduceIte, hU]) <;> rfl) (hy : acells Y = ys := by (try simp (disch := omega) only [go_sem, seval, ↓reduceIte, hU]) <;> rfl)
    (hk:ys.all (okc σ)=true:=by first|(simp(disch:=omega)only[go_sem,seval,↓reduceIte,hU];done)|rfl) (hsz:ys.length=P.cellsOf t:=by first|(simp(disch:=omega)only[go_sem,seval,↓reduceIte,hU];done)|rfl) (hle:k+ys.length<=cs.length:=by first|(simp(disch:=omega)only[go_sem,seval,↓reduceIte,hU];done)|rfl) (hp:putCells cs k ys=cs2:=by(try simp(disch:=omega)only[go_sem,seval,↓reduceIte,hU])<;>rfl) (hσ:σ.set oo (.box cs2)=σ2:=by(try simp(disch:=omega)only[go_sem,seval,↓reduceIte,hU])<;>rfl) (hK:K .junk σ2):SOp P N o Γ σ K:=by
  subst hY;subst hy;subst hp;subst hσ
  exact zig ho hx hs hu hk hsz hle hK
theorem zcv {t : TypeId} {x y : Operand} {oo s i k e sz : Nat} {xs xs2 : List (List AV)} {q ys : List AV} {Y : AV} (ho : o.op = .store t x y) (hx : ev Γ x = .ep oo s i k := by (try simp (disch := omega) only [go_sem, seval, ↓reduceIte, hU]) <;> rfl) (hs : σ[oo]? = some (.row s e sz xs) := by (try simp (disch := omega) only [go_sem, seval, ↓reduceIte, hU]) <;> rfl) (hu : (P.underlying t).isSome = true := by first | (simp (disch := omega) only [go_sem, seval, ↓reduceIte, hU]; done) | rfl) (hY : ev Γ y = Y := by (try simp (disch := omega) only [go_sem, seval, ↓reduceIte, hU]) <;> rfl) (hy : acells Y = ys := by (try simp (disch := omega) only [go_sem, seval, ↓reduceIte, hU]) <;> rfl)
    (hq:xs[i]?=some q:=by first|rfl|(simp only[List.getElem?_map];simp only[*];rfl)|(simp(disch:=omega)only[go_sem,seval,↓reduceIte,hU];rfl)|fail) (hk:ys.all (okc σ)=true:=by first|(simp(disch:=omega)only[go_sem,seval,↓reduceIte,hU];done)|rfl) (hsz:ys.length=P.cellsOf t:=by first|(simp(disch:=omega)only[go_sem,seval,↓reduceIte,hU];done)|rfl) (hle:k+ys.length<=sz:=by first|(simp(disch:=omega)only[go_sem,seval,↓reduceIte,hU];done)|rfl) (hp:xs.set i (putCells q k ys)=xs2:=by(try simp(disch:=omega)only[go_sem,seval,↓reduceIte,hU])<;>rfl) (hσ:σ.set oo (.row s e sz xs2)=σ2:=by(try simp(disch:=omega)only[go_sem,seval,↓reduceIte,hU])<;>rfl) (hK:K .junk σ2):SOp P N o Γ σ K:=by
  subst hY;subst hy;subst hp;subst hσ
  exact zec ho hx hs hq hu hk hsz hle hK
theorem zZ {α : Type} {g : α -> List AV} {l : List α} {t e : TypeId} {x i : Operand} {f q : Bool} {k : IntKind} {j : Int} {J : Nat} {y : α} {cs : List AV} (ho : o.op = .indexAddr t x i) (ht : P.underlying t = some (.slice e) := by (try simp (disch := omega) only [go_sem, seval, ↓reduceIte, hU]) <;> rfl) (he : (P.underlying e).isSome = true := by first | (simp (disch := omega) only [go_sem, seval, ↓reduceIte, hU]; done) | rfl)
    (hx:ev Γ x=.sl f q (l.map g):=by(try simp(disch:=omega)only[go_sem,seval,↓reduceIte,hU])<;>rfl) (hi:ev Γ i=.lit (.int k j):=by(try simp(disch:=omega)only[go_sem,seval,↓reduceIte,hU])<;>rfl) (h0:0<=j:=by(try simp only[List.length_map,List.length_append,List.length_cons,List.length_nil,List.length_replicate,List.length_take,List.length_drop,List.length_set]);omega) (hJ:j.toNat=J:=by(try simp(disch:=omega)only[go_sem,seval,↓reduceIte,hU])<;>rfl) (hy:l[J]?=some y:=by first|assumption|exact List.getElem?_eq_getElem (by omega)|fail) (hg:g y=cs:=by(try simp(disch:=omega)only[go_sem,seval,↓reduceIte,hU])<;>rfl) (hl:cs.length=P.cellsOf e:=by first|(simp(disch:=omega)only[go_sem,seval,↓reduceIte,hU];done)|rfl) (hK:K (.ip q cs) σ):SOp P N o Γ σ K:=by
  subst hJ;subst hg
  exact zeX ho ht he hx hi h0 hy hl hK
theorem yG {t e : TypeId} {x i : Operand} {oo s e' sz : Nat} {xs : List (List AV)} {k : IntKind} {j : Int} {J : Nat} (ho : o.op = .indexAddr t x i) (ht : P.underlying t = some (.slice e) := by (try simp (disch := omega) only [go_sem, seval, ↓reduceIte, hU]) <;> rfl) (he : (P.underlying e).isSome = true := by first | (simp (disch := omega) only [go_sem, seval, ↓reduceIte, hU]; done) | rfl)
    (hx:ev Γ x=.row oo s:=by(try simp(disch:=omega)only[go_sem,seval,↓reduceIte,hU])<;>rfl) (hs:σ[oo]?=some (.row s e' sz xs):=by(try simp(disch:=omega)only[go_sem,seval,↓reduceIte,hU])<;>rfl) (hz:P.cellsOf e=sz:=by first|(simp(disch:=omega)only[go_sem,seval,↓reduceIte,hU];done)|rfl) (hi:ev Γ i=.lit (.int k j):=by(try simp(disch:=omega)only[go_sem,seval,↓reduceIte,hU])<;>rfl) (h0:0<=j:=by(try simp only[List.length_map,List.length_append,List.length_cons,List.length_nil,List.length_replicate,List.length_take,List.length_drop,List.length_set]);omega) (hJ:j.toNat=J:=by(try simp(disch:=omega)only[go_sem,seval,↓reduceIte,hU])<;>rfl) (hy:J<xs.length:=by(try simp only[List.length_map,List.length_append,List.length_cons,List.length_nil,List.length_replicate,List.length_take,List.length_drop,List.length_set]);omega) (hK:K (.ep oo s J 0) σ):SOp P N o Γ σ K:=by
  subst hJ;subst hz
  exact zcW ho ht he hx hs hi h0 (by omega) hK
theorem zcw {t e : TypeId} {x i : Operand} {oo s e' sz i0 n0 : Nat} {xs : List (List AV)} {k : IntKind} {j : Int} {J : Nat} (ho : o.op = .indexAddr t x i) (ht : P.underlying t = some (.slice e) := by (try simp (disch := omega) only [go_sem, seval, ↓reduceIte, hU]) <;> rfl) (he : (P.underlying e).isSome = true := by first | (simp (disch := omega) only [go_sem, seval, ↓reduceIte, hU]; done) | rfl)
    (hx:ev Γ x=.vw oo s i0 n0:=by(try simp(disch:=omega)only[go_sem,seval,↓reduceIte,hU])<;>rfl) (hs:σ[oo]?=some (.row s e' sz xs):=by(try simp(disch:=omega)only[go_sem,seval,↓reduceIte,hU])<;>rfl) (hz:P.cellsOf e=sz:=by first|(simp(disch:=omega)only[go_sem,seval,↓reduceIte,hU];done)|rfl) (hi:ev Γ i=.lit (.int k j):=by(try simp(disch:=omega)only[go_sem,seval,↓reduceIte,hU])<;>rfl) (h0:0<=j:=by(try simp only[List.length_map,List.length_append,List.length_cons,List.length_nil,List.length_replicate,List.length_take,List.length_drop,List.length_set]);omega) (hJ:j.toNat=J:=by(try simp(disch:=omega)only[go_sem,seval,↓reduceIte,hU])<;>rfl) (hy:J<n0:=by(try simp only[List.length_map,List.length_append,List.length_cons,List.length_nil,List.length_replicate,List.length_take,List.length_drop,List.length_set]);omega) (hK:K (.ep oo s (i0+J) 0) σ):SOp P N o Γ σ K:=by
  subst hJ;subst hz
  exact zea ho ht he hx hs hi h0 (by omega) hK
def zvT(x:AV)(d:Nat): Option AV:=
 match x with
 | .ptr o k=>some (.ptr o (k+d))
 | .ep o s i k=>some (.ep o s i (k+d))
 | .ip q cs=>some (.ip q (cs.drop d))
 | _=>none
theorem zz {t e len : Nat} {x i : Operand} {k : IntKind} {j : Int} {J d : Nat} {X y : AV} (ho : o.op = .indexAddr t x i) (ht : P.underlying t = some (.array len e) := by (try simp (disch := omega) only [go_sem, seval, ↓reduceIte, hU]) <;> rfl) (he : (P.underlying e).isSome = true := by first | (simp (disch := omega) only [go_sem, seval, ↓reduceIte, hU]; done) | rfl) (hX : ev Γ x = X := by (try simp (disch := omega) only [go_sem, seval, ↓reduceIte, hU]) <;> rfl) (hal : zaP σ X = true := by first | (simp (disch := omega) only [go_sem, seval, ↓reduceIte, hU]; done) | rfl)
    (hi:ev Γ i=.lit (.int k j):=by(try simp(disch:=omega)only[go_sem,seval,↓reduceIte,hU])<;>rfl) (h0:0<=j:=by(try simp only[List.length_map,List.length_append,List.length_cons,List.length_nil,List.length_replicate,List.length_take,List.length_drop,List.length_set]);omega) (hJ:j.toNat=J:=by(try simp(disch:=omega)only[go_sem,seval,↓reduceIte,hU])<;>rfl) (hlt:J<len:=by(try simp only[List.length_map,List.length_append,List.length_cons,List.length_nil,List.length_replicate,List.length_take,List.length_drop,List.length_set]);omega) (hd:J*P.cellsOf e=d:=by(try simp(disch:=omega)only[go_sem,seval,↓reduceIte,hU])<;>rfl) (hy:zvT X d=some y:=by simp(disch:=omega)only[zvT,go_sem,seval,↓reduceIte,hU];rfl) (hK:K y σ):SOp P N o Γ σ K:=by
  refine SOp.pure _ (fun ρ w a hf hr=>?_) hK
  obtain⟨ad,had⟩:=zbn (x:=x) (by rw[hX];exact hal) hf hr
  have hx:=hf.ev x
  rw[hX]at hx
  obtain⟨D,hD⟩:=z2 he
  have hj:0<=j/\j<(len:Int):=⟨h0,by omega⟩
  have hrun:(execOp a.eval o).run P w=.ok (.value (.pointer (some (ad.add d)))) w:=by
    have:j.toNat*P.cellsOf e=d:=by rw[hJ];exact hd
    simp[execOp,ho,had,hf.lit hi,Instr.indexAt,asIntOf,zn ht,Instr.sureAddr,hj,zE hD,this]
  refine⟨_,hrun,?_⟩
  unfold zvT at hy
  split at hy
  · rename_i oo kk
    simp only[Option.some.injEq]at hy
    subst hy
    simp only[VR]at hx ⊢
    refine⟨hx.1,fun cs hs=>?_⟩
    obtain⟨b,hb,he⟩:=hx.2 cs hs
    rw[had]at he
    simp at he
    subst he
    exact⟨b,hb,by rw[zQ]⟩
  · rename_i oo s i' kk
    simp only[Option.some.injEq]at hy
    subst hy
    simp only[VR]at hx ⊢
    refine⟨hx.1,fun s' e' sz xs hs=>?_⟩
    obtain⟨h1,h2⟩:=hx.2 s' e' sz xs hs
    refine⟨h1,fun ee=>?_⟩
    obtain⟨b,n,c,hb,he⟩:=h2 ee
    rw[had]at he
    simp at he
    subst he
    exact⟨b,n,c,hb,by rw[zQ,Nat.add_assoc]⟩
  · rename_i q cs
    simp only[Option.some.injEq]at hy
    subst hy
    simp only[VR]at hx ⊢
    obtain⟨b,o',he,hb,hm,hp⟩:=hx
    rw[had]at he
    simp at he
    subst he
    exact⟨b,o'+d,by rw[zQ],hb,hm,jS _ _ _ _ hp⟩
  · cases hy
theorem z8 {α : Type} {g : α -> List AV} {l l2 : List α} {t e : TypeId} {x : Operand} {lo hi : Option Operand} {f q : Bool} {L H : Int} {L2 H2 : Nat} (ho : o.op = .slice t x lo hi none) (ht : P.underlying t = some (.slice e) := by (try simp (disch := omega) only [go_sem, seval, ↓reduceIte, hU]) <;> rfl) (he : (P.underlying e).isSome = true := by first | (simp (disch := omega) only [go_sem, seval, ↓reduceIte, hU]; done) | rfl)
    (hx:ev Γ x=.sl f q (l.map g):=by(try simp(disch:=omega)only[go_sem,seval,↓reduceIte,hU])<;>rfl) (hg:∀a,(g a).length=P.cellsOf e)
    (hlo:(lo=none/\L=0)\/∃y k,lo=some y/\ev Γ y=.lit (.int k L):=by first|exact .inl ⟨rfl,rfl⟩|exact .inr ⟨_,_,rfl,(by(try simp(disch:=omega)only[go_sem,seval,↓reduceIte,hU])<;>rfl)⟩|fail) (hhi:(hi=none/\H=l.length)\/∃y k,hi=some y/\ev Γ y=.lit (.int k H):=by first|exact .inl ⟨rfl,rfl⟩|exact .inr ⟨_,_,rfl,(by(try simp(disch:=omega)only[go_sem,seval,↓reduceIte,hU])<;>rfl)⟩|fail)
    (h0:0<=L:=by(try simp only[List.length_map,List.length_append,List.length_cons,List.length_nil,List.length_replicate,List.length_take,List.length_drop,List.length_set]);omega) (h1:L<=H:=by(try simp only[List.length_map,List.length_append,List.length_cons,List.length_nil,List.length_replicate,List.length_take,List.length_drop,List.length_set]);omega) (h2:H<=l.length:=by(try simp only[List.length_map,List.length_append,List.length_cons,List.length_nil,List.length_replicate,List.length_take,List.length_drop,List.length_set]);omega) (hL:L.toNat=L2:=by(try simp(disch:=omega)only[go_sem,seval,↓reduceIte,hU])<;>rfl) (hH:H.toNat=H2:=by(try simp(disch:=omega)only[go_sem,seval,↓reduceIte,hU])<;>rfl) (hl:(l.take H2).drop L2=l2:=by(try simp(disch:=omega)only[go_sem,seval,↓reduceIte,hU])<;>rfl) (hK:K (.sl false q (l2.map g)) σ):SOp P N o Γ σ K:=by
  subst hL;subst hH;subst hl
  exact zeW ho ht he hx hg hlo hhi h0 h1 h2 hK
theorem ze4 {t e : TypeId} {x : Operand} {lo hi : Option Operand} {oo s e' sz i0 n0 : Nat} {xs : List (List AV)} {L H : Int} {L2 H2 : Nat} {X : AV} (ho : o.op = .slice t x lo hi none) (ht : P.underlying t = some (.slice e) := by (try simp (disch := omega) only [go_sem, seval, ↓reduceIte, hU]) <;> rfl) (he : (P.underlying e).isSome = true := by first | (simp (disch := omega) only [go_sem, seval, ↓reduceIte, hU]; done) | rfl)
    (hX:ev Γ x=X:=by(try simp(disch:=omega)only[go_sem,seval,↓reduceIte,hU])<;>rfl) (hx:(X=.row oo s/\i0=0/\n0=xs.length)\/(X=.vw oo s i0 n0):=by first|exact .inl ⟨rfl,rfl,rfl⟩|exact .inr rfl|fail) (hs:σ[oo]?=some (.row s e' sz xs):=by(try simp(disch:=omega)only[go_sem,seval,↓reduceIte,hU])<;>rfl) (hz:P.cellsOf e=sz:=by first|(simp(disch:=omega)only[go_sem,seval,↓reduceIte,hU];done)|rfl)
    (hlo:(lo=none/\L=0)\/∃y k,lo=some y/\ev Γ y=.lit (.int k L):=by first|exact .inl ⟨rfl,rfl⟩|exact .inr ⟨_,_,rfl,(by(try simp(disch:=omega)only[go_sem,seval,↓reduceIte,hU])<;>rfl)⟩|fail) (hhi:(hi=none/\H=n0)\/∃y k,hi=some y/\ev Γ y=.lit (.int k H):=by first|exact .inl ⟨rfl,rfl⟩|exact .inr ⟨_,_,rfl,(by(try simp(disch:=omega)only[go_sem,seval,↓reduceIte,hU])<;>rfl)⟩|fail)
    (h0:0<=L:=by(try simp only[List.length_map,List.length_append,List.length_cons,List.length_nil,List.length_replicate,List.length_take,List.length_drop,List.length_set]);omega) (h1:L<=H:=by(try simp only[List.length_map,List.length_append,List.length_cons,List.length_nil,List.length_replicate,List.length_take,List.length_drop,List.length_set]);omega) (h2:H<=n0:=by(try simp only[List.length_map,List.length_append,List.length_cons,List.length_nil,List.length_replicate,List.length_take,List.length_drop,List.length_set]);omega) (hL:i0+L.toNat=L2:=by(try simp(disch:=omega)only[go_sem,seval,↓reduceIte,hU])<;>rfl) (hH:H.toNat-L.toNat=H2:=by(try simp(disch:=omega)only[go_sem,seval,↓reduceIte,hU])<;>rfl) (hK:K (.vw oo s L2 H2) σ):SOp P N o Γ σ K:=by
  subst hX;subst hz;subst hL;subst hH
  exact zcX ho ht he hx hs hlo hhi h0 h1 h2 hK
theorem zM{x y:Operand}{t e sz bt oo s s2:Nat}{z:Value}{xs ys xs2:List (List AV)}{Y:AV}
    (ho:o.op=.call { callee:=.builtin .append,args:=#[x,y],argTypes:=#[t,t] }) (ht:P.underlying t=some (.slice e):=by(try simp(disch:=omega)only[go_sem,seval,↓reduceIte,hU])<;>rfl) (he:EO P e sz bt z)
    (hx:ev Γ x=.row oo s:=by(try simp(disch:=omega)only[go_sem,seval,↓reduceIte,hU])<;>rfl) (hs:σ[oo]?=some (.row s e sz xs):=by(try simp(disch:=omega)only[go_sem,seval,↓reduceIte,hU])<;>rfl) (hY:ev Γ y=Y:=by(try simp(disch:=omega)only[go_sem,seval,↓reduceIte,hU])<;>rfl) (hy:rd σ Y=some ys:=by(try simp(disch:=omega)only[go_sem,seval,↓reduceIte,hU])<;>rfl) (hys:∀y∈ys,y.length=sz:=by first|(intro y hy;simp only[List.mem_map]at hy;obtain⟨_,_,rfl⟩:=hy;rfl)|(simp;done)) (hb:(xs.length+ys.length)*bt<=140737488355328:=by(try simp only[List.length_map,List.length_append,List.length_cons,List.length_nil,List.length_replicate,List.length_take,List.length_drop,List.length_set]);omega) (h63:xs.length+ys.length<=9223372036854775807:=by(try simp only[List.length_map,List.length_append,List.length_cons,List.length_nil,List.length_replicate,List.length_take,List.length_drop,List.length_set]);omega)
    (hs2:s+1=s2:=by(try simp(disch:=omega)only[go_sem,seval,↓reduceIte,hU])<;>rfl) (hxs:xs++ys=xs2:=by(try simp(disch:=omega)only[go_sem,seval,↓reduceIte,hU])<;>rfl) (hσ:σ.set oo (.row s2 e sz xs2)=σ2:=by(try simp(disch:=omega)only[go_sem,seval,↓reduceIte,hU])<;>rfl) (hK:K (.row oo s2) σ2):SOp P N o Γ σ K:=by
  subst hY;subst hs2;subst hxs;subst hσ
  exact zcc ho ht he hx hs hy hys hb h63 hK
theorem zaF{x y:Operand}{t e sz bt L:Nat}{z:Value}{q:Bool}{xs ys xs2:List (List AV)}{Y:AV}
    (ho:o.op=.call { callee:=.builtin .append,args:=#[x,y],argTypes:=#[t,t] }) (ht:P.underlying t=some (.slice e):=by(try simp(disch:=omega)only[go_sem,seval,↓reduceIte,hU])<;>rfl) (he:EO P e sz bt z)
    (hx:ev Γ x=.sl true q xs:=by(try simp(disch:=omega)only[go_sem,seval,↓reduceIte,hU])<;>rfl) (hY:ev Γ y=Y:=by(try simp(disch:=omega)only[go_sem,seval,↓reduceIte,hU])<;>rfl) (hy:rd σ Y=some ys:=by(try simp(disch:=omega)only[go_sem,seval,↓reduceIte,hU])<;>rfl) (hne:xs=[]\/ys≠[]:=by first|exact .inl rfl|exact .inr (by simp)|exact .inr (by assumption)|fail) (hxl:∀x∈xs,x.length=sz:=by first|(intro y hy;simp only[List.mem_map]at hy;obtain⟨_,_,rfl⟩:=hy;rfl)|(simp;done)) (hys:∀y∈ys,y.length=sz:=by first|(intro y hy;simp only[List.mem_map]at hy;obtain⟨_,_,rfl⟩:=hy;rfl)|(simp;done)) (hb:(xs.length+ys.length)*bt<=140737488355328:=by(try simp only[List.length_map,List.length_append,List.length_cons,List.length_nil,List.length_replicate,List.length_take,List.length_drop,List.length_set]);omega) (h63:xs.length+ys.length<=9223372036854775807:=by(try simp only[List.length_map,List.length_append,List.length_cons,List.length_nil,List.length_replicate,List.length_take,List.length_drop,List.length_set]);omega)
    (hxs:xs++ys=xs2:=by(try simp(disch:=omega)only[go_sem,seval,↓reduceIte,hU])<;>rfl) (hL:σ.length=L:=by(try simp(disch:=omega)only[go_sem,seval,↓reduceIte,hU])<;>rfl) (hσ:σ++[.row 0 e sz xs2]=σ2:=by(try simp(disch:=omega)only[go_sem,seval,↓reduceIte,hU])<;>rfl) (hK:K (.row L 0) σ2):SOp P N o Γ σ K:=by
  subst hY;subst hxs;subst hL;subst hσ
  exact zcb ho ht he hx hne hy hxl hys hb h63 hK
theorem znP {t e sz bt L n : Nat} {z : Value} {x y : Operand} {k k' : IntKind} {l c : Int} {zs : List AV} (ho : o.op = .makeSlice t x y) (ht : P.underlying t = some (.slice e) := by (try simp (disch := omega) only [go_sem, seval, ↓reduceIte, hU]) <;> rfl) (he : EO P e sz bt z)
    (hx:ev Γ x=.lit (.int k l):=by(try simp(disch:=omega)only[go_sem,seval,↓reduceIte,hU])<;>rfl) (hy:ev Γ y=.lit (.int k' c):=by(try simp(disch:=omega)only[go_sem,seval,↓reduceIte,hU])<;>rfl) (h0:0<=l:=by(try simp only[List.length_map,List.length_append,List.length_cons,List.length_nil,List.length_replicate,List.length_take,List.length_drop,List.length_set]);omega) (hlc:l<=c:=by(try simp only[List.length_map,List.length_append,List.length_cons,List.length_nil,List.length_replicate,List.length_take,List.length_drop,List.length_set]);omega) (hb:bt*c<=281474976710656:=by(try simp only[List.length_map,List.length_append,List.length_cons,List.length_nil,List.length_replicate,List.length_take,List.length_drop,List.length_set]);omega) (h63:c<=9223372036854775807:=by(try simp only[List.length_map,List.length_append,List.length_cons,List.length_nil,List.length_replicate,List.length_take,List.length_drop,List.length_set]);omega)
    (h1:z.cells.toList.all (fun v=>v.oneCell')=true:=by first|(simp(disch:=omega)only[go_sem,seval,↓reduceIte,hU];done)|rfl) (hn:l.toNat=n:=by(try simp(disch:=omega)only[go_sem,seval,↓reduceIte,hU])<;>rfl) (hz:z.cells.toList.map alit=zs:=by(try simp(disch:=omega)only[go_sem,seval,↓reduceIte,hU])<;>rfl) (hL:σ.length=L:=by(try simp(disch:=omega)only[go_sem,seval,↓reduceIte,hU])<;>rfl) (hσ:σ++[.row 0 e sz (List.replicate n zs)]=σ2:=by(try simp(disch:=omega)only[go_sem,seval,↓reduceIte,hU])<;>rfl) (hK:K (.row L 0) σ2):SOp P N o Γ σ K:=by
  subst hn;subst hz;subst hL;subst hσ
  exact zlC ho ht he hx hy h0 hlc hb h63 h1 hK
theorem znQ {t t' e : TypeId} {x y : Operand} {oo s sz m : Nat} {xs ys xs2 : List (List AV)} {Y : AV} (ho : o.op = .call { callee := .builtin .copy, args := #[x, y], argTypes := #[t, t'] }) (ht : P.underlying t = some (.slice e) := by (try simp (disch := omega) only [go_sem, seval, ↓reduceIte, hU]) <;> rfl) (he : (P.underlying e).isSome = true := by first | (simp (disch := omega) only [go_sem, seval, ↓reduceIte, hU]; done) | rfl)
    (hx:ev Γ x=.row oo s:=by(try simp(disch:=omega)only[go_sem,seval,↓reduceIte,hU])<;>rfl) (hs:σ[oo]?=some (.row s e sz xs):=by(try simp(disch:=omega)only[go_sem,seval,↓reduceIte,hU])<;>rfl) (hcs:P.cellsOf e=sz:=by first|(simp(disch:=omega)only[go_sem,seval,↓reduceIte,hU];done)|rfl) (hY:ev Γ y=Y:=by(try simp(disch:=omega)only[go_sem,seval,↓reduceIte,hU])<;>rfl) (hy:rd σ Y=some ys:=by(try simp(disch:=omega)only[go_sem,seval,↓reduceIte,hU])<;>rfl) (hys:∀y∈ys,y.length=sz:=by first|(intro y hy;simp only[List.mem_map]at hy;obtain⟨_,_,rfl⟩:=hy;rfl)|(simp;done))
    (hm:min ys.length xs.length=m:=by(try simp(disch:=omega)only[go_sem,seval,↓reduceIte,hU])<;>rfl) (hxs:ys.take xs.length++xs.drop ys.length=xs2:=by(try simp(disch:=omega)only[go_sem,seval,↓reduceIte,hU])<;>rfl) (hσ:σ.set oo (.row s e sz xs2)=σ2:=by(try simp(disch:=omega)only[go_sem,seval,↓reduceIte,hU])<;>rfl) (hK:K (.lit (.int .i64 m)) σ2):SOp P N o Γ σ K:=by
  subst hY;subst hm;subst hxs;subst hσ
  exact zlD ho ht he hx hs hcs hy hys hK
theorem zc3 {s d e : TypeId} {x : Operand} {X : AV} {l : List UInt8} (ho : o.op = .convert s d x) (hs : P.underlying s = some (.slice e) := by (try simp (disch := omega) only [go_sem, seval, ↓reduceIte, hU]) <;> rfl) (he : P.underlying e = some (.int .u8) := by first | (simp (disch := omega) only [go_sem, seval, ↓reduceIte, hU]; done) | rfl) (hd : P.underlying d = some .string := by first | (simp (disch := omega) only [go_sem, seval, ↓reduceIte, hU]; done) | rfl)
    (hX:ev Γ x=X:=by(try simp(disch:=omega)only[go_sem,seval,↓reduceIte,hU])<;>rfl) (hx:rd σ X=some (jl l):=by simp only[rd];rfl) (hK:K (.lit (.string ⟨l.toArray⟩)) σ):SOp P N o Γ σ K:=by
  subst hX
  exact zhv ho hs he hd hx hK
/-! literals of structs,arrays and slices -/
def zrQ(place:Nat->Option (Nat×Nat)): Nat->List (Nat×Nat)->Bool
 | _,[]=>true
 | k,p::pl=>(place k == some p) && zrQ place (k+1) pl
theorem zf2{place:Nat->Option (Nat×Nat)}: ∀(pl:List (Nat×Nat)) (k:Nat),zrQ place k pl=true->∀i p,pl[i]?=some p->place (k+i)=some p
 | [],_,_,i,p,h=>by simp at h
 | q::pl,k,h,0,p,hp=>by simp only[zrQ,Bool.and_eq_true]at h;simp at hp;subst hp;simpa using h.1
 | q::pl,k,h,i+1,p,hp=>by
  simp only[zrQ,Bool.and_eq_true]at h
  have:=zf2 pl (k+1) h.2 i p (by simpa using hp)
  rw[show k+(i+1)=k+1+i from by omega];exact this
def BD(P:Program)(t:TypeId)(zs:List Value)(pl:List (Nat×Nat)): Prop:=
 ((P.info? t).bind fun i=>i.zero.map fun z=>z.cells.toList)=some zs/\zs.all (fun v=>v.oneCell')=true/\(match ziu P t with|some place=>zrQ place 0 pl|none=>false)=true
def zhx(pl:List (Nat×Nat)): List AV->List (Nat×AV)->Option (List AV)
 | cells,[]=>some cells
 | cells,(i,x)::rest=>
  match pl[i]? with
  | some (off,size)=>if(acells x).length=size/\off+size<=cells.length then zhx pl (putCells cells off (acells x)) rest else none
  | none=>none
theorem zbx{place:Nat->Option (Nat×Nat)}{pl:List (Nat×Nat)}(h:zrQ place 0 pl=true): ∀(ps:List (Nat×AV)) (cells out:List AV),zhx pl cells ps=some out->ke place cells ps=some out
 | [],_,_,e=>by simpa[zhx,ke]using e
 | (i,x)::rest,cells,out,e=>by
  simp only[zhx]at e
  split at e
  ·rename_i off size hp
   have:=zf2 pl 0 h i _ hp
   rw[Nat.zero_add]at this
   simp only[ke,this]
   split at e
   ·rename_i hc
    rw[if_pos hc]
    exact zbx h rest _ _ e
   ·cases e
  ·cases e
theorem vM {t : TypeId} {parts : Array (Nat × Operand)} {zs : List Value} {zs2 out : List AV} {pl : List (Nat × Nat)} {ps : List (Nat × AV)} (ho : o.op = .build t parts) (hB : BD P t zs pl) (hz : zs.map alit = zs2 := by (try simp (disch := omega) only [go_sem, seval, ↓reduceIte, hU]) <;> rfl) (hps : parts.toList.map (fun p => (p.1, ev Γ p.2)) = ps := by (try simp (disch := omega) only [go_sem, seval, ↓reduceIte, hU]) <;> rfl)
    (hf:zhx pl zs2 ps=some out:=by(try simp(disch:=omega)only[go_sem,seval,↓reduceIte,hU])<;>rfl) (hk:ps.all (fun p=>(acells p.2).all (okc σ))=true:=by first|(simp(disch:=omega)only[go_sem,seval,↓reduceIte,hU];done)|rfl) (hK:K (.ag out) σ):SOp P N o Γ σ K:=by
  subst hz;subst hps
  obtain⟨h1,h2,h3⟩:=hB
  obtain⟨z,hz1,hz2⟩:∃z,(P.info? t).bind (·.zero)=some z/\z.cells.toList=zs:=by
    cases hi:P.info? t with
    | none=>rw[hi]at h1;simp at h1
    | some i=>
      rw[hi]at h1
      cases hz0:i.zero with
      | none=>simp[hz0]at h1
      | some z=>simp[hz0]at h1;exact⟨z,hz0,h1⟩
  split at h3
  · rename_i place hpl
    refine ziv ho hz1 hz2 h2 hpl (zbx h3 _ _ _ hf) ?_ hK
    simpa[List.all_map]using hk
  · cases h3
theorem ks {t e sz bt n : Nat} {z : Value} {parts : Array (Nat × Operand)} {ps : List (Nat × AV)} {zs out : List AV} {xs : List (List AV)} (ho : o.op = .buildSlice t n parts) (ht : P.underlying t = some (.slice e) := by (try simp (disch := omega) only [go_sem, seval, ↓reduceIte, hU]) <;> rfl) (he : EO P e sz bt z)
    (h1:z.cells.toList.all (fun v=>v.oneCell')=true:=by first|(simp(disch:=omega)only[go_sem,seval,↓reduceIte,hU];done)|rfl) (hn:n*sz<=16777216:=by first|(simp(disch:=omega)only[go_sem,seval,↓reduceIte,hU];done)|rfl) (hz:(List.replicate n (z.cells.toList.map alit)).flatten=zs:=by(try simp(disch:=omega)only[go_sem,seval,↓reduceIte,hU])<;>rfl) (hps:parts.toList.map (fun p=>(p.1,ev Γ p.2))=ps:=by(try simp(disch:=omega)only[go_sem,seval,↓reduceIte,hU])<;>rfl) (hf:ke (fun i=>some (i*sz,sz)) zs ps=some out:=by(try simp(disch:=omega)only[go_sem,seval,↓reduceIte,hU])<;>rfl)
    (hk:ps.all (fun p=>(acells p.2).all (okc σ))=true:=by first|(simp(disch:=omega)only[go_sem,seval,↓reduceIte,hU];done)|rfl) (hp:y9 out=true:=by first|(simp(disch:=omega)only[go_sem,seval,↓reduceIte,hU];done)|rfl) (hc:cutE sz n out=xs:=by(try simp(disch:=omega)only[go_sem,seval,↓reduceIte,hU])<;>rfl) (hK:K (.sl true false xs) σ):SOp P N o Γ σ K:=by
  subst hz;subst hps;subst hc
  exact zcd ho ht he h1 hn hf (by simpa[List.all_map]using hk) hp hK
end n
/-! calls by a contract over few objects -/
theorem AEq.sub' {P : Program} {f : FuncId} {args cargs : List AV} {σ τ τ' σ2 : Sto} {r r2 : AV} {Q : AV -> Sto -> Prop} (π : List Nat) (ha : Argl π τ σ args cargs := by first | ((repeat' (first | exact trivial | (first | exact zi | exact zq id id | exact vb | exact zq (by simp) id | exact zq (by simp) (fun _ => rfl) | exact z0 (by rfl) (by rfl) (fun _ => rfl) | exact yu (by rfl) (by rfl) (fun _ => rfl) | exact zD (by rfl) (by rfl) | exact yr | exact zcy (by rfl) (by rfl) (fun _ => rfl)) | refine ⟨?_, ?_⟩)); done) | fail) (hs : SubOk π τ σ := by first | (refine SubOk.mk' ?_ (by first | ((repeat' (first | exact trivial | refine ⟨by rfl, by first | rfl | exact ze (fun _ => rfl) _, ?_⟩)); done) | fail); rfl) | fail) (hc : AEq P f cargs τ r τ')
    (hn:nb r=true:=by first|(simp(disch:=omega)only[go_sem,seval,↓reduceIte,hU];done)|rfl) (ho:τ'.all okP=true:=by first|rfl|(simp(disch:=omega)only[List.all_cons,List.all_nil,okP,Bool.and_self,go_sem,seval];done)) (hr:rn (ix π σ.length) r=r2:=by(try simp(disch:=omega)only[go_sem,seval,↓reduceIte,hU])<;>rfl) (hm:mrg π σ τ'=σ2:=by(try simp(disch:=omega)only[go_sem,seval,↓reduceIte,hU])<;>rfl) (hq:Q r2 σ2):ACall P f args σ Q:=by
  subst hr;subst hm
  exact AEq.sub π hs ha hc hn ho hq
theorem AEq.pure' {P : Program} {f : FuncId} {args cargs : List AV} {σ : Sto} {r r2 : AV} {Q : AV -> Sto -> Prop} (ha : Argl [] [] σ args cargs := by first | ((repeat' (first | exact trivial | (first | exact zi | exact zq id id | exact vb | exact zq (by simp) id | exact zq (by simp) (fun _ => rfl) | exact z0 (by rfl) (by rfl) (fun _ => rfl) | exact yu (by rfl) (by rfl) (fun _ => rfl) | exact zD (by rfl) (by rfl) | exact yr) | refine ⟨?_, ?_⟩)); done) | fail) (hc : AEq P f cargs [] r [])
    (hn:nb r=true:=by first|(simp(disch:=omega)only[go_sem,seval,↓reduceIte,hU];done)|rfl) (hr:rn (ix [] σ.length) r=r2:=by(try simp(disch:=omega)only[go_sem,seval,↓reduceIte,hU])<;>rfl) (hq:Q r2 σ):ACall P f args σ Q:=by
  subst hr
  exact AEq.pure hc ha hn hq
theorem z0{α:Type}{g:α->List AV}{l:List α}{π:List Nat}{τ σ:Sto}{o s e sz:Nat}(ho:σ[o]?=some (.row s e sz (l.map g)))(hp:ka π o=none)(hg:∀a,y9 (g a)=true): Arg π τ σ (.row o s) (.sl false true (l.map g)):=
 zpb ho hp (ze hg l)
theorem vb{α:Type}{g:α->List AV}{π:List Nat}{τ σ:Sto}{f q:Bool}: Arg π τ σ (.sl f q []) (.sl f q (([]:List α).map g)):=zq id id
theorem yu{α:Type}{g:α->List AV}{l:List α}{π:List Nat}{τ σ:Sto}{o s e sz i n:Nat}(ho:σ[o]?=some (.row s e sz (l.map g)))(hp:ka π o=none)(hg:∀a,y9 (g a)=true): Arg π τ σ (.vw o s i n) (.sl false true (((l.drop i).take n).map g)):=by
 have:=zsK (i:=i) (n:=n) (τ:=τ) ho hp (ze hg l)
 rwa [<-List.map_drop,<-List.map_take]at this
theorem zph{k m:Nat}{π:List Nat}: ix (k::π) m 0=k:=rfl
theorem zpi{k m j:Nat}{π:List Nat}: ix (k::π) m (j+1)=ix π m j:=by simp[ix]
theorem zsN{m j:Nat}: ix [] m j=m+j:=by simp[ix]
/-! loops: what a round writes,and the rest as it was -/
def yN(mods:List Nat): Env:=mods.map fun t=>(t,.junk)
def zpj(mods:List Nat)(Γ' Γ:Env): Prop:=∀i,i ∉ mods->get Γ' i=get Γ i
theorem za5{mods:List Nat}{Γ:Env}: zpj mods Γ Γ:=fun _ _=>rfl
theorem zlT{mods:List Nat}{Γ' Γ:Env}{k:Nat}{x:AV}(hk:mods.contains k=true)(h:zpj mods Γ' Γ): zpj mods ((k,x)::Γ') Γ:=by
 intro i hi
 simp only[get]
 split
 ·rename_i e;subst e;exact absurd (by simpa using hk) hi
 ·exact h i hi
theorem zc4: ∀(mods:List Nat) (Γ:Env) (i:Nat),get (yN mods++Γ) i=if i∈mods then .junk else get Γ i
 | [],Γ,i=>by simp[yN]
 | k::mods,Γ,i=>by
  have:=zc4 mods Γ i
  simp only[yN,List.map_cons,List.cons_append,get]at this ⊢
  by_cases h:i=k
  ·subst h;simp
  ·rw[if_neg h,this];simp[h]
def LeE: Env->Env->Prop
 | [],_=>True
 | (i,x)::r,Γ=>(∃y,get Γ i=y/\Ale1 y x)/\LeE r Γ
theorem zao{N n:Nat}{mods:List Nat}{Γ' Γ E:Env}{σ:Sto}(h1:LeE E Γ')(h2:zpj mods Γ' Γ): Wk N n Γ' σ (E++(yN mods++Γ)) σ:=by
 intro ρ w a hn hf hr
 refine⟨ρ,⟨hf.1,hf.2.1,?_⟩,hr,.refl _ _ _ _ hn⟩
 have key:∀(E:Env),LeE E Γ'->∀i,VR σ ρ w (get (E++(yN mods++Γ)) i) (a.tmps.getD i undef):=by
  intro E
  induction E with
  | nil=>
   intro _ i
   rw[List.nil_append,zc4]
   split
   ·simp[VR]
   ·rename_i hi
    rw[<-h2 i hi];exact hf.2.2 i
  | cons p E ih=>
   obtain⟨k,x⟩:=p
   intro h i
   simp only[LeE]at h
   simp only[List.cons_append,get]
   split
   ·rename_i e
    subst e
    obtain⟨⟨y,hy,hl⟩,_⟩:=h
    have:=hf.2.2 i
    rw[hy]at this
    exact hl.VR this
   ·exact ih h.2 i
 exact key E h1
theorem zO{P:Program}{N n:Nat}{S:Type}{c:Code}{Γ:Env}{σ:Sto}{Q:Exit->Env->Sto->Prop}(mods:List Nat)(E:S->Env)(T:S->Sto)(R:S->Prop)(μ:S->Nat)(s0:S)(hR:R s0)(h0:LeE (E s0) Γ)(hT:σ=T s0)
    (round:∀s,R s->PWp P N n c (E s++(yN mods++Γ)) (T s) (yk (fun Γ' σ'=>∃s',R s'/\μ s'<μ s/\LeE (E s') Γ'/\zpj mods Γ' Γ/\σ'=T s') Q)):PWp P N n (.loop c) Γ σ Q:=by
  refine zal (fun s=>E s++(yN mods++Γ)) T R μ s0 hR (by rw[<-hT];exact zao h0 za5) (fun s hs=>(round s hs).mono ?_)
  intro e Γ' σ' q
  cases e with
  | normal=>
    obtain⟨s',h1,h2,h3,h4,rfl⟩:=q
    exact⟨s',h1,h2,zao h3 h4⟩
  | exit id=>exact q
  | goto l=>exact q
  | ret=>exact q
  | panic ch=>exact q
  | outgrown=>exact q
theorem zhy: ∀(κ:List Nat) (L o:Nat),κ.take L=List.range L->o<L->κ.Nodup->ka κ o=some o:=by
 intro κ L o h ho hn
 have h1:κ[o]?=some o:=by
  have:(κ.take L)[o]?=some o:=by rw[h];simp[ho]
  rw[List.getElem?_take]at this
  simpa[ho]using this
 exact vL _ _ _ hn h1
mutual
theorem zpk{κ:List Nat}{σ:Sto}{L:Nat}(hp:∀o,o<L->ka κ o=some o): ∀x,scp L x=true->fz κ σ x=x
 | .junk,_=>rfl
 | .lit _,_=>rfl
 | .sl _ _ _,_=>rfl
 | .ip _ _,_=>rfl
 | .row o s,h=>by simp[scp]at h;simp[fz,hp o h]
 | .vw o s i n,h=>by simp[scp]at h;simp[fz,hp o h]
 | .ptr o s,h=>by simp[scp]at h;simp[fz,hp o h]
 | .ep o s i k,h=>by simp[scp]at h;simp[fz,hp o h]
 | .ag xs,h=>by simp only[scp]at h;simp only[fz,zf3 hp xs h]
 | .tu xs,h=>by simp only[scp]at h;simp only[fz,zf3 hp xs h]
 | .fn _ xs,h=>by simp only[scp]at h;simp only[fz,zf3 hp xs h]
 | .mref o,h=>by simp[scp]at h;simp[fz,hp o h]
 | .gd g x,h=>by simp only[scp]at h;simp only[fz,zpk hp x h]
theorem zf3{κ:List Nat}{σ:Sto}{L:Nat}(hp:∀o,o<L->ka κ o=some o): ∀xs,zad L xs=true->fzl κ σ xs=xs
 | [],_=>rfl
 | x::xs,h=>by simp only[zad,Bool.and_eq_true]at h;simp only[fzl,zpk hp x h.1,zf3 hp xs h.2]
end
theorem vZ{P:Program}{N n:Nat}{S:Type}{c:Code}{Γ:Env}{σ:Sto}{Q:Exit->Env->Sto->Prop}(mods:List Nat)(κ:List Nat)(E:S->Env)(T:S->Sto)(R:S->Prop)(μ:S->Nat)(s0:S)(hL:∀s,(T s).length=κ.length)(hκ:κ=List.range κ.length)(hn:okg n κ=true)(hR:R s0)(h0:LeE (E s0) Γ)(hT:σ=T s0)(hk:∀s i x,(i,x)∈E s->i∈mods)
    (round:∀s,R s->PWp P N n c (E s++(yN mods++Γ)) (T s) (yk (fun Γ' σ'=>∃s',R s'/\μ s'<μ s/\LeE (E s') (Γ'.map fun p=>(p.1,fz κ σ' p.2))/\zpj mods Γ' Γ/\gcS κ σ'=T s') Q)):PWp P N n (.loop c) Γ σ Q:=by
  refine zal (fun s=>E s++(yN mods++Γ)) T R μ s0 hR (by rw[<-hT];exact zao h0 za5) (fun s hs=>?_)
  have key:(∀i,i ∉ mods->scp κ.length (get Γ i)=true)->PWp P N n c (E s++(yN mods++Γ)) (T s) (yk (fun Γ' σ'=>∃s',R s'/\μ s'<μ s/\Wk N n Γ' σ' (E s'++(yN mods++Γ)) (T s')) Q):=by
    intro hsc
    refine(round s hs).mono ?_
    intro e Γ' σ' q
    cases e with
    | normal=>
      obtain⟨s',h1,h2,h3,h4,h5⟩:=q
      refine⟨s',h1,h2,?_⟩
      have w1:=zim (N:=N) (Γ:=Γ') (σ:=σ') κ hn
      rw[h5]at w1
      refine w1.trans (zao h3 (fun i hi=>?_))
      rw[zbm (fz κ σ') rfl,h4 i hi]
      obtain⟨g1,g2,g3⟩:=zbl hn
      exact zpk (fun o ho=>zhy κ κ.length o (by rw[List.take_length];exact hκ) ho g1) _ (hsc i hi)
    | exit id=>exact q
    | goto l=>exact q
    | ret=>exact q
    | panic ch=>exact q
    | outgrown=>exact q
  intro ρ w a hnn hf hr
  refine key (fun i hi=>?_) ρ w a hnn hf hr
  have:=(hf.2.2 i)
  have hg:∀l:Env,(∀x,(i,x) ∉ l)->∀Γ2,get (l++Γ2) i=get Γ2 i:=by
    intro l
    induction l with
    | nil=>intro _ _;rfl
    | cons p l ih=>
      obtain⟨k,x⟩:=p
      intro hl Γ2
      simp only[List.cons_append,get]
      rw[if_neg (by rintro rfl;exact hl x (by simp)),ih (fun x hx=>hl x (by simp[hx]))]
  rw[hg (E s) (fun x hx=>hi (hk s i x hx)),zc4,if_neg hi]at this
  have:=this.scp
  rwa [hL s]at this
theorem kD{P:Program}{N n:Nat}{c:Code}{Γ:Env}{σ σ2:Sto}{Q:Exit->Env->Sto->Prop}{q:Bool}{L:Nat}(d e sz:Nat)(h00:0<sz)(hd:get Γ d=.sl true q [])(hL:σ.length=L)(hσ:σ++[.row 0 e sz []]=σ2)(h:PWp P N n c ((d,.row L 0)::Γ) σ2 Q): PWp P N n c Γ σ Q:=by
 subst hL;subst hσ
 exact zbh (zsG d e sz h00 hd) h
theorem zsO{P:Program}{N n:Nat}{c:Code}{Γ Γ2:Env}{σ σ2:Sto}{Q:Exit->Env->Sto->Prop}(κ:List Nat)(hk:okg n κ=true)(hΓ:(Γ.map fun p=>(p.1,fz κ σ p.2))=Γ2)(hσ:gcS κ σ=σ2)(h:PWp P N n c Γ2 σ2 Q): PWp P N n c Γ σ Q:=by
 subst hΓ;subst hσ
 exact zbh (zim κ hk) h
theorem zap{P:Program}{Γ:Env}{σ:Sto}{x:ResultVar}: zb7 P Γ σ (#[x]:Array ResultVar).toList=z3 P Γ σ x:=rfl
theorem vF{P:Program}{Γ:Env}{σ:Sto}{x y:ResultVar}{a b:AV}(hx:z3 P Γ σ x=some a)(hy:z3 P Γ σ y=some b): zb7 P Γ σ (#[x,y]:Array ResultVar).toList=some (.tu [a,b]):=by simp[zb7,hx,hy]
theorem vC{P:Program}{Γ:Env}{σ:Sto}{x y z:ResultVar}{a b c:AV}(hx:z3 P Γ σ x=some a)(hy:z3 P Γ σ y=some b)(hz:z3 P Γ σ z=some c): zb7 P Γ σ (#[x,y,z]:Array ResultVar).toList=some (.tu [a,b,c]):=by simp[zb7,hx,hy,hz]
theorem zsP{P:Program}{Γ:Env}{σ σ2 σ':Sto}{rs:List ResultVar}{e:Exit}{r0 r1 r:AV}{n:Nat}(κ:List Nat)(he:e=.normal\/e=.ret)(hk:okg n κ=true)(hr:zb7 P Γ σ rs=some r0)(hz:fz κ σ r0=r1)(hs:gcS κ σ=σ2)(hl:Ale r1 r)(h2:σ2=σ'):
    (e=.normal\/e=.ret)/\∃r0,zb7 P Γ σ rs=some r0/\∃r' σ'',Fin n r0 σ r' σ''/\(fun x τ=>x=r/\τ=σ') r' σ'':=
  ⟨he,r0,hr,_,_,zsF (zr2 hk) (by rw[hz];exact hl),rfl,by rw[hs];exact h2⟩
structure StQ(σ τ:Sto): Prop where
 eq:σ=τ
theorem stq{σ τ:Sto}(h:σ=τ): StQ σ τ:=⟨h⟩
theorem zX{P:Program}{Γ:Env}{σ σ2 σ':Sto}{rs:List ResultVar}{e:Exit}{r0 r1 r:AV}{n:Nat}(κ:List Nat)(he:e=.normal\/e=.ret)(hk:okg n κ=true)(hr:zb7 P Γ σ rs=some r0)(hz:fz κ σ r0=r1)(hs:gcS κ σ=σ2)(hl:Ale r1 r)(h2:StQ σ2 σ'):
    (e=.normal\/e=.ret)/\∃r0,zb7 P Γ σ rs=some r0/\∃r' σ'',Fin n r0 σ r' σ''/\(fun x τ=>x=r/\τ=σ') r' σ'':=
  zsP κ he hk hr hz hs hl h2.eq
theorem zef: ∀xs:List AV,Alel xs xs
 | []=>trivial
 | _::xs=>⟨.inl rfl,zef xs⟩
theorem zw{x y:AV}(h:Ale1 x y): Ale x y:=by
 unfold Ale
 split
 ·rename_i xs ys
  rcases h with h|h|⟨f,q,q',zs,h,_⟩
  ·cases h;exact zef _
  ·cases h
  ·cases h
 ·exact h
theorem yH: Ale (.tu []) (.tu []):=trivial
theorem zF{a b a' b':AV}(h1:Ale1 a a')(h2:Ale1 b b'): Ale (.tu [a,b]) (.tu [a',b']):=⟨h1,h2,trivial⟩
theorem yI{a b c a' b' c':AV}(h1:Ale1 a a')(h2:Ale1 b b')(h3:Ale1 c c'): Ale (.tu [a,b,c]) (.tu [a',b',c']):=⟨h1,h2,h3,trivial⟩
theorem yo{x y:AV}(h:x=y): Ale1 x y:=.inl h
theorem zlU{x:AV}: Ale1 x .junk:=.inr (.inl rfl)
theorem zsQ{κ:List Nat}{σ:Sto}{v:Value}: fz κ σ (.lit v)=.lit v:=rfl
theorem zwE{κ:List Nat}{σ:Sto}{f q:Bool}{xs:List (List AV)}: fz κ σ (.sl f q xs)=.sl f q xs:=rfl
theorem zwF{κ:List Nat}{σ:Sto}{q:Bool}{xs:List AV}: fz κ σ (.ip q xs)=.ip q xs:=rfl
theorem zpl{κ:List Nat}{σ:Sto}: fz κ σ .junk=.junk:=rfl
theorem zwG{κ:List Nat}{σ:Sto}{xs:List AV}: fz κ σ (.tu xs)=.tu (fzl κ σ xs):=rfl
theorem zwH{κ:List Nat}{σ:Sto}{xs:List AV}: fz κ σ (.ag xs)=.ag (fzl κ σ xs):=rfl
end Go.Lf
namespace Go.Lf
open Go.RowKit
def rz0: Rz:=⟨fun _=>.bool true,fun _=>False⟩
theorem zsR(b:Nat)(q:Bool): ¬Bset q [] rz0 b:=by
 intro h
 rcases h.mset with⟨o',ob,h,_⟩|h
 ·simp at h
 ·exact h
theorem zhz {P : Program} {f : FuncId} {args : List AV} {vs : List Value} {w : World} (h : AEq P f args [] (bl true) []) (hv : VRl [] rz0 w args vs) (hG : GV [] rz0 w := by exact fun _ => trivial) :
    Calls P f vs.toArray w fun e w'=>e=.returned (.bool true)/\Below w.heap.size w w':=by
  unfold AEq ACall at h
  refine(h rz0 w vs ⟨by simp,by simp,fun b hb=>hb.elim,fun b _ hb=>hb⟩ hG hv).mono ?_
  rintro e w' ⟨r,σ',ρ',v,rfl,⟨rfl,rfl⟩,hr,hv,st⟩
  simp only[VR,PV]at hv
  subst hv
  exact⟨rfl,st.os,st.tape,st.output,st.size,fun k hk=>st.kept k hk (by rintro⟨o',ob,h,_⟩;simp at h)⟩
end Go.Lf
namespace Go.Lf
attribute [go_sem ↓] zlE zlF zo1 zo2 zr7 zlG ziw zix ziy zlH zo3 zr8 zr9 zo4 ziz zlI ziA zsa zsb zlM
attribute [go_sem] zlJ ziB zeV zlK zlL
attribute [go_sem] zsc zsd zse zsh zwz zsi ziC zsj zsk zsl zsm zsn zso zsp zsq zsr zss zst zsu zo5 zlN zsv zsw zsx zsy zo6 pk0 zzV zzW zwA zsz zsA zo7
attribute [go_sem] zsB zsC zwC zwB zsD zwD zhw ziD ziE ziF zlO zlP zd2 zbj zd3 v7 acells
attribute [go_sem] w64 zzc wu8 zzT zzU zh7 scp zad okc
def gdl: AV->Option Bool
 | .lit (.bool t)=>some t
 | _=>none
def zwI: AV->Bool
 | .lit (.bool _)=>false
 | .lit _=>true
 | _=>false
section
variable {Γ : Env} {σ : Sto} {d j : Nat} {op : Op} {ty : TypeId} {pos : String} {af : Array Edge} {gg : Option (Nat × Bool)} {l : List Oper} {o : Oper}
theorem zwJ: gdv (List.toArray (⟨some d,op,ty,pos,af,gg⟩::l)) Γ 0=gdl (get Γ d):=by simp[gdv,gdl];cases get Γ d<;>rfl
theorem zwK: gdv (List.toArray (o::l)) Γ (j+1)=gdv l.toArray Γ j:=by simp[gdv]
theorem zwL: gdn (List.toArray (⟨some d,op,ty,pos,af,gg⟩::l)) Γ 0=zwI (get Γ d):=by simp[gdn,zwI];cases get Γ d<;>rfl
theorem zwM: gdn (List.toArray (o::l)) Γ (j+1)=gdn l.toArray Γ j:=by simp[gdn]
theorem zwN: gdx (List.toArray (⟨some d,op,ty,pos,af,gg⟩::l)) Γ 0=get Γ d:=by simp[gdx]
theorem zwO: gdx (List.toArray (o::l)) Γ (j+1)=gdx l.toArray Γ j:=by simp[gdx]
theorem zsS{P:Program}{g:Bool}: gB P g o Γ σ=(match opv P o (opn g Γ) σ with|some x=>if scp σ.length x=true then some x else none|none=>none):=rfl
end
attribute [go_sem ↓] zwJ zwK zwL zwM zwN zwO zsS zr3 zio
attribute [go_sem] gdl zwI
attribute [go_sem] IntKind.bits Nat.min_eq_left Option.map_some Option.bind_some Option.isSome_some List.getElem?_cons_succ List.getElem?_cons_zero List.getElem?_toArray List.drop_succ_cons List.drop_zero List.take_succ_cons List.take_zero List.map_cons List.map_nil List.all_cons List.all_nil Nat.zero_add Nat.add_zero
attribute [go_sem] and_self and_true true_and Bool.not_true Bool.not_false Bool.and_true Bool.true_and Bool.or_true Bool.true_or Bool.or_false Bool.false_or Bool.and_false Bool.false_and Bool.or_not_self beq_false beq_true beq_self_eq_true decide_true decide_false Bool.false_eq_true if_true if_false ite_true ite_false Int.one_mul Int.mul_one bne_self_eq_false eq_self Bool.not_not
attribute [go_sem ↓] List.length_cons List.length_nil
end Go.Lf
namespace Go.Lf
/-! encodings of an element as cells,and what the walks need of them -/
@[go_sem] theorem zrR(l:List UInt8): y9 (l.map zk).flatten=true:=ze (fun _=>rfl) l
@[go_sem] theorem zsT(l:List Int): y9 (l.map yz).flatten=true:=ze (fun _=>rfl) l
attribute [go_sem] zk yz
attribute [go_sem] putCells zph zpi zsN rn rnl rnP mrg mset zsQ zwE zwF zpl zwG zwH fzl fz ka gcS gcO fzO zhx ke cutE rd y9 pur zfP nb nbl
attribute [go_sem] List.set_cons_succ List.set_cons_zero List.cons_append List.nil_append List.append_nil List.drop_nil List.take_nil List.flatten_cons List.flatten_nil List.flatten_append List.replicate_succ List.replicate_zero Int.toNat_natCast List.take_length List.length_append
@[go_sem] theorem znR{α:Type}{g:α->List AV}(l:List α): (l.map g).take l.length=l.map g:=List.take_of_length_le (by simp)
@[go_sem] theorem znS{α:Type}(n:Nat)(x:α): (List.replicate n x).drop n=[]:=List.drop_of_length_le (by simp)
attribute [go_sem] List.length_replicate
@[go_sem] theorem zwP{P:Program}{σ:Sto}{t:TypeId}{k:IntKind}{a b:Int}(h:b≠0): y7 P σ .quo t (.lit (.int k a)) (.lit (.int k b))=some (.lit (.int k (k.wrap (a.tdiv b)))):=by rw[zsf,if_neg h]
@[go_sem] theorem zwQ{P:Program}{σ:Sto}{t:TypeId}{k:IntKind}{a b:Int}(h:b≠0): y7 P σ .rem t (.lit (.int k a)) (.lit (.int k b))=some (.lit (.int k (a.tmod b))):=by rw[zsg,if_neg h]
@[go_sem] theorem zwR{a b:Int}(h:0<=a): a.tdiv b=a / b:=Int.tdiv_eq_ediv_of_nonneg h
@[go_sem] theorem zwS{a b:Int}(h:0<=a): a.tmod b=a % b:=Int.tmod_eq_emod_of_nonneg h
@[go_sem] theorem zwT{a b:Int}(h:0<=b): a.fdiv b=a / b:=Int.fdiv_eq_ediv_of_nonneg _ h
end Go.Lf
namespace Go.Lf
def reachB(ops:Array Oper): Nat->Nat->List Nat
 | 0,_=>[]
 | n + 1, i => match ops[i]? with
  | none=>[]
  | some o=>(o.after.toList.filter (Region.binds .any)).flatMap fun e=>e.on::reachB ops n e.on
def zf4(ops:Array Oper)(m:Nat): Bool:=(List.range ops.size).all fun i=>decide (i<m) || (List.range i).all fun j=>(reachB ops 4 i).contains j
section draw
variable {P : Program} {N : Nat} {ops : Array Oper}
theorem yp{listed:Array Bool}(hcl:∀i o,listed.getD i false=true->ops[i]?=some o->∀e∈o.after,Region.binds .any e=true->listed.getD e.on false=true):
    ∀(n i:Nat),(∀o,ops[i]?=some o->∀e∈o.after,Region.binds .any e=true->listed.getD e.on false=true)->∀j∈reachB ops n i,listed.getD j false=true:=by
  intro n
  induction n with
  | zero=>intro i _ j hj;simp[reachB]at hj
  | succ n ih=>
    intro i hi j hj
    unfold reachB at hj
    split at hj
    · simp at hj
    · rename_i o ho
      rw[List.mem_flatMap]at hj
      obtain⟨e,he,hj⟩:=hj
      rw[List.mem_filter]at he
      have h1:=hi o ho e (by simpa using he.1) he.2
      rw[List.mem_cons]at hj
      rcases hj with rfl|hj
      · exact h1
      · exact ih e.on (fun o' ho'=>hcl e.on o' h1 ho') j hj
theorem zcx{m i j:Nat}(h:zf4 ops m=true)(hm:m<=i)(hi:i<ops.size)(hj:j<i): j∈reachB ops 4 i:=by
 unfold zf4 at h
 rw[List.all_eq_true]at h
 have:=h i (by simpa using hi)
 simp only[Bool.or_eq_true,decide_eq_true_eq]at this
 have h2:=this.resolve_left (by omega)
 rw[List.all_eq_true]at h2
 simpa using h2 j (by simpa using hj)
theorem ziJ{l:List Oper}(hok:jm l.toArray=true){m:Nat}(htl:zf4 l.toArray m=true)(Q:Exit->Act->World->Prop):
    ∀(rest:List Oper) (k:Nat) (listed:Array Bool) (a:Act) (w:World),l.drop k=rest->m<=k->k<=l.length->listed.size=l.length->(∀i,i<l.length->(listed.getD i false=true↔i<k)) ->
      wpList P l.toArray Q rest a w->wpAny P .any l.toArray Q rest.length listed a w:=by
  intro rest
  induction rest with
  | nil=>
    intro k listed a w hd hm hk hsz hl h
    have hkl:k=l.length:=by
      have:=congrArg List.length hd
      simp at this;omega
    refine⟨?_,h⟩
    unfold Region.ready
    rw[List.filter_eq_nil_iff]
    intro i hi
    have hi':i<l.length:=by simpa using hi
    have:=(hl i hi').2 (by omega)
    have h2:listed.getD i true=true:=by
      have hlt:i<listed.size:=by omega
      simpa[Array.getD,hlt]using this
    simp[h2]
  | cons o rest ih=>
    intro k listed a w hd hm hk hsz hl h
    have hkl:k<l.length:=by
      have:=congrArg List.length hd
      simp at this;omega
    have ho:l.toArray[k]?=some o:=by
      have:=congrArg List.head? hd
      rw[List.head?_drop]at this
      simpa using this
    have hd':l.drop (k+1)=rest:=by
      rw[<-List.tail_drop,hd];rfl
    have hfalse:∀i,i<l.length->k<=i->listed.getD i true=false:=by
      intro i hi hki
      have hlt:i<listed.size:=by omega
      cases hq:listed.getD i true with
      | false=>rfl
      | true=>
        have:listed.getD i false=true:=by simpa[Array.getD,hlt]using hq
        have:=(hl i hi).1 this
        omega
    have htrue:∀i,i<k->listed.getD i false=true:=fun i hi=>(hl i (by omega)).2 hi
    have hpre:∀e∈o.after,Region.binds .any e=true->listed.getD e.on false=true:=fun e he hb=>htrue _ (zam hok ho e he hb)
    refine⟨fun hnil=>?_,fun i hi=>?_⟩
    · exfalso
      have hmem:k∈Region.ready .any l.toArray listed:=by
        unfold Region.ready
        rw[List.mem_filter]
        refine⟨by simpa using hkl,?_⟩
        rw[ho]
        simp only[Option.map_some,Option.getD_some,Bool.and_eq_true,Bool.not_eq_true',hfalse k hkl (Nat.le_refl _),true_and]
        rw[Array.all_eq_true']
        intro e he
        cases hb:Region.binds .any e with
        | false=>rfl
        | true=>simpa using hpre e he hb
      rw[hnil]at hmem
      simp at hmem
    · have hik:i=k:=by
        unfold Region.ready at hi
        rw[List.mem_filter]at hi
        obtain⟨hi1,hi2⟩:=hi
        have hil:i<l.length:=by simpa using hi1
        obtain⟨p,hp⟩:∃p,l.toArray[i]?=some p:=⟨l[i],by simp[hil]⟩
        rw[hp]at hi2
        simp only[Option.map_some,Option.getD_some,Bool.and_eq_true,Bool.not_eq_true']at hi2
        obtain⟨hi2,hi3⟩:=hi2
        rw[Array.all_eq_true']at hi3
        rcases Nat.lt_trichotomy i k with hlt|rfl|hgt
        · exfalso
          have:=htrue i hlt
          have hlt':i<listed.size:=by omega
          have h2:listed.getD i true=true:=by simpa[Array.getD,hlt']using this
          rw[h2]at hi2;cases hi2
        · rfl
        · exfalso
          have hcl:∀i o,listed.getD i false=true->l.toArray[i]?=some o->∀e∈o.after,Region.binds .any e=true->listed.getD e.on false=true:=by
            intro j q hj hq e he hb
            have hjl:j<l.length:=by have:=(Array.getElem?_eq_some_iff.1 hq).1;simpa using this
            have:=(hl j hjl).1 hj
            exact htrue _ (by have:=zam hok hq e he hb;omega)
          have:=yp hcl 4 i (fun q hq e he hb=>by
            rw[hp]at hq;simp at hq;subst hq
            have:=hi3 e he
            simpa[hb]using this) k (zcx htl (by omega) (by simpa using hil) hgt)
          have hlt:k<listed.size:=by omega
          have h2:listed.getD k true=true:=by simpa[Array.getD,hlt]using this
          rw[hfalse k hkl (Nat.le_refl _)]at h2
          cases h2
      subst hik
      have hl':∀j,j<l.length->((listed.setIfInBounds i true).getD j false=true↔j<i+1):=by
        intro j hj
        by_cases hji:j=i
        · subst hji
          have hi0:j<listed.size:=by omega
          simp[Array.getD_eq_getD_getElem?,hi0]
        · have:=hl j hj
          rw[Array.getD_eq_getD_getElem?,Array.getElem?_setIfInBounds_ne (Ne.symm hji),<-Array.getD_eq_getD_getElem?,this]
          omega
      have go:∀a' w',wpList P l.toArray Q rest a' w'->wpAny P .any l.toArray Q rest.length (listed.setIfInBounds i true) a' w':=
        fun a' w' h'=>ih (i+1) _ a' w' hd' (by omega) (by omega) (by simpa using hsz) hl' h'
      unfold wpOp
      rw[ho]
      unfold wpList at h
      simp only
      split
      · rename_i hw
        rw[if_pos hw]at h
        rcases h with h|h
        · exact .inl (Oper.wp_mono go h)
        · exact .inr h
      · rename_i hw
        rw[if_neg hw]at h
        exact go _ _ h
theorem vG{n id:Nat}{l:List Oper}{Γ:Env}{σ:Sto}{Q:Exit->Env->Sto->Prop}{K:Env->Sto->Prop}(m:Nat)(hm:P.follows .mixedOrders=true)(hok:jm l.toArray=true)(htl:zf4 l.toArray m=true)(hml:decide (m<=l.length)=true)
    {l1 l2:List Oper} (hl1:l.take m=l1) (hl2:l.drop m=l2) (h:dg P N l.toArray l1 Γ σ (fun Γ' σ'=>rg P N l.toArray l2 Γ' σ' K)) :
    PWp P N n (.region id l.toArray true) Γ σ (yk K Q):=by
  intro ρ w a hn hf hr
  subst hl1 hl2
  refine wp_region_any hm ?_
  have hml:m<=l.length:=of_decide_eq_true hml
  obtain⟨xs0,hlen0,hK0,hops0⟩:=zeY (l.take m) Γ σ h
  have hlm:(l.take m).length=m:=by simp[hml]
  -- values for the whole text;those of the tail are of no account
  obtain⟨xs,hxs⟩:∃xs,xs=xs0++List.replicate (l.length-m) AV.junk:=⟨_,rfl⟩
  have hlen:xs.length=l.length:=by rw[hxs];simp[hlen0,hlm];omega
  have htx:∀(l1 l2:List Oper) (ys zs:List AV) (Δ:Env) (i:Nat),l1.length=ys.length->i<=l1.length->textEnv Δ (l1++l2) (ys++zs) i=textEnv Δ l1 ys i:=by
    intro l1
    induction l1 with
    | nil=>intro l2 ys zs Δ i _ hi;simp at hi;subst hi;cases(([]:List Oper)++l2)<;>cases ys<;>simp[textEnv]
    | cons o l1 ih=>
      intro l2 ys zs Δ i hl hi
      cases ys with
      | nil=>simp at hl
      | cons y ys=>
        cases i with
        | zero=>simp[textEnv]
        | succ i=>simp only[List.cons_append,textEnv];exact ih l2 ys zs _ i (by simpa using hl) (by simpa using hi)
  have hte:∀i,i<=m->textEnv Γ l xs i=textEnv Γ (l.take m) xs0 i:=by
    intro i hi
    conv=>lhs;rw[<-List.take_append_drop m l,hxs]
    exact htx _ _ _ _ _ _ hlen0.symm (by omega)
  have hK:rg P N l.toArray (l.drop m) (textEnv Γ l xs m) σ K:=by rw[hte m (Nat.le_refl _)];rw[hlm]at hK0;exact hK0
  have hops:∀i o x,i<m->l[i]?=some o->xs[i]?=some x->ro P N l.toArray [o] (rst l.toArray o (textEnv Γ l xs i)) σ (fun Γ1 τ=>Γ1=put (rst l.toArray o (textEnv Γ l xs i)) o.dst x/\τ=σ):=by
    intro i o x hi ho hx
    rw[hte i (by omega)]
    refine hops0 i o x (by rw[List.getElem?_take_of_lt hi];exact ho) ?_
    rw[hxs,List.getElem?_append_left (by omega)]at hx
    exact hx
  generalize hQ:(fun e a' w'=>∃Γ' σ' ρ',yk K Q e Γ' σ'/\FR N Γ' σ' ρ' w' a'/\Rel σ' ρ' w'/\Step n σ ρ w σ' ρ' w')=Q0
  have hdist:∀(i j:Nat) (o p:Oper) (d:Nat),i≠j->l.toArray[i]?=some o->l.toArray[j]?=some p->p.dst=some d->o.dst≠some d:=fun i j o p d hij ho hp hd=>(va hok ho hp (Ne.symm hij) hd).1
  have hlen':xs.length=l.toArray.size:=by simpa using hlen
  have htext:=zfY hdist Γ xs hlen'
  have main : ∀ (fuel : Nat) (listed : Array Bool) (Γ' : Env) (ρ' : Rz) (a' : Act) (w' : World), listed.size = l.length -> ((List.range l.length).filter (fun i => !listed.getD i true)).length = fuel ->
      (∀i,m<=i->i<l.length->listed.getD i false=false) ->
      (∀i o,listed.getD i false=true->l.toArray[i]?=some o->∀e∈o.after,Region.binds .any e=true->listed.getD e.on false=true) ->
      Agr l.toArray xs Γ (fun j=>listed.getD j false=true) Γ'->FR N Γ' σ ρ' w' a'->Rel σ ρ' w'->Step n σ ρ w σ ρ' w'->wpAny P .any l.toArray Q0 fuel listed a' w':=by
    intro fuel
    have phase : ∀ (fuel : Nat) (listed : Array Bool) (Γ' : Env) (ρ' : Rz) (a' : Act) (w' : World), listed.size = l.length -> ((List.range l.length).filter (fun i => !listed.getD i true)).length = fuel ->
        (∀i,m<=i->i<l.length->listed.getD i false=false)->(∀i,i<m->listed.getD i false=true) ->
        Agr l.toArray xs Γ (fun j=>listed.getD j false=true) Γ'->FR N Γ' σ ρ' w' a'->Rel σ ρ' w'->Step n σ ρ w σ ρ' w'->wpAny P .any l.toArray Q0 fuel listed a' w':=by
      intro fuel listed Γ' ρ' a' w' hsz hcnt ht hall hag hf' hr' st
      have hfu:fuel=(l.drop m).length:=by
        have hsplit:List.range l.length=List.range m++(List.range (l.length-m)).map (m + ·):=by
          rw[<-List.range_add];congr 1;omega
        have hN:∀i,i<m->listed.getD i true=true:=by
          intro i hi
          have h1:=hall i hi
          have h2:i<listed.size:=by omega
          simpa[Array.getD,h2]using h1
        have hT:∀i,i<l.length-m->listed.getD (m+i) true=false:=by
          intro i hi
          have h1:=ht (m+i) (by omega) (by omega)
          have h2:m+i<listed.size:=by omega
          simpa[Array.getD,h2]using h1
        rw[hsplit,List.filter_append,List.length_append]at hcnt
        have e1:(List.range m).filter (fun i=>!listed.getD i true)=[]:=by
          rw[List.filter_eq_nil_iff]
          intro i hi
          simp[hN i (by simpa using hi)]
        have e2:((List.range (l.length-m)).map (m + ·)).filter (fun i=>!listed.getD i true)=(List.range (l.length-m)).map (m + ·):=by
          rw[List.filter_eq_self]
          intro i hi
          rw[List.mem_map]at hi
          obtain⟨j,hj,rfl⟩:=hi
          simp[hT j (by simpa using hj)]
        rw[e1,e2]at hcnt
        simp at hcnt
        simp[<-hcnt]
      have hag':Agr l.toArray xs Γ (fun j=>j<m) Γ':=by
        intro t
        refine⟨fun j o x hj=>(hag t).1 j o x (hall j hj),fun hnn=>(hag t).2 (fun j o hj ho=>hnn j o ?_ ho)⟩
        have hjl:j<l.length:=by have:=(Array.getElem?_eq_some_iff.1 ho).1;simpa using this
        rcases Nat.lt_or_ge j m with h1|h1
        · exact h1
        · have:=ht j h1 hjl
          have hj':listed.getD j false=true:=hj
          rw[this]at hj';cases hj'
      have hsame:=Agr.same hlen' hag' (htext m (by simpa using hml))
      subst hfu
      refine ziJ hok htl Q0 (l.drop m) m listed a' w' rfl (Nat.le_refl _) hml hsz ?_ (hK n Q0 σ ρ w ?_ ρ' a' w' ⟨hf'.1,hf'.2.1,fun i=>?_⟩ hr' st)
      · intro i hi
        constructor
        · intro h1
          rcases Nat.lt_or_ge i m with h2|h2
          · exact h2
          · rw[ht i h2 hi]at h1;cases h1
        · exact hall i
      · intro Γ2 σ2 ρ2 a2 w2 hK2 hf2 hr2 st2
        rw[<-hQ]
        exact⟨Γ2,σ2,ρ2,hK2,hf2,hr2,st2⟩
      · have:=hsame i
        rw[<-this];exact hf'.2.2 i
    induction fuel with
    | zero=>
      intro listed Γ' ρ' a' w' hsz hcnt ht hcl hag hf' hr' st
      refine phase 0 listed Γ' ρ' a' w' hsz hcnt ht ?_ hag hf' hr' st
      intro i hi
      have:(List.range l.length).filter (fun i=>!listed.getD i true)=[]:=List.eq_nil_of_length_eq_zero hcnt
      rw[List.filter_eq_nil_iff]at this
      have h1:=this i (by simp;omega)
      have h2:i<listed.size:=by omega
      simpa[Array.getD,h2]using h1
    | succ fuel ih=>
      intro listed Γ' ρ' a' w' hsz hcnt ht hcl hag hf' hr' st
      by_cases hph:∀i,i<m->listed.getD i false=true
      · exact phase (fuel+1) listed Γ' ρ' a' w' hsz hcnt ht hph hag hf' hr' st
      refine⟨fun hnil=>?_,fun i hi=>?_⟩
      · exfalso
        -- the least that is not listed is ready
        have hex:∃i,i<l.length/\listed.getD i true=false:=by
          have hne:(List.range l.length).filter (fun i=>!listed.getD i true)≠[]:=by intro e;rw[e]at hcnt;simp at hcnt
          obtain⟨i,hi⟩:=List.exists_mem_of_ne_nil _ hne
          rw[List.mem_filter]at hi
          exact⟨i,by simpa using hi.1,by simpa using hi.2⟩
        obtain⟨i,⟨hi1,hi2⟩,hmin⟩:=exists_least hex
        obtain⟨o,ho⟩:∃o,l.toArray[i]?=some o:=⟨l[i],by simp[hi1]⟩
        have hmem:i∈Region.ready .any l.toArray listed:=by
          unfold Region.ready
          rw[List.mem_filter]
          refine⟨by simpa using hi1,?_⟩
          rw[ho]
          simp only[Option.map_some,Option.getD_some,Bool.and_eq_true,Bool.not_eq_true',hi2,true_and]
          rw[Array.all_eq_true']
          intro e he
          cases hb:Region.binds .any e with
          | false=>rfl
          | true=>
            have hlt:=zam hok ho e he hb
            have:listed.getD e.on false=true:=by
              cases hge:listed.getD e.on true with
              | true => have hlt' : e.on < listed.size := by omega
                        simpa[Array.getD,hlt']using hge
              | false=>have:=hmin e.on ⟨by omega,hge⟩;omega
            simpa using this
        rw[hnil]at hmem
        simp at hmem
      · unfold Region.ready at hi
        rw[List.mem_filter]at hi
        obtain⟨hi1,hi2⟩:=hi
        have hil:i<l.length:=by simpa using hi1
        obtain⟨o,ho⟩:∃o,l.toArray[i]?=some o:=⟨l[i],by simp[hil]⟩
        obtain⟨x,hx⟩:∃x,xs[i]?=some x:=⟨xs[i],List.getElem?_eq_getElem (by omega)⟩
        rw[ho]at hi2
        simp only[Option.map_some,Option.getD_some,Bool.and_eq_true,Bool.not_eq_true']at hi2
        obtain⟨hi2,hi3⟩:=hi2
        rw[Array.all_eq_true']at hi3
        have hpre:∀e∈o.after,Region.binds .any e=true->listed.getD e.on false=true:=by
          intro e he hb
          have:=hi3 e he
          simpa[hb]using this
        have hli:listed.getD i false=false:=by
          have hlt':i<listed.size:=by omega
          simpa[Array.getD,hlt']using hi2
        -- what the operation sees is what it sees in the text's order
        have hsee:∀t∈o.looksAt l.toArray,get Γ' t=get (textEnv Γ l xs i) t:=by
          intro t ht
          have hT:=htext i (by simp;omega)
          by_cases hex:∃j p,j≠i/\l.toArray[j]?=some p/\p.dst=some t
          · obtain⟨j,p,hji,hp,hpd⟩:=hex
            obtain⟨_,hpair⟩:=va hok ho hp hji hpd
            obtain⟨hlt,hge⟩:=hpair ht
            have hj:=(Array.getElem?_eq_some_iff.1 hp).1
            have hxj:xs[j]?=some xs[j]:=List.getElem?_eq_getElem (by omega)
            by_cases hji':j<i
            · obtain⟨e,he,hb,heon⟩:=hlt hji'
              have hlj:=hpre e he hb
              rw[heon]at hlj
              rw[(hag t).1 j p _ hlj hp hpd hxj,(hT t).1 j p _ hji' hp hpd hxj]
            · obtain⟨e,he,hb,heon⟩:=hge hji'
              have huniq:∀k q,l.toArray[k]?=some q->q.dst=some t->k=j:=by
                intro k q hq hqd
                by_cases hkj:k=j
                · exact hkj
                · exact absurd hqd (hdist k j q p t hkj hq hp hpd)
              have hnj:¬listed.getD j false=true:=by
                intro hlj
                have:=hcl j p hlj hp e he hb
                rw[heon,hli]at this
                cases this
              rw[(hag t).2 (fun k q hL hq hqd=>hnj (by rw[<-huniq k q hq hqd];exact hL)),(hT t).2 (fun k q hk hq hqd=>by have:=huniq k q hq hqd;omega)]
          · have hn : ∀ k q, k ≠ i -> l.toArray[k]? = some q -> q.dst ≠ some t := fun k q hk hq hqd => hex ⟨k, q, hk, hq, hqd⟩
            rw[(hag t).2 (fun k q hL hq hqd=>hn k q (by intro e;have hL':listed.getD k false=true:=hL;rw[e,hli]at hL';cases hL') hq hqd),(hT t).2 (fun k q hk hq hqd=>hn k q (by omega) hq hqd)]
        have him:i<m:=by
          rcases Nat.lt_or_ge i m with h1|h1
          · exact h1
          · exfalso
            apply hph
            intro j hj
            exact yp hcl 4 i (fun q hq e he hb=>by rw[ho]at hq;simp at hq;subst hq;exact hpre e he hb) j (zcx htl h1 (by simpa using hil) (by omega))
        have hop:=hops i o x him (by simpa using ho) hx
        have hcnt':((List.range l.length).filter (fun k=>!(listed.setIfInBounds i true).getD k true)).length=fuel:=by
          have hperm:((List.range l.length).filter (fun k=>!listed.getD k true)).length=((List.range l.length).filter (fun k=>!(listed.setIfInBounds i true).getD k true)).length+1:=by
            have hsplit:∀(r:List Nat),r.Nodup->i∈r->(r.filter (fun k=>!listed.getD k true)).length=(r.filter (fun k=>!(listed.setIfInBounds i true).getD k true)).length+1:=by
              intro r
              induction r with
              | nil=>intro _ h;simp at h
              | cons k r ihr=>
                intro hnd hmem
                rw[List.nodup_cons]at hnd
                by_cases hki:k=i
                · subst hki
                  have hsame:r.filter (fun q=>!(listed.setIfInBounds k true).getD q true)=r.filter (fun q=>!listed.getD q true):=by
                    apply List.filter_congr
                    intro q hq
                    have hqk:q≠k:=fun e=>hnd.1 (e ▸ hq)
                    simp only[Array.getD_eq_getD_getElem?,Array.getElem?_setIfInBounds_ne (Ne.symm hqk)]
                  have h1:(listed.setIfInBounds k true).getD k true=true:=by simp[Array.getD_eq_getD_getElem?,Array.getElem?_setIfInBounds];split<;>simp_all
                  simp only[List.filter_cons,hi2,h1,Bool.not_false,if_true,Bool.not_true,List.length_cons,hsame]
                  simp
                · have hmem' : i ∈ r := by simpa [Ne.symm hki] using hmem
                  have hk:(listed.setIfInBounds i true).getD k true=listed.getD k true:=by
                    simp only[Array.getD_eq_getD_getElem?,Array.getElem?_setIfInBounds_ne (Ne.symm hki)]
                  have:=ihr hnd.2 hmem'
                  simp only[List.filter_cons,hk]
                  split<;>simp_all
            exact hsplit _ List.nodup_range (by simpa using hil)
          omega
        have key:∀(ρ2:Rz) (w2:World) (v:Value),FR N (put Γ' o.dst x) σ ρ2 w2 (a'.put o.dst v)->Rel σ ρ2 w2->Step n σ ρ w σ ρ2 w2->wpAny P .any l.toArray Q0 fuel (listed.setIfInBounds i true) (a'.put o.dst v) w2:=by
          intro ρ2 w2 v hf2 hr2 st2
          refine ih _ (put Γ' o.dst x) ρ2 _ w2 (by simpa using hsz) hcnt' ?_ ?_ ?_ hf2 hr2 st2
          · intro k hk hkl
            have hki:k≠i:=by omega
            rw[Array.getD_eq_getD_getElem?,Array.getElem?_setIfInBounds_ne (Ne.symm hki),<-Array.getD_eq_getD_getElem?]
            exact ht k hk hkl
          · intro k q hk hq e he hb
            have hmono:∀m,listed.getD m false=true->(listed.setIfInBounds i true).getD m false=true:=by
              intro m hm
              by_cases hmi:m=i
              · have hi0 : i < listed.size := by omega
                simp[hmi,Array.getD_eq_getD_getElem?,hi0]
              · simpa[Array.getD_eq_getD_getElem?,Array.getElem?_setIfInBounds_ne (Ne.symm hmi)]using hm
            by_cases hki:k=i
            · subst hki
              rw[ho]at hq
              simp at hq
              subst hq
              exact hmono _ (hpre e he hb)
            · refine hmono _ (hcl k q ?_ hq e he hb)
              simpa[Array.getD_eq_getD_getElem?,Array.getElem?_setIfInBounds_ne (Ne.symm hki)]using hk
          · have := hag.put ho hx (fun j p d hji hp hpd => hdist i j o p d (Ne.symm hji) ho hp hpd)
            intro t
            have hL:∀j,(listed.setIfInBounds i true).getD j false=true↔(j=i\/listed.getD j false=true):=by
              intro j
              by_cases hji:j=i
              · have hi0 : i < listed.size := by omega
                simp[hji,Array.getD_eq_getD_getElem?,hi0]
              · simp[Array.getD_eq_getD_getElem?,Array.getElem?_setIfInBounds_ne (Ne.symm hji),hji]
            exact⟨fun j p y hj=>(this t).1 j p y ((hL j).1 hj),fun hn=>(this t).2 (fun j p hj=>hn j p ((hL j).2 hj))⟩
        have hfr:=hf'.rst (ops:=l.toArray) (o:=o) hsee
        unfold wpOp
        rw[ho]
        simp only
        generalize hR:rst l.toArray o (textEnv Γ l xs i)=R at hop hfr
        have run:Oper.dstOk N o=true->SOp P N o R σ (fun x' σ'=>put R o.dst x'=put R o.dst x/\σ'=σ)->o.wp P a' w' (wpAny P .any l.toArray Q0 fuel (listed.setIfInBounds i true)) Q0:=by
          intro hd hop
          refine hop ρ' w' a' _ Q0 hfr hr' ?_
          intro x' σ' ρ2 w2 v hK hr2 hv st2
          obtain⟨he,hs⟩:=hK
          subst hs
          exact key ρ2 w2 v (zY (hf'.carry st2) hd he hv) hr2 (st.trans (st2.mono st.len'))
        unfold ro rgn at hop
        cases hg:o.guard with
        | none=>
          rw[hg]at hop
          simp only[rgn]at hop
          rw[if_pos (by simp[Region.wanted,hg])]
          exact .inl (run hop.1 hop.2)
        | some jw=>
          obtain⟨j,want⟩:=jw
          rw[hg]at hop
          simp only[rgn]at hop
          cases hgd:gdv l.toArray R j with
          | none=>
            rw[hgd]at hop
            obtain⟨h1,hdo,h⟩:=hop
            have hy:=vI h1 hfr
            rw[if_neg (by simp[Region.wanted,hg,hy])]
            exact key _ _ _ (zY hf' hdo h.1 (by simp[VR])) hr' st
          | some t=>
            rw[hgd]at hop
            simp only at hop
            obtain⟨hdo,h⟩:=hop
            have hy:=kf hgd hfr
            rcases h with⟨x',hx',h⟩|h
            · obtain⟨hsc,hgv⟩:=kB P N _ _ _ _ _ hx' ρ' w' a' hfr hr'
              by_cases htw:t=want
              · rw [if_pos (by simp [Region.wanted, hg, hy, htw])]
                refine .inl ?_
                obtain⟨v,h1,h2⟩:=hgv (by simp[htw])
                unfold Oper.wp
                rw[h1,Oper.upon_value]
                exact key _ _ _ (zY hf' hdo h.1 (by simp only[VR];exact⟨hsc,fun _=>h2,fun e=>by simp[htw]at e⟩)) hr' st
              · rw [if_neg (by simp [Region.wanted, hg, hy, htw])]
                exact key _ _ _ (zY hf' hdo h.1 (by simp only[VR];exact⟨hsc,fun e=>absurd e (by simp[htw]),fun _=>trivial⟩)) hr' st
            · by_cases htw:t=want
              · rw [if_pos (by simp [Region.wanted, hg, hy, htw])]
                exact .inl (run hdo (h.1 htw))
              · rw [if_neg (by simp [Region.wanted, hg, hy, htw])]
                exact key _ _ _ (zY hf' hdo (h.2 htw).1 (by simp[VR])) hr' st
  refine main l.length (Array.replicate l.length false) Γ ρ a _ (by simp) ?_ (by intro i _ hi;simp[Array.getD,hi]) ?_ ?_ ?_ (za2 hr) (yR hn)
  · have:(List.range l.length).filter (fun i=>!(Array.replicate l.length false).getD i true)=List.range l.length:=by
      rw[List.filter_eq_self]
      intro i hi
      have:i<l.length:=by simpa using hi
      simp[Array.getD,this]
    rw[this];simp
  · intro i o hi;simp[Array.getD]at hi
  · intro t;exact⟨fun j o x hj=>by simp[Array.getD]at hj,fun _=>rfl⟩
  · exact hf.carry (yR (Nat.le_refl _))
end draw
section steps3
variable {P : Program} {N : Nat} {ops : Array Oper} {Γ R : Env} {σ : Sto} {K : Env -> Sto -> Prop} {d : Nat} {op : Op} {ty : TypeId} {pos : String} {af : Array Edge} {l : List Oper} {j : Nat} {want : Bool}
theorem zhA {t g : Bool} {z : AV} (hd : Oper.dstOk N ⟨some d, op, ty, pos, af, some (j, want)⟩ = true) (hg : gdv ops Γ j = some t := by simp only [go_sem, seval, ↓reduceIte, hU] <;> rfl) (hq : (t == want) = g := by first | (simp only [go_sem, seval, ↓reduceIte, hU]; done) | (simp only [go_sem, seval, ↓reduceIte, hU]; rfl) | rfl) (hv : gB P g ⟨some d, op, ty, pos, af, some (j, want)⟩ Γ σ = some z := by (try simp (disch := omega) only [go_sem, seval, ↓reduceIte, hU]) <;> rfl)
    (h:rg P N ops l ((d,.gd g z)::Γ) σ K):rg P N ops (⟨some d,op,ty,pos,af,some (j,want)⟩::l) Γ σ K:=by
  subst hq;exact zzS hd hg hv h
theorem zsU {t g : Bool} {z : AV} (hd : Oper.dstOk N ⟨some d, op, ty, pos, af, some (j, want)⟩ = true) (hR : rst ops ⟨some d, op, ty, pos, af, some (j, want)⟩ Γ = R := by exact kE (by simp only [go_sem]; rfl) (by simp only [go_sem, seval, ↓reduceIte, hU]; rfl)) (hg : gdv ops R j = some t := by simp only [go_sem, seval, ↓reduceIte, hU] <;> rfl) (hq : (t == want) = g := by first | (simp only [go_sem, seval, ↓reduceIte, hU]; done) | (simp only [go_sem, seval, ↓reduceIte, hU]; rfl) | rfl) (hv : gB P g ⟨some d, op, ty, pos, af, some (j, want)⟩ R σ = some z := by (try simp (disch := omega) only [go_sem, seval, ↓reduceIte, hU]) <;> rfl)
    (hk:dg P N ops l ((d,.gd g z)::Γ) σ K):dg P N ops (⟨some d,op,ty,pos,af,some (j,want)⟩::l) Γ σ K:=by
  subst hq;exact zzX hd hR hg hv hk
end steps3
end Go.Lf
namespace Go.Lf
def tl: List Operand->List Nat
 | []=>[]
 | .tmp t::r=>t::tl r
 | _::r=>tl r
theorem zpm : ∀ l : List Operand, l.filterMap (fun | .tmp t => some t | _ => none) = tl l
 | []=>rfl
 | x::r=>by
  cases x<;>simp[tl,zpm r]
def gl(ops:Array Oper)(j:Nat): List Nat:=((ops[j]?).bind (·.dst)).toList
section
variable {ops : Array Oper} {l : List Oper} {d : Option Tmp} {op : Op} {ty : TypeId} {pos : String} {af : Array Edge} {j : Nat} {w : Bool} {o : Oper} {gg : Option (Nat × Bool)} {t s : TypeId} {x y z : Operand} {b : BinOp} {u : UnOp} {n k : Nat} {lo hi mx : Option Operand} {as : List Operand} {ts : Array TypeId} {ps : List (Nat × Operand)} {bi : Builtin} {r : List Operand} {v : Value} {i : Nat}
theorem zzY: Oper.looksAt ops ⟨d,op,ty,pos,af,none⟩=tl op.operands.toList:=by
 unfold Oper.looksAt;rw[List.append_nil];exact zpm _
theorem zzZ: Oper.looksAt ops ⟨d,op,ty,pos,af,some (j,w)⟩=tl op.operands.toList++gl ops j:=by
 exact congrArg (· ++ gl ops j) (zpm op.operands.toList)
theorem zz0{e:Tmp}: gl (List.toArray (⟨some e,op,ty,pos,af,gg⟩::l)) 0=[e]:=rfl
theorem zz1: gl (List.toArray (o::l)) (j+1)=gl l.toArray j:=by simp[gl]
theorem zsV: tl []=[]:=rfl
theorem zz2: tl (.tmp i::r)=i::tl r:=rfl
theorem zz3: tl (.const v::r)=tl r:=rfl
theorem zz4: tl (.func i::r)=tl r:=rfl
theorem zpn: tl (Op.move x).operands.toList=tl [x]:=rfl
theorem ziK: tl (Op.assign x).operands.toList=tl [x]:=rfl
theorem zlV: tl (Op.alloc t).operands.toList=[]:=rfl
theorem zsW: tl (Op.box t x).operands.toList=tl [x]:=rfl
theorem zpo: tl (Op.load t x).operands.toList=tl [x]:=rfl
theorem zsX: tl (Op.nilCheck x).operands.toList=tl [x]:=rfl
theorem zwU: tl (Op.unOp u t x).operands.toList=tl [x]:=rfl
theorem zpp: tl (Op.convert t s x).operands.toList=tl [x]:=rfl
theorem zlW: tl (Op.fieldAddr t x n).operands.toList=tl [x]:=rfl
theorem zlX: tl (Op.field t x n).operands.toList=tl [x]:=rfl
theorem zsY: tl (Op.extract x n).operands.toList=tl [x]:=rfl
theorem zpq: tl (Op.pick x y z).operands.toList=tl [x,y,z]:=rfl
theorem zlY: tl (Op.build t ps.toArray).operands.toList=tl (ps.map (·.2)):=rfl
theorem zsZ: tl (Op.buildSlice t n ps.toArray).operands.toList=tl (ps.map (·.2)):=rfl
theorem zlZ: tl (Op.store t x y).operands.toList=tl [x,y]:=rfl
theorem zs0: tl (Op.binOp b t x y s).operands.toList=tl [x,y]:=rfl
theorem zpr: tl (Op.makeSlice t x y).operands.toList=tl [x,y]:=rfl
theorem zl0: tl (Op.indexAddr t x y).operands.toList=tl [x,y]:=rfl
theorem zl1: tl (Op.index t x y).operands.toList=tl [x,y]:=rfl
theorem zl2: tl (Op.slice t x lo hi mx).operands.toList=tl (x::(lo.toList++(hi.toList++mx.toList))):=by
 cases lo<;>cases hi<;>cases mx<;>rfl
theorem zl3: tl (Op.call ⟨.builtin bi,as.toArray,ts⟩).operands.toList=tl as:=by simp[Op.operands,Call.operands]
theorem zl4: tl (Op.call ⟨.value x,as.toArray,ts⟩).operands.toList=tl (x::as):=by simp[Op.operands,Call.operands]
end
attribute [go_sem ↓] zzY zzZ zz0 zz1 zpn ziK zlV zsW zpo zsX zwU zpp zlW zlX zsY zpq zlY zsZ zlZ zs0 zpr zl0 zl1 zl2 zl3 zl4
attribute [go_sem] zsV zz2 zz3 zz4 Option.toList_some Option.toList_none Option.map_none
theorem hcP: (∀a b:Bool,((a || b)=true)=(a=true\/b=true))/\(∀a b:Bool,((a && b)=true)=(a=true/\b=true))/\(∀a b:Bool,((a || b)=false)=(a=false/\b=false))/\(∀a b:Bool,((a && b)=false)=(a=false\/b=false)) /\
    (∀(p:Prop) [Decidable p],(decide p=true)=p)/\(∀(p:Prop) [Decidable p],(decide p=false)=¬p)/\(∀b:Bool,((!b)=true)=(b=false))/\(∀b:Bool,((!b)=false)=(b=true)) /\
    (∀a b:Int,((a == b)=true)=(a=b))/\(∀a b:Int,((a == b)=false)=¬(a=b))/\(∀a b:Int,((a != b)=true)=¬(a=b))/\(∀a b:Int,((a != b)=false)=(a=b)) /\
    (∀a b:Bool,((a == b)=true)=(a=b))/\(∀a b:Bool,((a == b)=false)=¬(a=b))/\(∀{α:Type} (a b:α),(a≠b)=¬(a=b))/\(false=true)=False/\(true=false)=False:=by
  refine⟨?_,?_,?_,?_,?_,?_,?_,?_,?_,?_,?_,?_,?_,?_,?_,?_,?_⟩
  all_goals intros
  all_goals first|(simp;done)|(rename_i a b;cases a<;>cases b<;>simp)
def zps(Γ:Env): List Nat->Env
 | []=>[]
 | t::l=>(t,get Γ t)::zps Γ l
@[go_sem ↓] theorem zzg{Γ:Env}: zps Γ []=[]:=rfl
@[go_sem ↓] theorem zzh{Γ:Env}{t:Nat}{l:List Nat}: zps Γ (t::l)=(t,get Γ t)::zps Γ l:=rfl
theorem ziL (Γ : Env) : ∀ l, zps Γ l = l.map fun t => (t, get Γ t)
 | []=>rfl
 | t::l=>by rw[zps,ziL Γ l];rfl
theorem kE{ops:Array Oper}{o:Oper}{Γ R:Env}{L:List Nat}(hl:o.looksAt ops=L)(hm:zps Γ L=R): rst ops o Γ=R:=by
 subst hl;rw[<-hm,ziL];rfl
theorem zo {P : Program} {Γ : Env} {σ σ2 σ' : Sto} {rs : List ResultVar} {e : Exit} {r0 r1 r : AV} {n : Nat} (κ : List Nat) (hr : zb7 P Γ σ rs = some r0) (hl : Ale r1 r) (h2 : StQ σ2 σ') (he : e = .normal \/ e = .ret := by first | exact .inr rfl | exact .inl rfl) (hk : okg n κ = true := by rfl) (hz : fz κ σ r0 = r1 := by (try simp (disch := omega) only [go_sem, seval, ↓reduceIte, hU]) <;> rfl) (hs : gcS κ σ = σ2 := by (try simp (disch := omega) only [go_sem, seval, ↓reduceIte, hU]) <;> rfl) :
    (e=.normal\/e=.ret)/\∃r0,zb7 P Γ σ rs=some r0/\∃r' σ'',Fin n r0 σ r' σ''/\(fun x τ=>x=r/\τ=σ') r' σ'':=zX κ he hk hr hz hs hl h2
theorem zc{P:Program}{N n:Nat}{Γ:Env}{σ:Sto}{Q:Exit->Env->Sto->Prop}{c:Operand}{x y:Code}{t:Bool}(ht:t=true->PWp P N n x Γ σ Q)(hf:t=false->PWp P N n y Γ σ Q)(hc:ev Γ c=.lit (.bool t):=by(try simp(disch:=omega)only[go_sem,seval,↓reduceIte,hU])<;>rfl): PWp P N n (.cond c x y) Γ σ Q:=zcR hc ht hf
end Go.Lf
