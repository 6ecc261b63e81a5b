import Derived.ScopeJumps
import Derived.Lib.ConvBytes
import Derived.Shelf.RegionOpenPlain
import Derived.WalkKit
import Derived.Deep.RegionLaw
import Derived.Lib.SliceRun
import Derived.Test.YtdalcgfnlbofdaaGreatDoorZ01
set_option linter.unusedVariables false
set_option linter.unusedSimpArgs false
namespace Go.Proofs.YtdalcgfnlbofdaaGreatDoor
open Go Go.Lf Go.Proofs
attribute [local irreducible] Lf.rg Lf.ro Lf.PWp Lf.SOp Lf.ACall Lf.Scoped Lf.dg Lf.dw
set_option maxRecDepth 20000
set_option maxHeartbeats 4000000
theorem zmt{p:Nat->Prop}: (∃k,p k)->∃k,p k/\∀j,p j->k<=j:=by
  rintro⟨k,hk⟩
  induction k using Nat.strongRecOn with
  | _ k ih=>
    by_cases h:∃j,j<k/\p j
    · obtain⟨j,hj,pj⟩:=h
      exact ih j hj pj
    · exact⟨k,hk,fun j pj=>by
        by_cases hj:j<k
        · exact absurd ⟨j,hj,pj⟩ h
        · omega⟩
theorem zcg{P:Program}{a:Act}{w:World}{Q:Exit->Act->World->Prop}{c rest:Code}(l:Nat)(J:Nat->Act->World->Prop)(hf:findLabel c l=some rest)
    (first:c.wp P (Exit.jump l (fun a w=>∃k,J k a w) Q) a w)
    (pass:∀k a w,J k a w->rest.wp P (Exit.jump l (fun a' w'=>∃k',k'<k/\J k' a' w') Q) a w):(Code.scope c).wp P Q a w:=by
  classical
  have ex:∀a w,∃m:Nat,(∃k,J k a w)->J m a w/\∀j,J j a w->m<=j:=by
    intro a w
    by_cases h:∃k,J k a w
    · obtain⟨k,h1,h2⟩:=zmt h
      exact⟨k,fun _=>⟨h1,h2⟩⟩
    · exact⟨0,fun h'=>absurd h' h⟩
  refine wp_scope_jumps l (fun a w=>∃k,J k a w) (fun a w=>(ex a w).choose) hf first ?_
  intro a w hJ
  have h1:=(ex a w).choose_spec hJ
  refine wp_mono (pass _ a w h1.1) ?_
  intro e a' w' h
  cases e with
  | goto l'=>
    obtain⟨e1,k',hk,hJ'⟩:=h
    refine⟨e1,⟨k',hJ'⟩,?_⟩
    have h2:=(ex a' w').choose_spec ⟨k',hJ'⟩
    exact Nat.lt_of_le_of_lt (h2.2 k' hJ') hk
  | normal=>exact h
  | exit id=>exact h
  | ret=>exact h
  | panic ch=>exact h
  | outgrown=>exact h
def zi8(l:Nat)(K:Env->Sto->Prop)(Q:Exit->Env->Sto->Prop): Exit->Env->Sto->Prop
 | .goto l',Γ,σ=>l'=l/\K Γ σ
 | e,Γ,σ=>Q e Γ σ
theorem zzC{N n:Nat}{Γ' E:Env}{σ:Sto}(h1:LeE E Γ'): Wk N n Γ' σ E σ:=by
 intro ρ w a hn hf hr
 refine⟨ρ,⟨hf.1,hf.2.1,?_⟩,hr,.refl _ _ _ _ hn⟩
 have key:∀(E:Env),LeE E Γ'->∀i,VR σ ρ w (Lf.get E i) (a.tmps.getD i undef):=by
  intro E
  induction E with
  | nil=>intro _ i;simp[Lf.get,VR]
  | cons p E ih=>
   obtain⟨k,x⟩:=p
   intro h i
   simp only[LeE]at h
   simp only[Lf.get]
   split
   ·rename_i e
    subst e
    obtain⟨⟨y,hy,hl⟩,_⟩:=h
    have:=hf.2.2 i
    rw[hy]at this
    exact hl.VR this
   ·exact ih h.2 i
 exact key E h1
theorem jH{P:Program}{N n:Nat}{S:Type}{c B:Code}{Γ:Env}{σ:Sto}{Q:Exit->Env->Sto->Prop}(l:Nat)(E:S->Env)(T:S->Sto)(R:S->Prop)(μ:S->Nat)(hf:findLabel c l=some (.seq .skip B))
    (body:∀s,R s->PWp P N n B (E s) (T s) (zi8 l (fun Γ' σ'=>∃s' κ,R s'/\μ s'<μ s/\okg n κ=true/\LeE (E s') (Γ'.map fun p=>(p.1,fz κ σ' p.2))/\gcS κ σ'=T s') Q))
    (first : (∀ Γ' σ' s0 κ, R s0 -> okg n κ = true -> LeE (E s0) (Γ'.map fun p => (p.1, fz κ σ' p.2)) -> gcS κ σ' = T s0 -> PWp P N n B Γ' σ' (zi8 l (fun Γ' σ' => ∃ s', R s' /\ Wk N n Γ' σ' (E s') (T s')) Q)) ->
      PWp P N n c Γ σ (zi8 l (fun Γ' σ'=>∃s',R s'/\Wk N n Γ' σ' (E s') (T s')) Q)):PWp P N n (.scope c) Γ σ Q:=by
  have wkg:∀Γ' σ' s0 κ,okg n κ=true->LeE (E s0) (Γ'.map fun p=>(p.1,fz κ σ' p.2))->gcS κ σ'=T s0->Wk N n Γ' σ' (E s0) (T s0):=by
    intro Γ' σ' s0 κ hκ h1 h2
    have w1:=zim (N:=N) (Γ:=Γ') (σ:=σ') κ hκ
    rw[h2]at w1
    rw[<-h2]at w1 ⊢
    exact w1.trans (zzC h1)
  have body2:∀s,R s->PWp P N n B (E s) (T s) (zi8 l (fun Γ' σ'=>∃s',R s'/\μ s'<μ s/\Wk N n Γ' σ' (E s') (T s')) Q):=by
    intro s hs
    refine(body s hs).mono ?_
    intro e Γ' σ' q
    cases e with
    | goto l'=>obtain⟨e1,s',κ,h1,h2,h0,h3,h4⟩:=q;exact⟨e1,s',h1,h2,wkg _ _ _ κ h0 h3 h4⟩
    | normal=>exact q
    | exit id=>exact q
    | ret=>exact q
    | panic ch=>exact q
    | outgrown=>exact q
  have hfst:=first (by
    intro Γ' σ' s0 κ hs h0 h1 h2
    refine zbh (wkg _ _ _ κ h0 h1 h2) ((body2 s0 hs).mono ?_)
    intro e Γ2 σ2 q
    cases e with
    | goto l'=>obtain⟨e1,s',h1,h2,h3⟩:=q;exact⟨e1,s',h1,h3⟩
    | normal=>exact q
    | exit id=>exact q
    | ret=>exact q
    | panic ch=>exact q
    | outgrown=>exact q)
  unfold PWp at hfst body2 ⊢
  intro ρ w a hn hfr hr
  refine zcg l (fun k a' w'=>∃s ρ',R s/\μ s=k/\FR N (E s) (T s) ρ' w' a'/\Rel (T s) ρ' w'/\Step n σ ρ w (T s) ρ' w') hf ?_ ?_
  · refine wp_mono (hfst ρ w a hn hfr hr) ?_
    rintro e a' w' ⟨Γ',σ',ρ',q,f2,r2,st⟩
    cases e with
    | goto l'=>
      obtain⟨e1,s',h1,h2⟩:=q
      obtain⟨ρ2,g1,g2,g3⟩:=h2 ρ' w' a' st.len' f2 r2
      exact⟨e1,_,s',ρ2,h1,rfl,g1,g2,st.trans g3⟩
    | normal=>exact⟨_,_,_,q,f2,r2,st⟩
    | exit id=>exact⟨_,_,_,q,f2,r2,st⟩
    | ret=>exact⟨_,_,_,q,f2,r2,st⟩
    | panic ch=>exact⟨_,_,_,q,f2,r2,st⟩
    | outgrown=>exact⟨_,_,_,q,f2,r2,st⟩
  · rintro k a1 w1 ⟨s,ρ1,hs,rfl,f1,r1,s1⟩
    refine wp_seq (wp_skip ?_)
    refine wp_mono (body2 s hs ρ1 w1 a1 s1.len' f1 r1) ?_
    rintro e a' w' ⟨Γ',σ',ρ',q,f2,r2,st⟩
    cases e with
    | goto l'=>
      obtain⟨e1,s',h1,h2,h3⟩:=q
      obtain⟨ρ2,g1,g2,g3⟩:=h3 ρ' w' a' st.len' f2 r2
      exact⟨e1,_,h2,s',ρ2,h1,rfl,g1,g2,(s1.trans st).trans g3⟩
    | normal=>exact⟨_,_,_,q,f2,r2,s1.trans st⟩
    | exit id=>exact⟨_,_,_,q,f2,r2,s1.trans st⟩
    | ret=>exact⟨_,_,_,q,f2,r2,s1.trans st⟩
    | panic ch=>exact⟨_,_,_,q,f2,r2,s1.trans st⟩
    | outgrown=>exact⟨_,_,_,q,f2,r2,s1.trans st⟩
def znX(J:Nat->Act->World->Prop)(Q:Exit->Act->World->Prop): Exit->Act->World->Prop
 | .goto l,a,w=>J l a w
 | e,a,w=>Q e a w
theorem zdd{P:Program}{a:Act}{w:World}{Q:Exit->Act->World->Prop}{c:Code}(J:Nat->Nat->Act->World->Prop)
    (first:c.wp P (znX (fun l a w=>∃k,J l k a w) Q) a w)
    (pass:∀l k a w,J l k a w->∃rest,findLabel c l=some rest/\rest.wp P (znX (fun l' a' w'=>∃k',k'<k/\J l' k' a' w') Q) a w):(Code.scope c).wp P Q a w:=by
  intro b k cs
  have hg:∀{l rest},findLabel c l=some rest->gotoIn l (.inScope c::k)=some (.code rest :: .inScope c::k):=fun hf=>by simp[gotoIn,hf]
  have key:∀m l a w,J l m a w->∃rest,findLabel c l=some rest/\∃e a' w',Q e a' w'/\Arrives P (lone (b.at a (.code rest :: .inScope c::k)) cs w) b k cs e a' w':=by
    intro m
    induction m using Nat.strongRecOn with
    | _ m ih=>
      intro l a w hJ
      obtain⟨rest,hf,hp⟩:=pass l m a w hJ
      refine⟨rest,hf,?_⟩
      obtain⟨e,a₁,w₁,hq,harr⟩:=hp b (.inScope c::k) cs
      cases e with
      | normal=>exact⟨.normal,a₁,w₁,hq,Steps.trans harr (.one step_inScope)⟩
      | exit id=>exact⟨.exit id,a₁,w₁,hq,fun k' hk=>harr k' (by simp[exitTo,hk])⟩
      | goto l'=>
        obtain⟨k',hlt,hJ'⟩:=hq
        obtain⟨rest2,hf2,e₂,a₂,w₂,hq₂,harr₂⟩:=ih k' hlt l' a₁ w₁ hJ'
        exact⟨e₂,a₂,w₂,hq₂,.of_steps (harr _ (hg hf2)) harr₂⟩
      | ret=>exact⟨_,a₁,w₁,hq,harr⟩
      | panic ch=>exact⟨_,a₁,w₁,hq,harr⟩
      | outgrown=>exact⟨_,a₁,w₁,hq,harr⟩
  obtain⟨e,a₁,w₁,hq,harr⟩:=first b (.inScope c::k) cs
  cases e with
  | normal=>exact⟨.normal,a₁,w₁,hq,.head step_scope (Steps.trans harr (.one step_inScope))⟩
  | exit id=>exact⟨.exit id,a₁,w₁,hq,fun k' hk=>.head step_scope (harr k' (by simp[exitTo,hk]))⟩
  | goto l'=>
    obtain⟨k',hJ'⟩:=hq
    obtain⟨rest2,hf2,e₂,a₂,w₂,hq₂,harr₂⟩:=key k' l' a₁ w₁ hJ'
    exact⟨e₂,a₂,w₂,hq₂,.of_steps (.head step_scope (harr _ (hg hf2))) harr₂⟩
  | ret=>exact⟨_,a₁,w₁,hq,.of_steps (.one step_scope) harr⟩
  | panic ch=>exact⟨_,a₁,w₁,hq,.of_steps (.one step_scope) harr⟩
  | outgrown=>exact⟨_,a₁,w₁,hq,.of_steps (.one step_scope) harr⟩
def zaq(J:Nat->Env->Sto->Prop)(Q:Exit->Env->Sto->Prop): Exit->Env->Sto->Prop
 | .goto l,Γ,σ=>J l Γ σ
 | e,Γ,σ=>Q e Γ σ
theorem zcz{J J':Nat->Env->Sto->Prop}{Q:Exit->Env->Sto->Prop}(h:∀l Γ σ,J l Γ σ->J' l Γ σ): ∀e Γ σ,zaq J Q e Γ σ->zaq J' Q e Γ σ:=by
 intro e Γ σ q
 cases e with
 | goto l=>exact h _ _ _ q
 | normal=>exact q
 | exit id=>exact q
 | ret=>exact q
 | panic ch=>exact q
 | outgrown=>exact q
def AtL{S:Type}(n:Nat)(lab:S->Nat)(E:S->Env)(T:S->Sto)(R:S->Prop)(ok:S->Prop)(l:Nat)(Γ:Env)(σ:Sto): Prop:=
 ∃s κ,lab s=l/\R s/\ok s/\okg n κ=true/\LeE (E s) (Γ.map fun p=>(p.1,fz κ σ p.2))/\gcS κ σ=T s
theorem zfh{P:Program}{N n:Nat}{S:Type}{c:Code}{Γ:Env}{σ:Sto}{Q:Exit->Env->Sto->Prop}(lab:S->Nat)(B:S->Code)(E:S->Env)(T:S->Sto)(R:S->Prop)(μ:S->Nat)(hf:∀s,findLabel c (lab s)=some (.seq .skip (B s)))
    (body : ∀ s, R s -> (∀ Γ' σ' s1 κ, R s1 -> μ s1 < μ s -> okg n κ = true -> LeE (E s1) (Γ'.map fun p => (p.1, fz κ σ' p.2)) -> gcS κ σ' = T s1 -> PWp P N n (B s1) Γ' σ' (zaq (AtL n lab E T R (fun s' => μ s' < μ s)) Q)) ->
      PWp P N n (B s) (E s) (T s) (zaq (AtL n lab E T R (fun s'=>μ s'<μ s)) Q))
    (first : (∀ Γ' σ' s0 κ, R s0 -> okg n κ = true -> LeE (E s0) (Γ'.map fun p => (p.1, fz κ σ' p.2)) -> gcS κ σ' = T s0 -> PWp P N n (B s0) Γ' σ' (zaq (AtL n lab E T R (fun _ => True)) Q)) ->
      PWp P N n c Γ σ (zaq (AtL n lab E T R (fun _=>True)) Q)):PWp P N n (.scope c) Γ σ Q:=by
  have wkg:∀Γ' σ' s0 κ,okg n κ=true->LeE (E s0) (Γ'.map fun p=>(p.1,fz κ σ' p.2))->gcS κ σ'=T s0->Wk N n Γ' σ' (E s0) (T s0):=by
    intro Γ' σ' s0 κ hκ h1 h2
    have w1:=zim (N:=N) (Γ:=Γ') (σ:=σ') κ hκ
    rw[h2]at w1
    rw[<-h2]at w1 ⊢
    exact w1.trans (zzC h1)
  have body2:∀m s,μ s=m->R s->PWp P N n (B s) (E s) (T s) (zaq (AtL n lab E T R (fun s'=>μ s'<μ s)) Q):=by
    intro m
    induction m using Nat.strongRecOn with
    | _ m ih=>
      intro s hm hs
      refine body s hs ?_
      intro Γ' σ' s1 κ hR hlt h0 h1 h2
      refine zbh (wkg _ _ _ κ h0 h1 h2) ((ih (μ s1) (by omega) s1 rfl hR).mono ?_)
      refine zcz ?_
      rintro l Γ2 σ2 ⟨s2,κ2,e1,e2,e3,e4⟩
      exact⟨s2,κ2,e1,e2,Nat.lt_trans e3 hlt,e4⟩
  have hfst:=first (by
    intro Γ' σ' s0 κ hs h0 h1 h2
    refine zbh (wkg _ _ _ κ h0 h1 h2) ((body2 _ s0 rfl hs).mono ?_)
    refine zcz ?_
    rintro l Γ2 σ2 ⟨s2,κ2,e1,e2,e3,e4⟩
    exact⟨s2,κ2,e1,e2,trivial,e4⟩)
  unfold PWp at hfst body2 ⊢
  intro ρ w a hn hfr hr
  refine zdd (fun l k a' w'=>∃s ρ',lab s=l/\R s/\μ s=k/\FR N (E s) (T s) ρ' w' a'/\Rel (T s) ρ' w'/\Step n σ ρ w (T s) ρ' w') ?_ ?_
  · refine wp_mono (hfst ρ w a hn hfr hr) ?_
    rintro e a' w' ⟨Γ',σ',ρ',q,f2,r2,st⟩
    cases e with
    | goto l'=>
      obtain⟨s',κ,e1,h1,_,hκ,h2,h3⟩:=q
      obtain⟨ρ2,g1,g2,g3⟩:=wkg _ _ _ κ hκ h2 h3 ρ' w' a' st.len' f2 r2
      exact⟨_,s',ρ2,e1,h1,rfl,g1,g2,st.trans g3⟩
    | normal=>exact⟨_,_,_,q,f2,r2,st⟩
    | exit id=>exact⟨_,_,_,q,f2,r2,st⟩
    | ret=>exact⟨_,_,_,q,f2,r2,st⟩
    | panic ch=>exact⟨_,_,_,q,f2,r2,st⟩
    | outgrown=>exact⟨_,_,_,q,f2,r2,st⟩
  · rintro l k a1 w1 ⟨s,ρ1,rfl,hs,rfl,f1,r1,s1⟩
    refine⟨_,hf s,?_⟩
    refine wp_seq (wp_skip ?_)
    refine wp_mono (body2 _ s rfl hs ρ1 w1 a1 s1.len' f1 r1) ?_
    rintro e a' w' ⟨Γ',σ',ρ',q,f2,r2,st⟩
    cases e with
    | goto l'=>
      obtain⟨s',κ,e1,h1,hlt,hκ,h2,h3⟩:=q
      obtain⟨ρ2,g1,g2,g3⟩:=wkg _ _ _ κ hκ h2 h3 ρ' w' a' st.len' f2 r2
      exact⟨_,hlt,s',ρ2,e1,h1,rfl,g1,g2,(s1.trans st).trans g3⟩
    | normal=>exact⟨_,_,_,q,f2,r2,s1.trans st⟩
    | exit id=>exact⟨_,_,_,q,f2,r2,s1.trans st⟩
    | ret=>exact⟨_,_,_,q,f2,r2,s1.trans st⟩
    | panic ch=>exact⟨_,_,_,q,f2,r2,s1.trans st⟩
    | outgrown=>exact⟨_,_,_,q,f2,r2,s1.trans st⟩
def zEo(B0 B1 B2:Code)(k:Fin 3): Code:=match k with|0=>B0|1=>B1|2=>B2
theorem zfi{P:Program}{N n:Nat}{S:Type}{c B0 B1 B2:Code}{Γ:Env}{σ:Sto}{Q:Exit->Env->Sto->Prop}(lab:S->Fin 3)(E:S->Env)(T:S->Sto)(R:S->Prop)(μ:S->Nat)
    (h0:findLabel c 0=some (.seq .skip B0)) (h1:findLabel c 1=some (.seq .skip B1)) (h2:findLabel c 2=some (.seq .skip B2))
    (body0 : ∀ s, lab s = 0 -> R s -> (∀ Γ' σ' s1 κ, lab s1 = 1 -> R s1 -> μ s1 < μ s -> okg n κ = true -> LeE (E s1) (Γ'.map fun p => (p.1, fz κ σ' p.2)) -> gcS κ σ' = T s1 -> PWp P N n B1 Γ' σ' (zaq (AtL n (fun s => (lab s).val) E T R (fun s' => μ s' < μ s)) Q)) ->
      PWp P N n B0 (E s) (T s) (zaq (AtL n (fun s=>(lab s).val) E T R (fun s'=>μ s'<μ s)) Q))
    (body1:∀s,lab s=1->R s->PWp P N n B1 (E s) (T s) (zaq (AtL n (fun s=>(lab s).val) E T R (fun s'=>μ s'<μ s)) Q))
    (body2:∀s,lab s=2->R s->PWp P N n B2 (E s) (T s) (zaq (AtL n (fun s=>(lab s).val) E T R (fun s'=>μ s'<μ s)) Q))
    (first : (∀ Γ' σ' s0 κ, lab s0 = 0 -> R s0 -> okg n κ = true -> LeE (E s0) (Γ'.map fun p => (p.1, fz κ σ' p.2)) -> gcS κ σ' = T s0 -> PWp P N n B0 Γ' σ' (zaq (AtL n (fun s => (lab s).val) E T R (fun _ => True)) Q)) ->
      PWp P N n c Γ σ (zaq (AtL n (fun s=>(lab s).val) E T R (fun _=>True)) Q)):PWp P N n (.scope c) Γ σ Q:=by
  refine zfh (fun s=>(lab s).val) (fun s=>zEo B0 B1 B2 (lab s)) E T R μ ?_ ?_ ?_
  · intro s
    generalize lab s=k
    match k with
    | 0=>exact h0
    | 1=>exact h1
    | 2=>exact h2
  · intro s hs hB
    rcases(show lab s=0\/lab s=1\/lab s=2 by omega)with e|e|e
    · rw[e]
      refine body0 s e hs ?_
      intro Γ' σ' s1 κ e1 hR hlt hk hl hg
      have:=hB Γ' σ' s1 κ hR hlt hk hl hg
      rw[e1]at this
      exact this
    · rw[e];exact body1 s e hs
    · rw[e];exact body2 s e hs
  · intro hB
    refine first ?_
    intro Γ' σ' s0 κ e1 hR hk hl hg
    have:=hB Γ' σ' s0 κ hR hk hl hg
    rw[e1]at this
    exact this
end Go.Proofs.YtdalcgfnlbofdaaGreatDoor
namespace Go.Lf
open Go
theorem zek {M : Nat -> Prop} {w : World} : ∀ l : List UInt8, PVl M w (l.map zk).flatten (l.map fun x => Value.int .u8 x.toNat)
 | []=>by simp[PVl]
 | x::l=>by simp only[List.map_cons,List.flatten_cons,zk,List.cons_append,List.nil_append,PVl,PV];exact⟨trivial,zek l⟩
theorem zi9{P:Program}{N:Nat}{o:Oper}{Γ:Env}{σ:Sto}{K:AV->Sto->Prop}{t t2 e:Nat}{x:Operand}{l:List UInt8}(ho:o.op=.convert t2 t x)(hs:P.underlying t2=some .string)(ht:P.underlying t=some (.slice e))(he:P.underlying e=some (.int .u8))
    (hx:ev Γ x=.lit (.string ⟨l.toArray⟩)) (hl:l.length<=9223372036854775807) (hK:K (.sl false false (l.map zk)) σ):SOp P N o Γ σ K:=by
  intro ρ w a next Q hF hr hn'
  have hv:=hF.ev x
  rw[hx]at hv
  simp only[VR]at hv
  have hrun0:=Go.Lib.run_convert_string_bytes (P:=P) w t2 t e ⟨l.toArray⟩ hs ht he
  have hls:(⟨l.toArray⟩:ByteArray).size=l.length:=rfl
  have hrun:(execOp a.eval o).run P w=.ok (.value (.slice (some ⟨w.heap.size,0,none⟩) l.length (grownCap w l.length 0 e))) (Go.Lib.bytesWorld w e ⟨l.toArray⟩):=by
    rw[hls]at hrun0
    simp[execOp,ho,hv,hrun0]
  obtain⟨w',hw⟩:∃w',Go.Lib.bytesWorld w e ⟨l.toArray⟩=w':=⟨_,rfl⟩
  have hsz:w'.heap.size=w.heap.size+1:=by rw[<-hw];exact Go.Lib.bytesWorld_size w e _
  have hkk:∀b,b<w.heap.size->w'.heap[b]?=w.heap[b]?:=fun b hb=>by rw[<-hw];exact Go.Lib.bytesWorld_at_old w e _ b hb
  have hcell:∀j (hj:j<l.length),w'.cell? ⟨w.heap.size,j,none⟩=some (.int .u8 (l[j].toNat:Int)):=by
    intro j hj
    rw[<-hw]
    have:=Go.Lib.bytesWorld_cell w e ⟨l.toArray⟩ j hj
    rw[this]
    simp[List.getD,hj]
  have hfl:w'.os=w.os/\w'.tape=w.tape/\w'.output=w.output:=by rw[<-hw];unfold Go.Lib.bytesWorld World.freeze;rw[if_neg (by decide)];exact⟨rfl,rfl,rfl⟩
  have st:Step σ.length σ ρ w σ ρ w':=⟨hfl.1,hfl.2.1,hfl.2.2,by omega,fun b hb _=>hkk b hb,fun b hb=>.inl hb,Nat.le_refl _,Nat.le_refl _,fun o ho=>.refl _ _ (by simp;omega),rfl⟩
  have hr':Rel σ ρ w':=by
    refine⟨fun o ob h=>?_,hr.inj,fun b hb=>Nat.lt_of_lt_of_le (hr.fol b hb) (by omega),hr.dis⟩
    have hO:=hr.obj _ _ h
    cases hl:ob.live with
    | false=>cases ob<;>simp[Ob.live]at hl;trivial
    | true=>exact hO.carry st (fun b hb'=>hkk b (hr.blk_lt _ _ _ h hl hb'))
  unfold Oper.wp
  rw[hrun,Oper.upon_value,hw]
  refine hn' _ _ _ _ _ hK hr' ?_ st
  simp only[VR]
  refine⟨some ⟨w.heap.size,0,none⟩,grownCap w l.length 0 e,1,by rw[List.length_map],by rw[List.length_map];exact grownCap_ge w _ _ _,grownCap_le_maxLen w _ _ _ (by simp only[maxLen];omega),by simp,by simp,by intro y hy;simp only[List.mem_map]at hy;obtain⟨_,_,rfl⟩:=hy;rfl,fun _=>⟨w.heap.size,0,rfl,by omega,?_,?_⟩⟩
  · intro hB
    rcases(Bset.mset hB)with⟨o2,ob2,q1,q2,q3⟩|q
    · have:=hr.blk_lt _ _ _ q1 q2 q3
      omega
    · have:=hr.fol _ q
      omega
  · refine zag _ _ _ ?_
    refine zaD _ (l.map fun x=>Value.int .u8 x.toNat) _ _ ?_ ?_ (fun j u hj=>?_)
    · exact zek l
    · intro v hv
      simp only[List.mem_map]at hv
      obtain⟨y,_,rfl⟩:=hv
      rfl
    · rw[Nat.zero_add]
      rw[List.getElem?_map]at hj
      cases hg:l[j]? with
      | none=>rw[hg]at hj;cases hj
      | some y=>
        obtain⟨hjl,hy⟩:=List.getElem?_eq_some_iff.1 hg
        rw[hg]at hj
        simp only[Option.map_some,Option.some.injEq]at hj
        rw[hcell j hjl,hy,<-hj]
theorem zja{P:Program}{N:Nat}{o:Oper}{Γ:Env}{σ:Sto}{K:AV->Sto->Prop}{t t2 e:Nat}{x:Operand}{l:List UInt8}(ho:o.op=.convert t2 t x)(hs:P.underlying t2=some .string)(ht:P.underlying t=some (.slice e))(he:P.underlying e=some (.int .u8))
    (hx:ev Γ x=.lit (.string ⟨l.toArray⟩)) (hl:l.length<=9223372036854775807) (hK:K (.sl false false (l.map zk)) σ):SOp P N o Γ σ K:=zi9 ho hs ht he hx hl hK
end Go.Lf
namespace Go.Proofs.YtdalcgfnlbofdaaGreatDoor
open Go Go.Lf Go.Proofs
attribute [local irreducible] Lf.rg Lf.ro Lf.PWp Lf.SOp Lf.ACall Lf.Scoped Lf.dg Lf.dw
set_option maxRecDepth 20000
set_option maxHeartbeats 4000000
section
section
variable {P : Program} {N : Nat} {o : Oper} {Γ : Env} {σ : Sto} {K : AV -> Sto -> Prop} {x y : Operand} {ts : Array TypeId} {k k' : IntKind} {a b : Int}
theorem zbG(ho:o.op=.call { callee:=.builtin .max,args:=#[x,y],argTypes:=ts })(hx:ev Γ x=.lit (.int k a))(hy:ev Γ y=.lit (.int k' b))(h:b<=a)(hK:K (.lit (.int k a)) σ): SOp P N o Γ σ K:=by
 refine SOp.pure (.lit (.int k a)) (fun ρ w ac hf hr=>⟨.int k a,?_,rfl⟩) hK
 have e1:=hf.lit hx
 have e2:=hf.lit hy
 have h2:¬b>a:=by omega
 simp[execOp,ho,resolve,invoke,builtin,Builtin.max_,Builtin.max2,e1,e2,h2]
theorem zfj(ho:o.op=.call { callee:=.builtin .max,args:=#[x,y],argTypes:=ts })(hx:ev Γ x=.lit (.int k a))(hy:ev Γ y=.lit (.int k' b))(h:a<=b)(hK:K (.lit (.int k b)) σ): SOp P N o Γ σ K:=by
 refine SOp.pure (.lit (.int k b)) (fun ρ w ac hf hr=>⟨.int k b,?_,rfl⟩) hK
 have e1:=hf.lit hx
 have e2:=hf.lit hy
 by_cases h2:b>a
 ·simp[execOp,ho,resolve,invoke,builtin,Builtin.max_,Builtin.max2,e1,e2,h2]
 ·obtain rfl : a = b := by omega
  simp[execOp,ho,resolve,invoke,builtin,Builtin.max_,Builtin.max2,e1,e2]
theorem vN(ho:o.op=.call { callee:=.builtin .max,args:=#[x,y],argTypes:=ts })(hx:ev Γ x=.lit (.int k a))(hy:ev Γ y=.lit (.int k b))(hK:K (.lit (.int k (max a b))) σ): SOp P N o Γ σ K:=by
 by_cases h:b<=a
 ·rw [show max a b = a from by omega] at hK
  exact zbG ho hx hy h hK
 ·rw [show max a b = b from by omega] at hK
  exact zfj ho hx hy (by omega) hK
theorem zpP(ho:o.op=.call { callee:=.builtin .min,args:=#[x,y],argTypes:=ts })(hx:ev Γ x=.lit (.int k a))(hy:ev Γ y=.lit (.int k' b))(h:a<=b)(hK:K (.lit (.int k a)) σ): SOp P N o Γ σ K:=by
 refine SOp.pure (.lit (.int k a)) (fun ρ w ac hf hr=>⟨.int k a,?_,rfl⟩) hK
 have e1:=hf.lit hx
 have e2:=hf.lit hy
 have h2:¬b<a:=by omega
 simp[execOp,ho,resolve,invoke,builtin,Builtin.min_,Builtin.min2,e1,e2,h2]
theorem zpQ(ho:o.op=.call { callee:=.builtin .min,args:=#[x,y],argTypes:=ts })(hx:ev Γ x=.lit (.int k a))(hy:ev Γ y=.lit (.int k' b))(h:b<=a)(hK:K (.lit (.int k b)) σ): SOp P N o Γ σ K:=by
 refine SOp.pure (.lit (.int k b)) (fun ρ w ac hf hr=>⟨.int k b,?_,rfl⟩) hK
 have e1:=hf.lit hx
 have e2:=hf.lit hy
 by_cases h2:b<a
 ·simp[execOp,ho,resolve,invoke,builtin,Builtin.min_,Builtin.min2,e1,e2,h2]
 ·obtain rfl : a = b := by omega
  simp[execOp,ho,resolve,invoke,builtin,Builtin.min_,Builtin.min2,e1,e2]
end
end
section
structure Fl where
 (n v:ByteArray) (k:Bool)
deriving DecidableEq
@[go_sem] def flA(f:Fl): List AV:=[.lit (.string f.n),.lit (.string f.v),bl f.k]
@[go_sem] theorem zvZ(l:List Fl): y9 (l.map flA).flatten=true:=ze (fun _=>rfl) l
@[go_sem] theorem zv0{κ:List Nat}{σ:Sto}(l:List Fl): List.map (fzl κ σ) (l.map flA)=l.map flA:=vc (fun _=>rfl) l
def fl0: Fl:=⟨⟨#[]⟩,⟨#[]⟩,false⟩
def xsE: List Fl:=[]
def flN(f:Fl): Fl:=⟨f.n,f.v,false⟩
def wt(f:Fl): Int:=f.n.size+f.v.size+32
theorem zzD(f:Fl): wt (flN f)=wt f:=rfl
theorem zjb(f:Fl): 32<=wt f:=by unfold wt;omega
def zC: List Fl->Int
 | []=>0
 | f::l=>wt f+zC l
theorem sumW_nil: zC []=0:=rfl
theorem zde: ∀(a b:List Fl),zC (a++b)=zC a+zC b
 | [],b=>by rw[List.nil_append,sumW_nil];omega
 | f::a,b=>by rw[List.cons_append,zC,zC,zde a b];omega
theorem j5: ∀l,0<=zC l/\(l≠[]->32<=zC l)
 | []=>⟨by rw[sumW_nil];omega,fun h=>absurd rfl h⟩
 | f::l=>by
  have:=j5 l
  have:=zjb f
  rw[zC]
  exact⟨by omega,fun _=>by omega⟩
def keptL: List Fl->Int->List Fl
 | [],_=>[]
 | x::xs,m=>if m<zC (x::xs)then keptL xs m else x::xs
def zub: List Fl->Int->Int->Nat
 | [],_,_=>0
 | x::l,n,m=>if m<n+wt x then 0 else zub l (n+wt x) m+1
theorem vO(m:Int)(h0:0<=m): ∀l,zC (keptL l m)<=m
 | []=>h0
 | x::xs=>by
  unfold keptL
  split
  ·exact vO m h0 xs
  ·omega
theorem yS(m:Int): ∀l,(keptL l m).length<=l.length
 | []=>Nat.le_refl _
 | x::xs=>by
  unfold keptL
  have:=yS m xs
  split
  ·rw[List.length_cons];omega
  ·exact Nat.le_refl _
theorem v3(m:Int): ∀l,∀f∈keptL l m,f∈l
 | []=>fun f h=>h
 | x::xs=>by
  intro f h
  unfold keptL at h
  split at h
  ·exact List.mem_cons_of_mem _ (v3 m xs f h)
  ·exact h
theorem zjc{l:List Fl}{m:Int}(h:zC l<=m): keptL l m=l:=by
 cases l with
 | nil=>rfl
 | cons x xs=>unfold keptL;rw[if_neg (by omega)]
theorem keptL_zero(l:List Fl): keptL l 0=[]:=by
 have h:=vO 0 (by decide) l
 have:=j5 (keptL l 0)
 by_cases he:keptL l 0=[]
 ·exact he
 ·have:=this.2 he;omega
theorem zmu(l:List UInt8): ∀(k i:Nat) (r:List UInt8),i+k=l.length->ByteArray.toList.loop ⟨l.toArray⟩ i r=r.reverse++l.drop i:=by
 intro k
 induction k with
 | zero=>
  intro i r h
  unfold ByteArray.toList.loop
  have hs:(ByteArray.mk l.toArray).size=l.length:=rfl
  rw[if_neg (by rw[hs];omega),List.drop_of_length_le (by omega),List.append_nil]
 | succ k ih=>
  intro i r h
  unfold ByteArray.toList.loop
  have hs:(ByteArray.mk l.toArray).size=l.length:=rfl
  rw[if_pos (by rw[hs];omega),ih (i+1) _ (by omega)]
  have hg:(ByteArray.mk l.toArray).get! i=l[i]'(by omega):=by
   show(l.toArray)[i]! = _
   simp[show i<l.length by omega]
  rw[hg,List.reverse_cons,List.append_assoc]
  congr 1
  rw[List.drop_eq_getElem_cons (i:=i) (by omega)]
  rfl
theorem zcA(l:List UInt8): ByteArray.toList ⟨l.toArray⟩=l:=by
 unfold ByteArray.toList
 rw[zmu l l.length 0 [] (by omega)]
 simp
@[go_sem] theorem zEp(a b:ByteArray): (a.toList == b.toList)=decide (a=b):=by
 obtain⟨⟨a⟩⟩:=a;obtain⟨⟨b⟩⟩:=b
 rw[zcA,zcA]
 by_cases h:a=b<;>simp[h]
theorem vU{α:Type}{l:List α}{i:Nat}{x:α}(h:l[i]?=some x): l.drop i=x::l.drop (i+1):=by
 obtain⟨hi,rfl⟩:=List.getElem?_eq_some_iff.1 h
 exact List.drop_eq_getElem_cons hi
theorem zar{α:Type}{l:List α}{i:Nat}{x:α}(h:l[i]?=some x): l.take (i+1)=l.take i++[x]:=by
 rw[List.take_add_one,h];rfl
def ku(n v:ByteArray): List Fl->Int->Int
 | [],_=>0
 | f::l,i=>if f.n=n/\f.v=v then i else ku n v l (i+1)
def vD(n:ByteArray): List Fl->Int->Int
 | [],_=>0
 | f::l,i=>if f.n=n then i else vD n l (i+1)
def fnI(R:List Fl)(n v:ByteArray): Int:=if ku n v R 1≠0 then ku n v R 1 else vD n R 1
def fnB(R:List Fl)(n v:ByteArray): Bool:=decide (ku n v R 1≠0)
theorem zuc{R:List Fl}{n v:ByteArray}{k:Int}(h:ku n v R 1=k)(hk:k≠0): fnI R n v=k/\fnB R n v=true:=by
 unfold fnI fnB
 rw[h,if_pos hk]
 exact⟨rfl,by simp[hk]⟩
theorem zpR{R:List Fl}{n v:ByteArray}{k:Int}(h:ku n v R 1=0)(hk:vD n R 1=k): fnI R n v=k/\fnB R n v=false:=by
 unfold fnI fnB
 rw[h,if_neg (by simp)]
 exact⟨hk,by simp⟩
theorem zgi(n v:ByteArray): ∀(l:List Fl) (i:Int),1<=i->0<=ku n v l i/\ku n v l i<i+l.length
 | [],i,h=>by unfold ku;rw[List.length_nil];omega
 | f::l,i,h=>by
  unfold ku
  have:=zgi n v l (i+1) (by omega)
  rw[List.length_cons]
  split<;>omega
theorem zdf(n:ByteArray): ∀(l:List Fl) (i:Int),1<=i->0<=vD n l i/\vD n l i<i+l.length
 | [],i,h=>by unfold vD;rw[List.length_nil];omega
 | f::l,i,h=>by
  unfold vD
  have:=zdf n l (i+1) (by omega)
  rw[List.length_cons]
  split<;>omega
theorem zpS(R:List Fl)(n v:ByteArray): 0<=fnI R n v/\fnI R n v<=R.length:=by
 have a:=zgi n v R 1 (by decide)
 have b:=zdf n R 1 (by decide)
 unfold fnI
 split<;>omega
theorem zud{l:List Fl}{i:Nat}{f:Fl}(h:l.reverse[i]?=some f): l[l.length-(i+1)]?=some f:=by
 have hi:=(List.getElem?_eq_some_iff.1 h).1
 rw[List.length_reverse]at hi
 rw[List.getElem?_reverse hi]at h
 rw[<-h];congr 1;omega
theorem zjd{P:Program}{f:FuncId}{args:List AV}{σ τ τ2:Sto}{r r2:AV}(h:AEq P f args σ r τ)(hw:∀ρ w v,Rel τ ρ w->GV τ ρ w->VR τ ρ w r v->∃ρ',Rel τ2 ρ' w/\VR τ2 ρ' w r2 v/\Step τ.length τ ρ w τ2 ρ' w): AEq P f args σ r2 τ2:=by
 unfold AEq ACall at *
 intro ρ w vs hr hG hv
 refine(h ρ w vs hr hG hv).mono ?_
 rintro e w' ⟨x,σ3,ρ3,v,h1,⟨rfl,rfl⟩,h3,h4,h5⟩
 obtain⟨ρ4,k1,k2,k3⟩:=hw ρ3 w' v h3 (hG.carry h5) h4
 exact⟨_,_,ρ4,v,h1,⟨rfl,rfl⟩,k1,k2,h5.trans (k3.mono h5.len')⟩
theorem zhO{σ:Sto}{q:Bool}{cs:List AV}{r:AV}(o k e sz:Nat)(h00:0<sz)(hob:σ[o]?=some (.box cs))(hc:cs[k]?=some (.sl true q []))(ρ:Rz)(w:World)(v:Value)(hr:Rel σ ρ w)(hG:GV σ ρ w)(hv:VR σ ρ w r v):
    ∃ρ',Rel ((σ++[Ob.row 0 e sz []]).set o (Ob.box (cs.set k (AV.row σ.length 0)))) ρ' w/\VR ((σ++[Ob.row 0 e sz []]).set o (Ob.box (cs.set k (AV.row σ.length 0)))) ρ' w r v/\Step σ.length σ ρ w ((σ++[Ob.row 0 e sz []]).set o (Ob.box (cs.set k (AV.row σ.length 0)))) ρ' w:=by
  obtain⟨ρ',_,h2,h3⟩:=ze6 (N:=0) (n:=σ.length) (Γ:=[]) o k e sz h00 hob hc ρ w { tmps:=#[],defers:=[] } (Nat.le_refl _) ⟨rfl,⟨rfl,hG⟩,fun i=>trivial⟩ hr
  exact⟨ρ',h2,VR.carry h3 _ _ hv,h3⟩
theorem zdg(f:Fl)(h1:f.n.size<=1000000000)(h2:f.v.size<=1000000000): AEq Tryz.prog 223 [.ag (flA f)] [] (i64 (wt f)) []:=by
 refine enT Tryz.func223 Tryz.ntmps223 ?_
 have hU:=True.intro
 repeat'(first|refine goR ?_|refine zd fun K hK=>?_|((refine zo [] (by rw[Tryz.results223,Lf.zI]) (zw ?_) ?_)<;>(try exact uT))|refine hK _ _ ?_;clear hK K)
theorem zue(m:Int): AEq Tryz.prog 149 [i64 m] [] (bl (decide (0<=m/\m<=2147483647))) []:=by
 refine enT Tryz.func149 Tryz.ntmps149 ?_
 have hU:=True.intro
 repeat'(first|refine goR ?_|refine zd fun K hK=>?_|((refine zo [] (by rw[Tryz.results149,Lf.zI]) (zw ?_) ?_)<;>(try exact uT))|refine hK _ _ ?_;clear hK K)
 exact zJ (by simp)
theorem zje(f q:Bool)(l:List Fl)(h:l.length<=100000000): AEq Tryz.prog 210 [.sl f q (l.map flA)] [] (.row 0 0) [.row 0 103 3 (l.map flA)]:=by
 refine enT Tryz.func210 Tryz.ntmps210 ?_
 have hU:=True.intro
 repeat'(first|(guard_target =~ PWp _ _ _ Code.ret _ _ _;refine kD 2 103 3 (by decide) (by rfl) rfl rfl ?_)|refine goS ?_|refine zd fun K hK=>?_|refine zc ?_ ?_<;>intro hcd<;>(try simp only[hcP]at hcd)<;>try exact cdT|(guard_target =~ SOp _ _ ⟨_,.binOp _ _ _ _ _,_,_,_,none⟩ _ _ _;refine ze3 (ne:=false) rfl (hx:=⟨_,sT,rfl⟩) (hK:=(fun b hb=>?_)))|((refine zo [0] (by rw[Tryz.results210,Lf.zI]) (zw ?_) ?_)<;>(try exact uT))|refine hK _ _ ?_;clear hK K)
 exact stq (by have h0:=hb hcd;rw[List.length_map]at h0;rw[List.eq_nil_of_length_eq_zero h0];rfl)
open Go Go.Lf Go.Proofs Go.RowKit
theorem zmv{P:Program}{ops:Array Oper}{o:Oper}{a:Act}{w:World}{K:Act->World->Prop}{Q:Exit->Act->World->Prop}{E:Prop}
    (hg:o.guard=none) (s x:Operand) (t:TypeId) (hop:o.op=Op.call { callee:=Callee.builtin Builtin.append,args:=#[s,x],argTypes:=#[t,t] })
    (e:TypeId) (i:TypeInfo) (size:Nat) (h1:P.underlying t=some (.slice e)) (h2:P.info? e=some i) (h4:i.size=size)
    (b n cap:Nat) (cur:Array Value) (hb:w.heap[b]?=some (.cells cur e (0,0))) (hs:a.eval s=.slice (some ⟨b,0,none⟩) n cap)
    (ad:Addr) (m c:Nat) (news:List Value) (hx:a.eval x=.slice (some ad) m c) (hn:news.length=m*size) (hc:∀j u,news[j]?=some u->w.cell? (ad.add j)=some u) (h1c:∀u∈news,u.oneCell'=true)
    (hroom:n+m<=cap) (hfit:n*size+news.length<=cur.size)
    (hK:K (a.put o.dst (.slice (some ⟨b,0,none⟩) (n+m) cap)) (w.setRow b (cur.toList.take (n*size)++news++cur.toList.drop (n*size+news.length)).toArray)) :
    if Region.wanted o (yielded ops a.tmps)=true then Oper.wp P o a w K Q else E:=by
  have hw:Region.wanted o (yielded ops a.tmps)=true:=by simp[Region.wanted,hg]
  rw[if_pos hw]
  subst h4
  have hrun:=run_append_room (P:=P) w t o.type e i h1 h2 b n cap cur hb ad m c news hn hc h1c hroom hfit
  unfold Oper.wp
  simp[execOp,hop,resolve,invoke,builtin,hs,hx,hrun,Result.andThen]
  rw[List.append_assoc]at hK
  exact hK
theorem zfk{P:Program}(w:World)(t e:TypeId)(z:Value)(sz:Nat)(ht:P.underlying t=some (.slice e))(hv:∀w,(zeroValue e).run P w=.ok z w)(hz:z.cells.size=sz)(h1:∀u∈z.cells.toList,u.oneCell'=true)(b o n c:Nat)(hn:0<n)
    (cur:Array Value) (hb:w.heap[b]?=some (.cells cur e (0,0))) (hfit:o+n*sz<=cur.size) :
    ∃zs:List Value,zs.length=n*sz/\∀ty,(Builtin.clear_ #[t] ty #[.slice (some ⟨b,o,none⟩) n c]).run P w=.ok (.tuple #[]) (w.setRow b (cur.toList.take o++zs++cur.toList.drop (o+n*sz)).toArray):=by
  have hl:(Builtin.zeroCells z.cells n).toList.length=n*sz:=by rw[Array.length_toList,size_zeroCells,hz]
  refine⟨(Builtin.zeroCells z.cells n).toList,hl,fun ty=>?_⟩
  have hst:=run_storeCells_at (P:=P) b o e (Builtin.zeroCells z.cells n).toList 0 cur w hb (by rw[hl];omega) (by
    intro v hv'
    simp only[Builtin.zeroCells,Array.toList_map,List.mem_map]at hv'
    obtain⟨j,_,rfl⟩:=hv'
    by_cases hj:j % z.cells.size<z.cells.size
    · rw[getElem!_pos z.cells _ hj]
      exact h1 _ (by simp)
    · rw[getElem!_neg z.cells _ hj];rfl)
  rw[Nat.add_zero,hl]at hst
  obtain⟨m,rfl⟩:∃m,n=m+1:=⟨n-1,by omega⟩
  simp[Builtin.clear_,run_underlying ht,hv,hst]
theorem zmw(w:World)(b:Nat)(cur:Array Value)(e:TypeId)(hb:w.drew.heap[b]?=some (.cells cur e (0,0)))(c X:Array Value): ((w.drew.setRow b c).setRow b X).heap=(w.setRow b X).heap:=by
 have hb':w.heap[b]?=some (.cells cur e (0,0)):=hb
 apply Array.ext_getElem?
 intro i
 by_cases h:b=i
 ·subst h
  rw[setRow_heap _ b c X e _ (setRow_heap w.drew b cur c e _ hb),setRow_heap w b cur X e _ hb']
 ·rw[setRow_other _ b i _ (Ne.symm h),setRow_other _ b i _ (Ne.symm h),setRow_other _ b i _ (Ne.symm h)];rfl
theorem zgj(v:Value)(b:Option Addr)(n cap:Nat)(w:World)(hv:v=.slice b n cap)(hn:n<=cap)(hm:cap<=9223372036854775807):
    Calls Tryz.prog 224 #[.slice b n cap,.int .i64 0,.int .i64 0] w fun e w'=>e=.returned (.slice b n cap)/\w'=w:=by
  go_enter Tryz.func224,Tryz.ntmps224
  go_wp2
  all_goals(go_ret;exact⟨rfl,rfl⟩)
theorem zuf(b n cap k:Nat)(cur:Array Value)(w:World)(hb:w.heap[b]?=some (.cells cur 103 (0,0)))(hn:n<=cap)(hm:cap<=9223372036854775807)(hk:k<=n)(hk0:0<k)(hsz:cur.size=cap*3)(hone:∀u∈(cur.toList.take (n*3)).drop (k*3),u.oneCell'=true):
    Calls Tryz.prog 224 #[.slice (some ⟨b, 0, none⟩) n cap, .int .i64 0, .int .i64 k] w fun e w' => e = .returned (.slice (some ⟨b, 0, none⟩) (n - k) cap) /\ w'.os = w.os /\ w'.tape = w.tape /\ w'.output = w.output /\
      ∃rest:List Value,w'.heap=(w.setRow b ((cur.toList.take (n*3)).drop (k*3)++rest).toArray).heap/\((cur.toList.take (n*3)).drop (k*3)++rest).length=cap*3:=by
  obtain⟨i0,hi0,hz1⟩:∃i,Tryz.prog.info? 103=some i/\i.size=3:=⟨_,rfl,rfl⟩
  obtain⟨news,hnews⟩:∃news,news=(cur.toList.take (n*3)).drop (k*3):=⟨_,rfl⟩
  rw[<-hnews]at hone ⊢
  have hlen:news.length=(n-k)*3:=by rw[hnews,List.length_drop,List.length_take,Array.length_toList,hsz];omega
  have hget:∀j u,news[j]?=some u->cur[k*3+j]?=some u:=by
    intro j u hu
    rw[hnews,List.getElem?_drop,List.getElem?_take]at hu
    split at hu
    · rw[<-Array.getElem?_toList];exact hu
    · cases hu
  obtain⟨A,hA,hsrc⟩:∃A:Addr,(if cap=k then some (⟨b,0,none⟩:Addr)else some ⟨b,k*3,none⟩)=some A/\Hid (∀j u,news[j]?=some u->w.drew.cell? (A.add j)=some u):=by
    by_cases h:cap=k
    · refine ⟨⟨b, 0, none⟩, by simp [h], fun j u hu => ?_⟩
      have h0:news.length=0:=by rw[hlen];omega
      rw[List.length_eq_zero_iff.1 h0]at hu
      simp at hu
    · refine ⟨⟨b, k * 3, none⟩, by simp [h], fun j u hu => ?_⟩
      rw[Addr.add_lit]
      show(w.cell? ⟨b,k*3+j,none⟩)=some u
      have:=hget j u hu
      simp[World.cell?,hb,this]
  have s1:Hid (news.length=(n-k)*3):=hlen
  have s2:Hid (∀u∈news,u.oneCell'=true):=hone
  have s3:Hid (w.drew.heap[b]?=some (.cells cur 103 (0,0))):=hb
  have s4:Hid (0*3+news.length<=cur.size):=by show 0*3+news.length<=cur.size;rw[hlen,hsz];omega
  obtain⟨c1,hc1⟩:∃c1,c1=cur.toList.take (0*3)++news++cur.toList.drop (0*3+news.length):=⟨_,rfl⟩
  have hc1l:c1.length=cap*3:=by rw[hc1];simp[hlen,hsz];omega
  obtain⟨W1,hW1⟩:∃W1,W1=w.drew.setRow b c1.toArray:=⟨_,rfl⟩
  have hH1:W1.heap[b]?=some (.cells c1.toArray 103 (0,0)):=by rw[hW1];exact setRow_heap w.drew b cur c1.toArray _ _ hb
  have hcl:∃zs:List Value,zs.length=k*3/\∀ty,(Builtin.clear_ #[22] ty #[.slice (some ⟨b,(n-k)*3,none⟩) k (cap-(n-k))]).run Tryz.prog W1=.ok (.tuple #[]) (W1.setRow b (c1.take ((n-k)*3)++zs++c1.drop ((n-k)*3+k*3)).toArray):=by
    exact zfk (P:=Tryz.prog) W1 22 103 _ 3 Tryz.underlying22 Tryz.zeroValue103 rfl (by decide) b ((n-k)*3) k (cap-(n-k)) hk0 c1.toArray hH1 (by simp[hc1l];omega)
  obtain⟨zs,hzl,hcl0⟩:=hcl
  have hcl:∀ty,(Builtin.clear_ #[22] ty #[.slice (some ⟨b,(n-k)*3,none⟩) (n-(n-k)) (cap-(n-k))]).run Tryz.prog W1=.ok (.tuple #[]) (W1.setRow b (c1.take ((n-k)*3)++zs++c1.drop ((n-k)*3+k*3)).toArray):=by
    intro ty
    rw[show n-(n-k)=k by omega]
    exact hcl0 ty
  clear hcl0
  have hW:Hid (W1=w.drew.setRow b c1.toArray):=hW1
  have C1:Hid (c1=cur.toList.take (0*3)++news++cur.toList.drop (0*3+news.length)):=hc1
  have H1:Hid (W1.heap[b]?=some (.cells c1.toArray 103 (0,0))):=hH1
  have L1:Hid (c1.length=cap*3):=hc1l
  have hkc:k<=cap:=by omega
  have hk0':¬(0=k):=by omega
  have hkn:n-k<=n:=by omega
  have hkn2:n-k<=cap:=by omega
  have Z:Hid (zs.length=k*3):=hzl
  clear hW1 hc1 hH1 hc1l hzl hget hnews hlen hone hb hsz
  go_enter Tryz.func224,Tryz.ntmps224
  go_wp2_with fail
  go_region_law (refine zmv rfl (.tmp 22) (.tmp 25) 22 rfl 103 i0 3 Tryz.underlying22 hi0 hz1 b 0 cap cur s3.out (by simp[Act.eval,Act.put]) A (n-k) (cap-k) news (by simp[Act.eval,Act.put]) s1.out hsrc.out s2.out (by omega) s4.out ?_;rw[<-C1.out,<-hW.out])
  go_wp2
  go_ret
  have ht:c1.take ((n-k)*3)=news:=by
    rw[C1.out,Nat.zero_mul,List.take_zero,List.nil_append,<-s1.out,List.take_left]
  rw[ht,hW.out]
  refine⟨rfl,rfl,rfl,rfl,zs++c1.drop ((n-k)*3+k*3),zmw w b cur _ s3.out _ _,?_⟩
  rw[List.length_append,List.length_append,List.length_drop,L1.out,Z.out,s1.out]
  omega
theorem zgk(cap n:Nat)(vs sp:List Value)(h:vs.length=n*3)(k:Nat): ((vs++sp).toArray.toList.take (n*3)).drop (k*3)=vs.drop (k*3):=by
 rw[<-h,List.take_left]
theorem zug(xs:List Fl)(s k:Nat)(h:k<=xs.length): AEq Tryz.prog 224 [.row 0 s,i64 0,i64 k] [.row s 103 3 (xs.map flA)] (.row 0 (s+1)) [.row (s+1) 103 3 ((xs.drop k).map flA)]:=by
  unfold AEq ACall
  intro ρ w vs hr hG hv
  match vs,hv with
  | [v0,v1,v2],hv=>
  simp only[VRl,VR,and_true]at hv
  obtain⟨⟨_,hv0⟩,rfl,rfl⟩:=hv
  have hv0:=(hv0 s 103 3 (xs.map flA) rfl).2 rfl
  subst hv0
  obtain⟨h0,h00,hO⟩:=hr.obj 0 _ rfl
  have hll:=h0
  have all:∀q∈(xs.drop k).map flA,q.length=3:=by intro q hq;simp only[List.mem_map]at hq;obtain⟨_,_,rfl⟩:=hq;rfl
  have fin:∀(v':Value) (w':World),w'.os=w.os->w'.tape=w.tape->w'.output=w.output->w.heap.size<=w'.heap.size ->
      (∀b,b<w.heap.size->blk (ρ 0)≠some b->w'.heap[b]?=w.heap[b]?)->(∀b,blk v'=some b->blk (ρ 0)=some b\/w.heap.size<=b) ->
      (((∃ad,v'=.slice ad 0 0)/\(xs.drop k).map flA=[])\/∃b cap,∃us sp:List Value,v'=.slice (some ⟨b,0,none⟩) ((xs.drop k).map flA).length cap/\w'.heap[b]?=some (.cells (us++sp).toArray 103 (0,0))/\((xs.drop k).map flA).length<=cap/\(0<cap/\cap<=maxLen)/\(us++sp).length=cap*3/\(∀u∈us,u.oneCell'=true)/\VRl [.row s 103 3 (xs.map flA)] ρ w ((xs.drop k).map flA).flatten us) ->
      ∃r σ' ρ' v,Ending.returned v'=.returned v/\(r=AV.row 0 (s+1)/\σ'=[Ob.row (s+1) 103 3 ((xs.drop k).map flA)])/\Rel σ' ρ' w'/\VR σ' ρ' w' r v/\Step 1 [.row s 103 3 (xs.map flA)] ρ w σ' ρ' w':=by
    intro v' w' os tp ou hsz hk hbl hrow
    have hs:[Ob.row s 103 3 (xs.map flA)][0]?=some (Ob.row s 103 3 (xs.map flA)):=rfl
    have hobj:ObjStep (some (Ob.row s 103 3 (xs.map flA))) (some (Ob.row (s+1) 103 3 ((xs.drop k).map flA))) (ρ 0) v':=by simp only[ObjStep,true_and];omega
    have st:=v9 (σ:=[Ob.row s 103 3 (xs.map flA)]) (ρ:=ρ) (w:=w) (w':=w') (r:=v') hs rfl hobj os tp ou hsz hk (fun b _=>hbl b)
    refine⟨_,_,upd ρ 0 v',v',rfl,⟨rfl,rfl⟩,zaf (σ:=[Ob.row s 103 3 (xs.map flA)]) hr hs rfl hobj os tp ou hsz hk (fun b _=>hbl b) ⟨all,h00,?_⟩,?_,st⟩
    · rcases hrow with h | ⟨b,cap,us,sp,k1,k2,k3,k4,k5,k6,k7⟩
      · exact .inl h
      · exact .inr ⟨b,cap,us,sp,k1,k2,k3,k4,k5,k6,VRl.carry st _ _ k7⟩
    · simp only[VR]
      refine⟨by simp,fun s' e' sz' xs' hs'=>?_⟩
      simp at hs'
      obtain⟨rfl,_⟩:=hs'
      exact⟨Nat.le_refl _,fun _=>by rw[yh]⟩
  rcases hO with⟨⟨ad,hO⟩,hx⟩|⟨b,cap,us,sp,hb',hh,hle,hm,hc,hone,hl⟩
  · have hx : xs = [] := by simpa using hx
    subst hx
    obtain rfl:k=0:=by simpa using h
    rw[hO]
    refine(zgj _ ad 0 0 w rfl (Nat.le_refl _) (by omega)).mono ?_
    rintro e w' ⟨rfl,rfl⟩
    exact fin _ _ rfl rfl rfl (Nat.le_refl _) (fun _ _ _=>rfl) (fun b hb=>by cases ad<;>simp[blk]at hb) (.inl ⟨⟨ad,rfl⟩,rfl⟩)
  · have hlu:=z1 _ _ hl
    rw[yQ h0,List.length_map]at hlu
    rw[List.length_map]at hb' hle
    have hmx:cap<=9223372036854775807:=by have:=hm.2;unfold maxLen at this;omega
    have hflat:((xs.drop k).map flA).flatten=((xs.map flA).flatten).drop (k*3):=by
      have:=List.take_append_drop k xs
      conv=>rhs;rw[<-this]
      rw[List.map_append,List.flatten_append]
      have hlt:((xs.take k).map flA).flatten.length=k*3:=by rw[yQ (sz:=3) (by intro q hq;simp only[List.mem_map]at hq;obtain⟨_,_,rfl⟩:=hq;rfl),List.length_map,List.length_take];congr 1;omega
      rw[<-hlt,List.drop_left]
    by_cases hk0:k=0
    · subst hk0
      rw[hb']
      refine(zgj _ (some ⟨b,0,none⟩) xs.length cap w rfl hle hmx).mono ?_
      rintro e w' ⟨rfl,rfl⟩
      exact fin _ _ rfl rfl rfl (Nat.le_refl _) (fun _ _ _=>rfl) (fun c hc=>.inl (by rw[hb'];exact hc)) (.inr ⟨b,cap,us,sp,by rw[List.length_map,List.drop_zero],hh,by rw[List.length_map,List.drop_zero];exact hle,hm,hc,hone,by rw[List.drop_zero];exact hl⟩)
    · rw[hb']
      refine(zuf b xs.length cap k (us++sp).toArray w hh hle hmx h (by omega) (by simpa using hc) (by rw[zgk cap xs.length us sp hlu.symm];intro u hu;exact hone u (List.mem_of_mem_drop hu))).mono ?_
      rintro e w' ⟨rfl,os,tp,ou,rest,hhp,hrl⟩
      rw[zgk cap xs.length us sp hlu.symm]at hhp hrl
      have hsz:w'.heap.size=w.heap.size:=by rw[hhp];simp
      refine fin _ _ os tp ou (by omega) (fun c _ hne=>?_) (fun c hc=>.inl (by rw[hb'];exact hc)) (.inr ⟨b,cap,us.drop (k*3),rest,by rw[List.length_map,List.length_drop],?_,by rw[List.length_map,List.length_drop];omega,hm,hrl,fun u hu=>hone u (List.mem_of_mem_drop hu),by rw[hflat];exact vj _ _ _ hl⟩)
      · rw[hhp]
        exact setRow_other w b c _ (fun e=>hne (by rw[hb',e];simp[blk];omega))
      · rw[hhp]
        exact setRow_heap w b _ _ _ _ hh
attribute [local irreducible] wt
def zv1(f:Fl)(l:List Fl): List Fl:=flN f::l
end
theorem zjf{P:Program}{N:Nat}{o:Oper}{Γ:Env}{σ:Sto}{K:AV->Sto->Prop}{f:FuncId}{x:Operand}{args:Array Operand}{ts:Array TypeId}(ho:o.op=.call { callee:=.value x,args:=args,argTypes:=ts })(hx:Lf.ev Γ x=.lit (.func (.func f) #[] #[]))
    (hc:∀(args:Array Value) (w:World),(callFunc f args).run P w=.ok (.enter f args) w) (h:ACall P f (args.toList.map (Lf.ev Γ)) σ K):SOp P N o Γ σ K:=by
  unfold SOp
  unfold ACall at h
  intro ρ w a next Q hf hr hn
  have e:=hf.lit hx
  have hrun:(execOp a.eval o).run P w=.ok (.enter f (args.map a.eval)) w:=by
    simp[execOp,ho,resolve,Deferred.ofValue,e,invoke,hc]
  unfold Oper.wp
  rw[hrun,Oper.upon_enter]
  have hvs:∀l:List Operand,VRl σ ρ w (l.map (Lf.ev Γ)) (l.map a.eval):=by
    intro l
    induction l with
    | nil=>simp[VRl]
    | cons x l ih=>simp only[List.map_cons,VRl];exact⟨hf.ev x,ih⟩
  have:=h ρ w (args.toList.map a.eval) hr hf.2.1.2 (hvs _)
  have harr:(args.toList.map a.eval).toArray=args.map a.eval:=Array.ext' (by simp)
  rw[harr]at this
  refine this.mono ?_
  rintro e w' ⟨r,σ',ρ',v,rfl,h2,h3,h4,h5⟩
  exact hn r σ' ρ' w' v h2 h3 h4 h5
theorem zjg{P:Program}{N:Nat}{o:Oper}{Γ:Env}{σ:Sto}{K:AV->Sto->Prop}{f:FuncId}{x:Operand}{args:Array Operand}{ts:Array TypeId}{ys:List AV}(ho:o.op=.call { callee:=.value x,args:=args,argTypes:=ts })(hx:Lf.ev Γ x=.lit (.func (.func f) #[] #[]))
    (hc:∀(args:Array Value) (w:World),(callFunc f args).run P w=.ok (.enter f args) w) (has:args.toList.map (Lf.ev Γ)=ys) (h:ACall P f ys σ K):SOp P N o Γ σ K:=by
  subst has
  exact zjf ho hx hc h
end Go.Proofs.YtdalcgfnlbofdaaGreatDoor
namespace Go.Lf
open Go
theorem zbH{P:Program}{f:FuncId}{args:List AV}{σ τ τ2:Sto}{r r2:AV}(h:AEq P f args σ r τ)(hw:∀ρ w v,Rel τ ρ w->GV τ ρ w->VR τ ρ w r v->∃ρ',Rel τ2 ρ' w/\VR τ2 ρ' w r2 v/\Step τ.length τ ρ w τ2 ρ' w): AEq P f args σ r2 τ2:=by
 unfold AEq ACall at *
 intro ρ w vs hr hG hv
 refine(h ρ w vs hr hG hv).mono ?_
 rintro e w' ⟨x,σ3,ρ3,v,h1,⟨rfl,rfl⟩,h3,h4,h5⟩
 obtain⟨ρ4,k1,k2,k3⟩:=hw ρ3 w' v h3 (hG.carry h5) h4
 exact⟨_,_,ρ4,v,h1,⟨rfl,rfl⟩,k1,k2,h5.trans (k3.mono h5.len')⟩
theorem zel{σ:Sto}{q:Bool}{cs:List AV}{r:AV}(o k e sz:Nat)(h00:0<sz)(hob:σ[o]?=some (.box cs))(hc:cs[k]?=some (.sl true q []))(ρ:Rz)(w:World)(v:Value)(hr:Rel σ ρ w)(hG:GV σ ρ w)(hv:VR σ ρ w r v):
    ∃ρ',Rel ((σ++[Ob.row 0 e sz []]).set o (Ob.box (cs.set k (AV.row σ.length 0)))) ρ' w/\VR ((σ++[Ob.row 0 e sz []]).set o (Ob.box (cs.set k (AV.row σ.length 0)))) ρ' w r v/\Step σ.length σ ρ w ((σ++[Ob.row 0 e sz []]).set o (Ob.box (cs.set k (AV.row σ.length 0)))) ρ' w:=by
  obtain⟨ρ',_,h2,h3⟩:=ze6 (N:=0) (n:=σ.length) (Γ:=[]) o k e sz h00 hob hc ρ w { tmps:=#[],defers:=[] } (Nat.le_refl _) ⟨rfl,⟨rfl,hG⟩,fun i=>trivial⟩ hr
  exact⟨ρ',h2,VR.carry h3 _ _ hv,h3⟩
theorem zhP{P:Program}{N:Nat}{o:Oper}{Γ:Env}{σ:Sto}{K:AV->Sto->Prop}{t e:TypeId}{x hi mx:Operand}(ho:o.op=.slice t x none (some hi) (some mx))(ht:P.underlying t=some (.slice e))(he:(P.underlying e).isSome=true)
    {f q:Bool} {xs:List (List AV)} {n:Nat} (hx:ev Γ x=.sl f q xs) {k k':IntKind} (hh:ev Γ hi=.lit (.int k n)) (hm:ev Γ mx=.lit (.int k' n)) (hn:n<=xs.length) (hK:K (.sl false q (xs.take n)) σ):SOp P N o Γ σ K:=by
  refine SOp.pure _ (fun ρ w a hf hr=>?_) hK
  have hX:=hf.ev x
  rw[hx]at hX
  simp only[VR,PV]at hX
  obtain⟨ad,cap,sz,k1,k2,k3,k4,k5,k6,k7⟩:=hX
  obtain⟨d,hd⟩:=z2 he
  have hnn:n<=cap:=by omega
  refine⟨.slice ad n n,?_,?_⟩
  · have h0 : (0 : Int) <= (n : Int) := by omega
    have h1:(n:Int)<=(cap:Int):=by omega
    have had:(if n=0 then ad else ad.map (·.add 0))=ad:=by
      split
      · rfl
      · cases ad with
        | none=>rfl
        | some a=>simp[zQ,Addr.add]
    simp[execOp,ho,k1,hf.lit hh,hf.lit hm,Instr.sliceAt,Instr.slice,zn ht,Instr.sliceBounds,Instr.sliceBound,asIntOf,zE hd,h0,h1,hnn,had]
  · have hl : (xs.take n).length = n := by rw [List.length_take]; omega
    simp only[VR,PV]
    refine⟨ad,n,sz,by rw[hl],by omega,by omega,by simp,fun e=>by have:=k5 e;omega,fun y hy=>k6 y (List.mem_of_mem_take hy),fun hne=>?_⟩
    obtain⟨b,o',ha,hb,hM,hp⟩:=k7 (by intro e;apply hne;rw[e];exact List.take_nil)
    exact⟨b,o',ha,hb,hM,zbp n xs b o' hp⟩
theorem za6{P:Program}{N:Nat}{o:Oper}{Γ:Env}{σ:Sto}{K:AV->Sto->Prop}{α:Type}{g:α->List AV}{l l2:List α}{t e:TypeId}{x hi mx:Operand}{f q:Bool}{k k':IntKind}{H H':Int}{H2:Nat}(ho:o.op=.slice t x none (some hi) (some mx))(ht:P.underlying t=some (.slice e))(he:(P.underlying e).isSome=true)
    (hx:ev Γ x=.sl f q (l.map g)) (hh:ev Γ hi=.lit (.int k H)) (hm:ev Γ mx=.lit (.int k' H')) (hHH:H'=H) (h0:0<=H) (h2:H<=l.length) (hH:H.toNat=H2) (hl:l.take H2=l2) (hK:K (.sl false q (l2.map g)) σ):SOp P N o Γ σ K:=by
  subst hH;subst hl;subst hHH
  obtain⟨n,rfl⟩:=Int.eq_ofNat_of_zero_le h0
  refine zhP (n:=n) ho ht he hx hh hm (by rw[List.length_map];omega) ?_
  rw[<-List.map_take]
  exact hK
end Go.Lf
