import Derived.Test.YtdalcgfnlbofdaaGreatDoorTg
import Derived.Test.YtdalcgfnlbofdaaGreatDoorZ30
import Derived.Test.YtdalcgfnlbofdaaGreatDoorZ23
import Derived.Test.YtdalcgfnlbofdaaGreatDoorLc
import Derived.Test.YtdalcgfnlbofdaaGreatDoorZ29
import Derived.Test.YtdalcgfnlbofdaaGreatDoorZ01
import Derived.Test.YtdalcgfnlbofdaaGreatDoorZ05
set_option linter.unusedVariables false
set_option linter.unusedSimpArgs false
namespace Go.Proofs.YtdalcgfnlbofdaaGreatDoor
open Go Go.Lf Go.Proofs
attribute [local irreducible] Lf.rg Lf.ro Lf.PWp Lf.SOp Lf.ACall Lf.Scoped Lf.dg Lf.dw
set_option maxRecDepth 20000
set_option maxHeartbeats 4000000
theorem zo7 (sd n : Int) (s : Nat) (l : List (List UInt8)) (w t g st : Int) (r f : Bool) (b : List UInt8) (hl : l.length ≤ 1000) (hb : b.length ≤ 100000) (hn : -1000 ≤ n ∧ n ≤ 1000) (hs : sd = 0 ∨ sd = 1) (ho : kK ⟨b.length,t,g,st,r⟩) (F : Fm) (hP : yq t g st b = (F,0,0)) (he : (¬ t = 4 ∧ ¬ t = 6) ∨ (¬ (w = 1 - sd ∧ zB t g 1 = false) ∧ ¬ (w = sd ∧ zB t g 1 = true))) : AEq Tryz.prog 74 [.ptr 0 0,.ag [i64 w,i64 t,i64 g,i64 st,bl r,.sl f false (b.map zf)]] [.box [i64 sd,i64 n,.row 1 s],.row s 43 1 (l.map bsA)] (.tu []) [.box [i64 sd,i64 n,.row 1 s],.row s 43 1 (l.map bsA)]:=by
 have hg : 0 ≤ g ∧ g < 256:=by unfold kK at ho;dsimp only at ho;omega
 have hg0:=hg.1
 have hg1:=hg.2
 rcases he with ⟨h4,h6⟩|⟨c1,c2⟩
 ·have d4 := zlo h4
  have d6:=zlo h6
  cases hB : zB t g 1 with
  | true=>
   refine zc Tryz.func74 rfl Tryz.ntmps74 (by simp) (fun hsc=>?_);simp only [Lf.enter,Nat.reduceAdd];clear hsc
   have hU:=And.intro @hP ( And.intro @d4 ( And.intro @d6 (@hB)))
   repeat' (first|(refine goR ?_)|(refine za (fun K hK=>?_))|(guard_target =~ PWp _ _ _ _ _ _ _;refine zG mixed (by kernel_rfl) ?_)|((refine zb (fun hcd=>?_) (fun hcd=>?_))<;>(try simp only [hcP] at hcd)<;>(try exact cdT))|(guard_target =~ SOp _ _ ⟨_,.binOp _ _ _ _ _,_,_,_,none⟩ _ _ _;refine zZ (ne:=true) rfl (by first|exact zbi|exact zar|exact zbj|exact jR|exact vO|fail) (hc:=rfl) (hK:=?_))|(guard_target =~ SOp _ _ ⟨_,.binOp _ _ _ _ _,_,_,_,some _⟩ _ _ _;refine zZ (ne:=true) rfl (by first|exact zbi|exact zar|exact zbj|exact jR|exact vO|fail) (hc:=rfl) (hK:=?_))|(refine zd (f:=18) rfl Tryz.call18 (h:=AEq.pure' agT (ya _ _ _ _ _ _ _ aoT aoT) (hq:=?_)))|(refine zd (f:=94) rfl Tryz.call94 (h:=AEq.pure' agT (zbc _ _ _ aoT aoT aoT) (hq:=?_)))|((refine ze [0,1] (by rw [Tryz.results74,Lf.vJ]) z5 ?_)<;>(try (first|exact zh|exact stT)))|(refine hK _ _ ?_;clear hK K))
  | false=>
   refine zc Tryz.func74 rfl Tryz.ntmps74 (by simp) (fun hsc=>?_);simp only [Lf.enter,Nat.reduceAdd];clear hsc
   have hU:=And.intro @hP ( And.intro @d4 ( And.intro @d6 (@hB)))
   repeat' (first|(refine goR ?_)|(refine za (fun K hK=>?_))|(guard_target =~ PWp _ _ _ _ _ _ _;refine zG mixed (by kernel_rfl) ?_)|((refine zb (fun hcd=>?_) (fun hcd=>?_))<;>(try simp only [hcP] at hcd)<;>(try exact cdT))|(guard_target =~ SOp _ _ ⟨_,.binOp _ _ _ _ _,_,_,_,none⟩ _ _ _;refine zZ (ne:=true) rfl (by first|exact zbi|exact zar|exact zbj|exact jR|exact vO|fail) (hc:=rfl) (hK:=?_))|(guard_target =~ SOp _ _ ⟨_,.binOp _ _ _ _ _,_,_,_,some _⟩ _ _ _;refine zZ (ne:=true) rfl (by first|exact zbi|exact zar|exact zbj|exact jR|exact vO|fail) (hc:=rfl) (hK:=?_))|(refine zd (f:=18) rfl Tryz.call18 (h:=AEq.pure' agT (ya _ _ _ _ _ _ _ aoT aoT) (hq:=?_)))|(refine zd (f:=94) rfl Tryz.call94 (h:=AEq.pure' agT (zbc _ _ _ aoT aoT aoT) (hq:=?_)))|((refine ze [0,1] (by rw [Tryz.results74,Lf.vJ]) z5 ?_)<;>(try (first|exact zh|exact stT)))|(refine hK _ _ ?_;clear hK K))
 ·cases hB : zB t g 1 with
  | true=>
   have hw : ¬ w = sd:=fun e=>c2 ⟨e,hB⟩
   have dw:=zlo hw
   have hq : (w = sd) = False:=eq_false hw
   refine zc Tryz.func74 rfl Tryz.ntmps74 (by simp) (fun hsc=>?_);simp only [Lf.enter,Nat.reduceAdd];clear hsc
   have hU:=And.intro @hP ( And.intro @dw ( And.intro @hq ( And.intro @and_false (@hB))))
   repeat' (first|(refine goR ?_)|(refine za (fun K hK=>?_))|(guard_target =~ PWp _ _ _ _ _ _ _;refine zG mixed (by kernel_rfl) ?_)|((refine zb (fun hcd=>?_) (fun hcd=>?_))<;>(try simp only [hcP] at hcd)<;>(try exact cdT))|(guard_target =~ SOp _ _ ⟨_,.binOp _ _ _ _ _,_,_,_,none⟩ _ _ _;refine zZ (ne:=true) rfl (by first|exact zbi|exact zar|exact zbj|exact jR|exact vO|fail) (hc:=rfl) (hK:=?_))|(guard_target =~ SOp _ _ ⟨_,.binOp _ _ _ _ _,_,_,_,some _⟩ _ _ _;refine zZ (ne:=true) rfl (by first|exact zbi|exact zar|exact zbj|exact jR|exact vO|fail) (hc:=rfl) (hK:=?_))|(refine zd (f:=18) rfl Tryz.call18 (h:=AEq.pure' agT (ya _ _ _ _ _ _ _ aoT aoT) (hq:=?_)))|(refine zd (f:=94) rfl Tryz.call94 (h:=AEq.pure' agT (zbc _ _ _ aoT aoT aoT) (hq:=?_)))|((refine ze [0,1] (by rw [Tryz.results74,Lf.vJ]) z5 ?_)<;>(try (first|exact zh|exact stT)))|(refine hK _ _ ?_;clear hK K))
  | false=>
   have hw : ¬ w = 1 - sd:=fun e=>c1 ⟨e,hB⟩
   have dw:=zlo hw
   have hq : (w = 1 - sd) = False:=eq_false hw
   refine zc Tryz.func74 rfl Tryz.ntmps74 (by simp) (fun hsc=>?_);simp only [Lf.enter,Nat.reduceAdd];clear hsc
   have hU:=And.intro @hP ( And.intro @dw ( And.intro @hq ( And.intro @and_false (@hB))))
   repeat' (first|(refine goR ?_)|(refine za (fun K hK=>?_))|(guard_target =~ PWp _ _ _ _ _ _ _;refine zG mixed (by kernel_rfl) ?_)|((refine zb (fun hcd=>?_) (fun hcd=>?_))<;>(try simp only [hcP] at hcd)<;>(try exact cdT))|(guard_target =~ SOp _ _ ⟨_,.binOp _ _ _ _ _,_,_,_,none⟩ _ _ _;refine zZ (ne:=true) rfl (by first|exact zbi|exact zar|exact zbj|exact jR|exact vO|fail) (hc:=rfl) (hK:=?_))|(guard_target =~ SOp _ _ ⟨_,.binOp _ _ _ _ _,_,_,_,some _⟩ _ _ _;refine zZ (ne:=true) rfl (by first|exact zbi|exact zar|exact zbj|exact jR|exact vO|fail) (hc:=rfl) (hK:=?_))|(refine zd (f:=18) rfl Tryz.call18 (h:=AEq.pure' agT (ya _ _ _ _ _ _ _ aoT aoT) (hq:=?_)))|(refine zd (f:=94) rfl Tryz.call94 (h:=AEq.pure' agT (zbc _ _ _ aoT aoT aoT) (hq:=?_)))|((refine ze [0,1] (by rw [Tryz.results74,Lf.vJ]) z5 ?_)<;>(try (first|exact zh|exact stT)))|(refine hK _ _ ?_;clear hK K))
theorem zvg {g s : Int} {b : List UInt8} (h : y9 6 g s b = (0,0)) (hl : b.length = 8) : yq 6 g s b = (⟨6,g,s,-1,false,b,true,[],0,0,false,0,0,0,0⟩,0,0):=by
 have h1:=ziK h
 have h2:=(ziH h).1
 have h8 : zB 6 g 8 = false:=ku (by decide) (by decide) (by decide)
 have hA : yL 6 g b = 0:=f_f h8
 have hp : vS 6 g b = -1:=f_f h8
 have hN : zR 6 g b 0 = ⟨0,0,false,0,0,0,0,false,0⟩:=by unfold zR;simp
 have hS : zag 6 g b = false:=by unfold zag;rw [hA,h8,hN];rfl
 unfold yq
 rw [if_neg (by rw [h1];decide),if_neg (by rw [h2];decide)]
 have hcs:=zbS 6 g s b
 rw [hA,hp,hS,hN] at hcs
 dsimp only at hcs
 rcases hcs with ⟨e,_⟩|⟨_,e,_⟩|⟨_,_,e,_⟩|⟨_,_,_,e⟩
 ·cases e
 ·omega
 ·exact absurd e (by decide)
 ·rw [e]
  have hb : byL b 0 (b.length - 0 - max (-1) 0) = b:=by
   have:=vE (b:=b) (k:=0) (by decide) (by omega)
   rw [show ((b.length : Int) - 0 - max (-1) 0) = (b.length : Int) - 0 from by omega,this];rfl
  rw [hb]
def zgy (sd : Int) (s : Nat) (q : Ow) (r : Rq) : Nat:=
 if okQ r ∧ r.t = 6 then (if r.w = 1 - sd ∧ zB 6 r.g 1 = false then s + 1 else if r.w = sd ∧ zB 6 r.g 1 = true then (if zey r.b q.p 0 = -1 then s else s + 1) else s) else s
theorem zdv {sd : Int} {s : Nat} {q : Ow} {r : Rq} (h : ¬ (okQ r ∧ r.t = 6)) : zgy sd s q r = s:=if_neg h
theorem zo8 (sd : Int) (s : Nat) (q : Ow) (R : Rq) (f : Bool) (hl : q.p.length ≤ 1000) (hb : R.b.length ≤ 100000) (hn : -1000 ≤ q.n ∧ q.n ≤ 1000) (hs : sd = 0 ∨ sd = 1) : AEq Tryz.prog 74 [.ptr 0 0,.ag [i64 R.w,i64 R.t,i64 R.g,i64 R.s,bl R.r,.sl f false (R.b.map zf)]] [.box [i64 sd,i64 q.n,.row 1 s],.row s 43 1 (q.p.map bsA)] (.tu []) [.box [i64 sd,i64 (zaC sd q R).n,.row 1 (zgy sd s q R)],.row (zgy sd s q R) 43 1 ((zaC sd q R).p.map bsA)]:=by
  obtain ⟨w,t,g,st,r,b⟩:=R
  obtain ⟨n,l⟩:=q
  dsimp only at hl hb hn ⊢
  by_cases ho : kK ⟨b.length,t,g,st,r⟩
  · by_cases hf : y9 t g st b = (0, 0)
    · have hok : okQ ⟨w, t, g, st, r, b⟩ := ⟨ho, hf⟩
      have hP : yq t g st b = ((yq t g st b).1,0,0):=by
        have:=(zet t g st b).1
        rw [hf] at this
        rw [← this]
      rcases zgs sd ⟨n,l⟩ ⟨w,t,g,st,r,b⟩ with ⟨h,_⟩|⟨_,h⟩
      · exact absurd hok h
      · dsimp only at h
        rcases h with ⟨rfl,rfl,hB,e⟩|⟨rfl,_,rfl,hB,e⟩|⟨rfl,rfl,hB,e⟩|⟨rfl,hno,rfl,hB,e⟩|⟨he,e⟩
        · rw [e, zdv (by rintro ⟨_, h⟩; exact absurd (show (4 : Int) = 6 from h) (by decide))]
          exact zo2 sd n s l g st r f b hl hb hn hs ho _ hP hB
        · rw [e, zdv (by rintro ⟨_, h⟩; exact absurd (show (4 : Int) = 6 from h) (by decide))]
          exact zo3 _ n s l g st r f b hl hb hn hs ho _ hP hB
        · have hc : zgy sd s ⟨n,l⟩ ⟨1 - sd,6,g,st,r,b⟩ = s + 1:=by
            unfold zgy
            rw [if_pos ⟨hok,rfl⟩,if_pos ⟨rfl,hB⟩]
          rw [e,hc]
          exact zo4 sd n s l g st r f b hl hb hn hs ho (zvg hf (zaD hok rfl)) hB
        · have hc : zgy w s ⟨n,l⟩ ⟨w,6,g,st,r,b⟩ = if zey b l 0 = -1 then s else s + 1:=by
            unfold zgy
            rw [if_pos ⟨hok,rfl⟩,if_neg hno,if_pos ⟨rfl,hB⟩]
          rw [e,hc]
          rcases zbW b l 0 (by decide) with ⟨h1,h2⟩|⟨k,h1,h2,h3⟩
          · rw [if_pos h1, h2]
            exact zo5 _ n s l g st r f b hl hb hn hs ho (zvg hf (zaD hok rfl)) hB h1
          · rw [if_neg (by rw [h1]; omega), h3]
            exact zo6 _ n s l g st r f b hl hb hn hs ho (zvg hf (zaD hok rfl)) hB k h2 (by rw [h1];omega)
        · have hc : zgy sd s ⟨n,l⟩ ⟨w,t,g,st,r,b⟩ = s:=by
            by_cases h6 : t = 6
            · subst h6
              rcases he with ⟨_,h6⟩|⟨c1,c2⟩
              · exact absurd rfl h6
              · unfold zgy
                dsimp only
                rw [if_neg c1,if_neg c2]
                split<;>rfl
            · exact zdv (fun h=>h6 h.2)
          rw [e,hc]
          exact zo7 sd n s l w t g st r f b hl hb hn hs ho _ hP he
    · have hno : ¬ okQ ⟨w, t, g, st, r, b⟩ := fun h => hf h.2
      rw [zdv (fun h=>hno h.1),show zaC sd ⟨n,l⟩ ⟨w,t,g,st,r,b⟩ = ⟨n,l⟩ from if_neg hno]
      have h1:=(zet t g st b).1
      exact zlp sd n s l w t g st r f b hl hb hn hs ho (yq t g st b).1 (yq t g st b).2.1 (yq t g st b).2.2 rfl (fun h=>hf (by rw [← h1];exact Prod.ext h.1 h.2))
  · have hno : ¬ okQ ⟨w, t, g, st, r, b⟩ := fun h => ho h.1
    rw [zdv (fun h=>hno h.1),show zaC sd ⟨n,l⟩ ⟨w,t,g,st,r,b⟩ = ⟨n,l⟩ from if_neg hno]
    exact zo1 sd n s l w t g st r f b hl hb hn hs ho
def rqF (x : Fr) : Rq:=⟨x.w,x.t,x.g,x.s,x.r,x.b⟩
def fsF (sd : Int) : Fr:=⟨true,sd,4,1,0,false,[]⟩
def fpF (sd : Int) (b : List UInt8) : Fr:=⟨false,sd,6,1,0,false,b⟩
def dsF (sd : Int) (k : Nat) (p : List (List UInt8)) : List Fr:=List.replicate k (fsF sd) ++ p.map (fpF sd)
def zvh (sd : Int) (q : Ow) : List Fr:=dsF sd q.n.toNat q.p
theorem zvi (sd : Int) (k : Nat) : dsF sd (k + 1) [] = dsF sd k [] ++ [fsF sd]:=by unfold dsF;simp [List.replicate_succ']
theorem zvj (sd : Int) (k : Nat) (p : List (List UInt8)) (b : List UInt8) : dsF sd k (p ++ [b]) = dsF sd k p ++ [fpF sd b]:=by unfold dsF;simp
def seeF (sd : Int) (l : List Fr) : Ow:=zi6 sd (l.map rqF) ⟨0,[]⟩
theorem zsn {sd : Int} {l : List Fr} {i : Nat} {x : Fr} (h : l[i]? = some x) : seeF sd (l.take (i + 1)) = zaC sd (seeF sd (l.take i)) (rqF x):=by
 unfold seeF
 rw [List.take_add_one,h,List.map_append,zfH];rfl
theorem zfJ (sd : Int) : ∀ (l : List Rq) (q : Ow), (zi6 sd l q).p.length ≤ q.p.length + l.length ∧ q.n - l.length ≤ (zi6 sd l q).n ∧ (zi6 sd l q).n ≤ q.n + l.length
 | [],q=>by rw [zi6];simp
 | r :: l,q=>by
  have h1:=zll sd q r
  have h2:=zfJ sd l (zaC sd q r)
  rw [zi6,List.length_cons]
  refine ⟨?_,?_,?_⟩<;>omega
theorem zfK (sd : Int) (l : List Fr) : (seeF sd l).p.length ≤ l.length ∧ -(l.length : Int) ≤ (seeF sd l).n ∧ (seeF sd l).n ≤ l.length:=by
 have h:=zfJ sd (l.map rqF) ⟨0,[]⟩
 rw [List.length_map] at h
 dsimp only [List.length_nil] at h
 unfold seeF
 omega
theorem zso (sd : Int) (l : List Fr) : ∀ x ∈ (seeF sd l).p,x.length = 8:=zmu (fun b hb=>by simp at hb)
end Go.Proofs.YtdalcgfnlbofdaaGreatDoor
namespace Go.Lf
open Go
theorem zac {σ : Sto} {ρ : Rz} {w : World} : ∀ (l : List UInt8), VRl σ ρ w (l.map zf).flatten (l.map fun x => Value.int .u8 x.toNat)
 | []=>by simp [VRl]
 | x :: l=>by
  simp only [List.map_cons,List.flatten_cons,zf,List.cons_append,List.nil_append,VRl,VR]
  exact ⟨trivial,zac l⟩
theorem zbt {P : Program} {N : Nat} {o : Oper} {Γ : Env} {σ : Sto} {K : AV → Sto → Prop} {y : Operand} {t u e bt : Nat} {z : Value} {l : List UInt8}
    (ho : o.op = .call { callee:=.builtin .append,args:=#[.const (.slice none 0 0),y],argTypes:=#[t,u] }) (ht : P.underlying t = some (.slice e)) (hu : P.underlying u = some .string) (he : EO P e 1 bt z)
    (hy : ev Γ y = .lit (.string ⟨l.toArray⟩)) (h0 : 0 < l.length) (hb : l.length * bt ≤ 140737488355328) (h63 : l.length ≤ maxLen)
    (hK : K (.row σ.length 0) (σ ++ [.row 0 e 1 (l.map zf)])) : SOp P N o Γ σ K:=by
  intro ρ w a next Q hf hr hn
  have hv:=hf.ev y
  rw [hy] at hv
  simp only [VR] at hv
  obtain ⟨i,hi,hz,h1,h2⟩:=he.parts
  have hzs:=he.2.1
  subst h2
  have hls : (⟨l.toArray⟩ : ByteArray).size = l.length:=rfl
  have h63' : (l.length : Int) ≤ 9223372036854775807:=by simp only [maxLen] at h63;omega
  have hrun:=run_append_nil_string (P:=P) (w:=w) t u o.type e i z ht hu hi hz ⟨l.toArray⟩ (by rw [hls];exact h0) (by rw [hls];exact h63') (by rw [hls];omega)
  rw [hls] at hrun
  obtain ⟨cap,hcap⟩ : ∃ c,grownCap w l.length 0 e = c:=⟨_,rfl⟩
  have hge : l.length ≤ cap:=by rw [← hcap];exact grownCap_ge w _ _ _
  have hle : cap ≤ maxLen:=by rw [← hcap];exact grownCap_le_maxLen w _ _ _ h63
  rw [hcap] at hrun
  obtain ⟨sp,hsp⟩ : ∃ s,(Builtin.zeroCells z.cells (cap - l.length)).toList = s:=⟨_,rfl⟩
  have hcells : ((⟨l.toArray⟩ : ByteArray).data.map (fun b=>Value.int .u8 b.toNat) ++ Builtin.zeroCells z.cells (cap - l.length)) = ((l.map fun x=>Value.int .u8 x.toNat) ++ sp).toArray:=by
    rw [← hsp];exact Array.ext' (by simp)
  rw [hcells] at hrun
  have hlen : ((l.map fun x=>Value.int .u8 x.toNat) ++ sp).length = cap * 1:=by
    rw [← hsp]
    simp only [List.length_append,List.length_map,Array.length_toList,size_zeroCells,hzs]
    omega
  have hk : ∀ c,c < w.heap.size → (w.drew.alloc (.cells ((l.map fun x=>Value.int .u8 x.toNat) ++ sp).toArray e)).heap[c]? = w.heap[c]?:=fun c hc=>(by first|exact heap_alloc_old w.drew _ c hc|exact heap_alloc_old w.drew _ hc)
  obtain ⟨ρ', h2, h3, h4⟩ := zb3 (w' := w.drew.alloc (.cells ((l.map fun x => Value.int .u8 x.toNat) ++ sp).toArray e)) (xs := l.map zf) (sz := 1) (e := e) (vs := l.map fun x => Value.int .u8 x.toNat) (sp := sp) (b := w.heap.size) (cap := cap) hr rfl rfl rfl (by simp) hk (Nat.le_refl _) (heap_alloc_new w.drew _)
    (by intro q hq;simp only [List.mem_map] at hq;obtain ⟨_,_,rfl⟩:=hq;rfl) (by decide) (by rw [List.length_map];exact hge) ⟨by omega,hle⟩ hlen
    (by intro u hu;simp only [List.mem_map] at hu;obtain ⟨_,_,rfl⟩:=hu;rfl) (zac l)
  unfold Oper.wp
  have hex : (execOp a.eval o).run P w = .ok (.value (.slice (some ⟨w.heap.size,0,none⟩) l.length cap)) (w.drew.alloc (.cells ((l.map fun x=>Value.int .u8 x.toNat) ++ sp).toArray e)):=by
    have e1 : a.eval (.const (.slice none 0 0)) = .slice none 0 0:=rfl
    simp [execOp,ho,resolve,invoke,builtin,hv,e1,hrun]
  rw [hex,Oper.upon_value]
  exact hn _ _ _ _ _ hK h2 (by simpa using h3) h4
theorem zdw {P : Program} {N : Nat} {o : Oper} {Γ : Env} {σ σ2 : Sto} {K : AV → Sto → Prop} {y : Operand} {t u e bt L : Nat} {z : Value} {l : List UInt8}
    (ho : o.op = .call { callee:=.builtin .append,args:=#[.const (.slice none 0 0),y],argTypes:=#[t,u] }) (ht : P.underlying t = some (.slice e)) (hu : P.underlying u = some .string) (he : EO P e 1 bt z)
    (hy : ev Γ y = .lit (.string ⟨l.toArray⟩)) (h0 : 0 < l.length) (hb : l.length * bt ≤ 140737488355328) (h63 : l.length ≤ maxLen)
    (hL : σ.length = L) (hσ : σ ++ [.row 0 e 1 (l.map zf)] = σ2) (hK : K (.row L 0) σ2) : SOp P N o Γ σ K:=by
  subst hL;subst hσ
  exact zbt ho ht hu he hy h0 hb h63 hK
end Go.Lf
namespace Go.Proofs.YtdalcgfnlbofdaaGreatDoor
open Go Go.Lf Go.Proofs
attribute [local irreducible] Lf.rg Lf.ro Lf.PWp Lf.SOp Lf.ACall Lf.Scoped Lf.dg Lf.dw
set_option maxRecDepth 20000
set_option maxHeartbeats 4000000
end Go.Proofs.YtdalcgfnlbofdaaGreatDoor
/-! the greater of two by zd8 -/
namespace Go.Proofs.YtdalcgfnlbofdaaGreatDoor
open Go Go.Lf Go.Proofs
attribute [local irreducible] Lf.rg Lf.ro Lf.PWp Lf.SOp Lf.ACall Lf.Scoped Lf.dg Lf.dw
set_option maxRecDepth 20000
set_option maxHeartbeats 4000000
theorem zsp (sd n : Int) (s : Nat) (p : List (List UInt8)) (w t g st : Int) (r f : Bool) (b : List UInt8) (hl : p.length ≤ 1000) (hb : b.length ≤ 100000) (hn : -1000 ≤ n ∧ n ≤ 1000) (hs : sd = 0 ∨ sd = 1) : AEq Tryz.prog 74 [.ptr 0 0,.ag [i64 w,i64 t,i64 g,i64 st,bl r,.sl f false (b.map zf)]] [.box [i64 sd,i64 n,.row 1 s],.row s 43 1 (p.map bsA)] (.tu []) [.box [i64 sd,i64 (zaC sd ⟨n,p⟩ ⟨w,t,g,st,r,b⟩).n,.row 1 (zgy sd s ⟨n,p⟩ ⟨w,t,g,st,r,b⟩)],.row (zgy sd s ⟨n,p⟩ ⟨w,t,g,st,r,b⟩) 43 1 ((zaC sd ⟨n,p⟩ ⟨w,t,g,st,r,b⟩).p.map bsA)]:=zo8 sd s ⟨n,p⟩ ⟨w,t,g,st,r,b⟩ f hl hb hn hs
theorem vU (n : Int) : AEq Tryz.prog 35 [i64 n] [] (bl (decide (n = 0 ∨ n = 1))) []:=by
 refine zc Tryz.func35 rfl Tryz.ntmps35 (by simp) (fun hsc=>?_);simp only [Lf.enter,Nat.reduceAdd];clear hsc
 have hU:=True.intro
 repeat' (first|(refine goR ?_)|(refine za (fun K hK=>?_))|((refine ze [] (by rw [Tryz.results35,Lf.zt]) (zj ?_) ?_)<;>(try (first|exact zh|exact stT)))|(refine hK _ _ ?_;clear hK K))
 all_goals exact zq (by grind)
theorem zo9 (sd : Int) (j : Nat) : List.map frA (dsF sd j []) ++ [[i64 sd,i64 4,i64 1,i64 0,bl false,.sl true false []]] = List.map frA (dsF sd (j + 1) []):=by rw [zvi,List.map_append];rfl
theorem zpa (sd : Int) (k : Nat) {p : List (List UInt8)} {i : Nat} {b : List UInt8} (h : p[i]? = some b) : List.map frA (dsF sd k (p.take i)) ++ [[i64 sd,i64 6,i64 1,i64 0,bl false,.sl false false (b.map zf)]] = List.map frA (dsF sd k (p.take (i + 1))):=by
 rw [List.take_add_one,h]
 show _ = List.map frA (dsF sd k (p.take i ++ [b]))
 rw [zvj,List.map_append];rfl
theorem zi9 (sd : Int) (k : Nat) (p : List (List UInt8)) : (dsF sd k p).length = k + p.length:=by unfold dsF;simp
theorem zpb (sd : Int) (f q : Bool) (l : List Fr) (hs : sd = 0 ∨ sd = 1) (hl : l.length ≤ 100) (hx : ∀ x ∈ l,x.b.length ≤ 100000) : AEq Tryz.prog 31 [i64 sd,.sl f q (l.map frA)] [] (.sl false false ((zvh sd (seeF sd l)).map frA)) []:=by
 have hds : decide (sd = 0 ∨ sd = 1) = true:=decide_eq_true hs
 refine zc Tryz.func31 rfl Tryz.ntmps31 (by simp) (fun hsc=>?_);simp only [Lf.enter,Nat.reduceAdd];clear hsc
 have hU:=@hds
 repeat' (first|(refine goR ?_)|(refine za (fun K hK=>?_))|((refine zb (fun hcd=>?_) (fun hcd=>?_))<;>(try simp only [hcP] at hcd)<;>(try exact cdT))|(refine zd (f:=35) rfl Tryz.call35 (h:=AEq.pure' agT (vU _) (hq:=?_)))|(refine hK _ _ ?_;clear hK K))
 refine js 0 2 43 1 (by decide) rfl rfl rfl ?_
 refine zU [7,19,20,21,22,23,24,25,26] [0,1] (fun q : Nat × Nat=>[(19,i64 q.1)]) (fun q=>[.box [i64 sd,i64 (seeF sd (l.take q.1)).n,.row 1 q.2],.row q.2 43 1 ((seeF sd (l.take q.1)).p.map bsA)]) (fun q=>q.1 ≤ l.length) (fun q=>l.length - q.1) (0,0) (fun _=>rfl) rfl rfl (Nat.zero_le _) ?_ rfl (by intro s q x h;simp only [List.mem_cons,Prod.mk.injEq,List.not_mem_nil,or_false] at h;obtain ⟨rfl,_⟩:=h;decide) ?_
 ·have hU := True.intro
  (refine ⟨⟨_,sT,?_⟩,trivial⟩<;>(try (first|exact zh)))
 ·rintro ⟨i, s⟩ hi
  dsimp only at hi ⊢
  simp only [yn,List.map_cons,List.map_nil,List.cons_append,List.nil_append]
  by_cases hlt : i < l.length
  ·obtain ⟨x, hc⟩ := zi5 hlt
   have hxb:=hx x (List.mem_of_getElem? hc)
   obtain ⟨hb1,hb2,hb3⟩:=zfK sd (l.take i)
   have htl : (l.take i).length ≤ 100:=by rw [List.length_take];omega
   have hN : -1000 ≤ (seeF sd (l.take i)).n ∧ (seeF sd (l.take i)).n ≤ 1000:=by omega
   have hP : (seeF sd (l.take i)).p.length ≤ 1000:=by omega
   have hfj : zaC sd ⟨(seeF sd (l.take i)).n,(seeF sd (l.take i)).p⟩ ⟨x.w,x.t,x.g,x.s,x.r,x.b⟩ = seeF sd (l.take (i + 1)):=(zsn hc).symm
   have hU:=@hfj
   repeat' (first|(refine goR ?_)|(refine za (fun K hK=>?_))|((refine zb (fun hcd=>?_) (fun hcd=>?_))<;>(try simp only [hcP] at hcd)<;>(try exact cdT))|(refine zd (f:=74) rfl Tryz.call74 (h:=AEq.sub' [_,_] (hc:=zsp _ _ _ _ _ _ _ _ _ _ _ (by assumption) (by assumption) (by assumption) (by assumption)) (hq:=?_)))|(refine hK _ _ ?_;clear hK K))
   refine ⟨(i + 1,zgy sd s ⟨(seeF sd (l.take i)).n,(seeF sd (l.take i)).p⟩ ⟨x.w,x.t,x.g,x.s,x.r,x.b⟩),by dsimp only;omega,by dsimp only;omega,?_,arT,srT⟩
   (refine ⟨⟨_,sT,?_⟩,trivial⟩<;>(try (first|exact zh)))
  ·have hil : i = l.length := by omega
   subst hil
   rw [List.take_length]
   obtain ⟨hb1,hb2,hb3⟩:=zfK sd l
   have h8:=zso sd l
   show PWp _ _ _ _ _ _ _
   rw [show zvh sd (seeF sd l) = dsF sd (seeF sd l).n.toNat (seeF sd l).p from rfl]
   obtain ⟨⟨n,p⟩,hq⟩ : ∃ q,seeF sd l = q:=⟨_,rfl⟩
   rw [hq] at hb1 hb2 hb3 h8 ⊢
   dsimp only at hb1 hb2 hb3 h8 ⊢
   have hU:=True.intro
   repeat' (first|(refine goR ?_)|(refine za (fun K hK=>?_))|((refine zb (fun hcd=>?_) (fun hcd=>?_))<;>(try simp only [hcP] at hcd)<;>(try exact cdT))|(guard_target =~ SOp _ _ ⟨_,.call ⟨.builtin .max,_,_⟩,_,_,_,none⟩ _ _ _;refine zd8 rfl sT sT ?_)|(refine hK _ _ ?_;clear hK K)|(apply_assumption (exfalso:=false) (symm:=false)))
   refine yp 8 45 6 (by decide) (by rfl) rfl rfl ?_
   refine zU [8,32,33,34,35,36,37,38,39] [0,1,2] (fun j : Nat=>[(32,i64 j),(8,.row 2 j)]) (fun j=>[.box [i64 sd,i64 n,.row 1 s],.row s 43 1 (p.map bsA),.row j 45 6 ((dsF sd j []).map frA)]) (fun j=>j ≤ n.toNat) (fun j=>n.toNat - j) 0 (fun _=>rfl) rfl rfl (Nat.zero_le _) ?_ rfl (by intro s q x h;simp only [List.mem_cons,Prod.mk.injEq,List.not_mem_nil,or_false] at h;rcases h with ⟨rfl,_⟩|⟨rfl,_⟩<;>decide) ?_
   ·(refine ⟨⟨_,sT,?_⟩,⟨_,sT,?_⟩,trivial⟩<;>(try (first|exact zh)))
   ·intro j hj
    simp only [yn,List.map_cons,List.map_nil,List.cons_append,List.nil_append]
    have hsl : (dsF sd j []).length = j:=by rw [zi9];rfl
    by_cases hjn : (j : Int) < n
    ·have hfj := zo9 sd j
     have hU:=@hfj
     repeat' (first|(refine goS ?_)|(refine za (fun K hK=>?_))|((refine zb (fun hcd=>?_) (fun hcd=>?_))<;>(try simp only [hcP] at hcd)<;>(try exact cdT))|(refine hK _ _ ?_;clear hK K))
     refine ⟨j + 1,by omega,by omega,?_,arT,srT⟩
     (refine ⟨⟨_,sT,?_⟩,⟨_,sT,?_⟩,trivial⟩<;>(try (first|exact zh)))
    ·obtain rfl : j = n.toNat := by omega
     repeat' (first|(refine goR ?_)|(refine za (fun K hK=>?_))|((refine zb (fun hcd=>?_) (fun hcd=>?_))<;>(try simp only [hcP] at hcd)<;>(try exact cdT))|(refine hK _ _ ?_;clear hK K)|(apply_assumption (exfalso:=false) (symm:=false)))
     refine zU [8,10,45,46,47,48,49,50,51,52,53,54,55] [0,1,2] (fun j : Nat=>[(45,i64 j),(8,.row 2 (n.toNat + j))]) (fun j=>[.box [i64 sd,i64 n,.row 1 s],.row s 43 1 (p.map bsA),.row (n.toNat + j) 45 6 ((dsF sd n.toNat (p.take j)).map frA)]) (fun j=>j ≤ p.length) (fun j=>p.length - j) 0 (fun _=>rfl) rfl rfl (Nat.zero_le _) ?_ rfl (by intro s q x h;simp only [List.mem_cons,Prod.mk.injEq,List.not_mem_nil,or_false] at h;rcases h with ⟨rfl,_⟩|⟨rfl,_⟩<;>decide) ?_
     ·(refine ⟨⟨_,sT,?_⟩,⟨_,sT,?_⟩,trivial⟩<;>(try (first|exact zh)))
     ·intro j hj
      simp only [yn,List.map_cons,List.map_nil,List.cons_append,List.nil_append]
      have hsl:=zi9 sd n.toNat (p.take j)
      have htl : (p.take j).length ≤ p.length:=by rw [List.length_take];omega
      by_cases hjn : j < p.length
      ·obtain ⟨b, hd⟩ := yy hjn
       have hm:=zsm hd
       have hfj:=zpa sd n.toNat hd
       have hU:=And.intro @hm (@hfj)
       repeat' (first|(refine goS ?_)|(refine za (fun K hK=>?_))|((refine zb (fun hcd=>?_) (fun hcd=>?_))<;>(try simp only [hcP] at hcd)<;>(try exact cdT))|(refine hK _ _ ?_;clear hK K))
       refine ⟨j + 1,by omega,by omega,?_,arT,srT⟩
       (refine ⟨⟨_,sT,?_⟩,⟨_,sT,?_⟩,trivial⟩<;>(try (first|exact zh)))
      ·obtain rfl : j = p.length := by omega
       have htk : p.take p.length = p:=List.take_length
       have hU:=@htk
       repeat' (first|(refine goR ?_)|(refine za (fun K hK=>?_))|((refine zb (fun hcd=>?_) (fun hcd=>?_))<;>(try simp only [hcP] at hcd)<;>(try exact cdT))|((refine ze [] (by rw [Tryz.results31,Lf.zt]) (zj ?_) ?_)<;>(try (first|exact zh|exact stT)))|(refine hK _ _ ?_;clear hK K)|(apply_assumption (exfalso:=false) (symm:=false)))
       exact zA (by rw [hq];rfl)
end Go.Proofs.YtdalcgfnlbofdaaGreatDoor
