import Derived.Test.YtdalcgfnlbofdaaGreatDoorPg
import Derived.Test.YtdalcgfnlbofdaaGreatDoorY17
import Derived.Test.YtdalcgfnlbofdaaGreatDoorY27
import Derived.Test.YtdalcgfnlbofdaaGreatDoorY28
import Derived.Test.YtdalcgfnlbofdaaGreatDoorPc
import Derived.Test.YtdalcgfnlbofdaaGreatDoorY01
set_option linter.unusedVariables false
set_option linter.unusedSimpArgs false
namespace Go.Proofs.YtdalcgfnlbofdaaGreatDoor
open Go Go.Lf Go.Proofs
attribute [local irreducible] Lf.rg Lf.ro Lf.PWp Lf.SOp Lf.ACall Lf.Scoped Lf.dg Lf.dw
set_option maxRecDepth 20000
set_option maxHeartbeats 4000000
theorem zt9 {g s : Int} {b : List UInt8} (h : yX 6 g s b = (0,0)) (hl : b.length = 8) : ym 6 g s b = (⟨6,g,s,-1,false,b,true,[],0,0,false,0,0,0,0⟩,0,0):=by
 have h1:=zib h
 have h2:=(zh9 h).1
 have h8 : zF 6 g 8 = false:=kH (by decide) (by decide) (by decide)
 have hA : yW 6 g b = 0:=f_f h8
 have hp : v3 6 g b = -1:=f_f h8
 have hN : zY 6 g b 0 = ⟨0,0,false,0,0,0,0,false,0⟩:=by unfold zY;simp
 have hS : zam 6 g b = false:=by unfold zam;rw [hA,h8,hN];rfl
 unfold ym
 rw [if_neg (by rw [h1];decide),if_neg (by rw [h2];decide)]
 have hcs:=zbJ 6 g s b
 rw [hA,hp,hS,hN] at hcs
 dsimp only at hcs
 rcases hcs with ⟨e,_⟩|⟨_,e,_⟩|⟨_,_,e,_⟩|⟨_,_,_,e⟩
 ·cases e
 ·omega
 ·exact absurd e (by decide)
 ·rw [e]
  have hb : byL b 0 (b.length - 0 - max (-1) 0) = b:=by
   have:=vQ (b:=b) (k:=0) (by decide) (by omega)
   rw [show ((b.length : Int) - 0 - max (-1) 0) = (b.length : Int) - 0 from by omega,this];rfl
  rw [hb]
def zgo (sd : Int) (s : Nat) (q : Ow) (r : Rq) : Nat:=
 if okQ r ∧ r.t = 6 then (if r.w = 1 - sd ∧ zF 6 r.g 1 = false then s + 1 else if r.w = sd ∧ zF 6 r.g 1 = true then (if zd6 r.b q.p 0 = -1 then s else s + 1) else s) else s
theorem zdw {sd : Int} {s : Nat} {q : Ow} {r : Rq} (h : ¬ (okQ r ∧ r.t = 6)) : zgo sd s q r = s:=if_neg h
theorem zod (sd : Int) (s : Nat) (q : Ow) (R : Rq) (f : Bool) (hl : q.p.length ≤ 1000) (hb : R.b.length ≤ 100000) (hn : -1000 ≤ q.n ∧ q.n ≤ 1000) (hs : sd = 0 ∨ sd = 1) : AEq Tryz.prog 74 [.ptr 0 0,.ag [i64 R.w,i64 R.t,i64 R.g,i64 R.s,bl R.r,.sl f false (R.b.map zf)]] [.box [i64 sd,i64 q.n,.row 1 s],.row s 43 1 (q.p.map bsA)] (.tu []) [.box [i64 sd,i64 (zaz sd q R).n,.row 1 (zgo sd s q R)],.row (zgo sd s q R) 43 1 ((zaz sd q R).p.map bsA)]:=by
  obtain ⟨w,t,g,st,r,b⟩:=R
  obtain ⟨n,l⟩:=q
  dsimp only at hl hb hn ⊢
  by_cases ho : km ⟨b.length,t,g,st,r⟩
  · by_cases hf : yX t g st b = (0, 0)
    · have hok : okQ ⟨w, t, g, st, r, b⟩ := ⟨ho, hf⟩
      have hP : ym t g st b = ((ym t g st b).1,0,0):=by
        have:=(zcB t g st b).1
        rw [hf] at this
        rw [← this]
      rcases zgc sd ⟨n,l⟩ ⟨w,t,g,st,r,b⟩ with ⟨h,_⟩|⟨_,h⟩
      · exact absurd hok h
      · dsimp only at h
        rcases h with ⟨rfl,rfl,hB,e⟩|⟨rfl,_,rfl,hB,e⟩|⟨rfl,rfl,hB,e⟩|⟨rfl,hno,rfl,hB,e⟩|⟨he,e⟩
        · rw [e, zdw (by rintro ⟨_, h⟩; exact absurd (show (4 : Int) = 6 from h) (by decide))]
          exact zn7 sd n s l g st r f b hl hb hn hs ho _ hP hB
        · rw [e, zdw (by rintro ⟨_, h⟩; exact absurd (show (4 : Int) = 6 from h) (by decide))]
          exact zn8 _ n s l g st r f b hl hb hn hs ho _ hP hB
        · have hc : zgo sd s ⟨n,l⟩ ⟨1 - sd,6,g,st,r,b⟩ = s + 1:=by
            unfold zgo
            rw [if_pos ⟨hok,rfl⟩,if_pos ⟨rfl,hB⟩]
          rw [e,hc]
          exact zn9 sd n s l g st r f b hl hb hn hs ho (zt9 hf (zaA hok rfl)) hB
        · have hc : zgo w s ⟨n,l⟩ ⟨w,6,g,st,r,b⟩ = if zd6 b l 0 = -1 then s else s + 1:=by
            unfold zgo
            rw [if_pos ⟨hok,rfl⟩,if_neg hno,if_pos ⟨rfl,hB⟩]
          rw [e,hc]
          rcases zbL b l 0 (by decide) with ⟨h1,h2⟩|⟨k,h1,h2,h3⟩
          · rw [if_pos h1, h2]
            exact zoa _ n s l g st r f b hl hb hn hs ho (zt9 hf (zaA hok rfl)) hB h1
          · rw [if_neg (by rw [h1]; omega), h3]
            exact zob _ n s l g st r f b hl hb hn hs ho (zt9 hf (zaA hok rfl)) hB k h2 (by rw [h1];omega)
        · have hc : zgo sd s ⟨n,l⟩ ⟨w,t,g,st,r,b⟩ = s:=by
            by_cases h6 : t = 6
            · subst h6
              rcases he with ⟨_,h6⟩|⟨c1,c2⟩
              · exact absurd rfl h6
              · unfold zgo
                dsimp only
                rw [if_neg c1,if_neg c2]
                split<;>rfl
            · exact zdw (fun h=>h6 h.2)
          rw [e,hc]
          exact zoc sd n s l w t g st r f b hl hb hn hs ho _ hP he
    · have hno : ¬ okQ ⟨w, t, g, st, r, b⟩ := fun h => hf h.2
      rw [zdw (fun h=>hno h.1),show zaz sd ⟨n,l⟩ ⟨w,t,g,st,r,b⟩ = ⟨n,l⟩ from if_neg hno]
      have h1:=(zcB t g st b).1
      exact zkU sd n s l w t g st r f b hl hb hn hs ho (ym t g st b).1 (ym t g st b).2.1 (ym t g st b).2.2 rfl (fun h=>hf (by rw [← h1];exact Prod.ext h.1 h.2))
  · have hno : ¬ okQ ⟨w, t, g, st, r, b⟩ := fun h => ho h.1
    rw [zdw (fun h=>hno h.1),show zaz sd ⟨n,l⟩ ⟨w,t,g,st,r,b⟩ = ⟨n,l⟩ from if_neg hno]
    exact zn6 sd n s l w t g st r f b hl hb hn hs ho
def rqF (x : Fr) : Rq:=⟨x.w,x.t,x.g,x.s,x.r,x.b⟩
def fsF (sd : Int) : Fr:=⟨true,sd,4,1,0,false,[]⟩
def fpF (sd : Int) (b : List UInt8) : Fr:=⟨false,sd,6,1,0,false,b⟩
def dsF (sd : Int) (k : Nat) (p : List (List UInt8)) : List Fr:=List.replicate k (fsF sd) ++ p.map (fpF sd)
def dutF (sd : Int) (q : Ow) : List Fr:=dsF sd q.n.toNat q.p
theorem zua (sd : Int) (k : Nat) : dsF sd (k + 1) [] = dsF sd k [] ++ [fsF sd]:=by unfold dsF;simp [List.replicate_succ']
theorem zub (sd : Int) (k : Nat) (p : List (List UInt8)) (b : List UInt8) : dsF sd k (p ++ [b]) = dsF sd k p ++ [fpF sd b]:=by unfold dsF;simp
theorem zkV (sd : Int) (q : Ow) : (dutF sd q).length = q.n.toNat + q.p.length:=by unfold dutF dsF;simp
def seeF (sd : Int) (l : List Fr) : Ow:=zif sd (l.map rqF) ⟨0,[]⟩
theorem zrH {sd : Int} {l : List Fr} {i : Nat} {x : Fr} (h : l[i]? = some x) : seeF sd (l.take (i + 1)) = zaz sd (seeF sd (l.take i)) (rqF x):=by
 unfold seeF
 rw [List.take_add_one,h,List.map_append,zft];rfl
theorem zfy (sd : Int) : ∀ (l : List Rq) (q : Ow), (zif sd l q).p.length ≤ q.p.length + l.length ∧ q.n - l.length ≤ (zif sd l q).n ∧ (zif sd l q).n ≤ q.n + l.length
 | [],q=>by rw [zif];simp
 | r :: l,q=>by
  have h1:=zkB sd q r
  have h2:=zfy sd l (zaz sd q r)
  rw [zif,List.length_cons]
  refine ⟨?_,?_,?_⟩<;>omega
theorem zcG (sd : Int) (l : List Fr) : (seeF sd l).p.length ≤ l.length ∧ -(l.length : Int) ≤ (seeF sd l).n ∧ (seeF sd l).n ≤ l.length:=by
 have h:=zfy sd (l.map rqF) ⟨0,[]⟩
 rw [List.length_map] at h
 dsimp only [List.length_nil] at h
 unfold seeF
 omega
theorem zlN (sd : Int) (l : List Fr) : ∀ x ∈ (seeF sd l).p,x.length = 8:=zlF (fun b hb=>by simp at hb)
end Go.Proofs.YtdalcgfnlbofdaaGreatDoor
/-! the greater of two by zd5 -/
namespace Go.Proofs.YtdalcgfnlbofdaaGreatDoor
open Go Go.Lf Go.Proofs
attribute [local irreducible] Lf.rg Lf.ro Lf.PWp Lf.SOp Lf.ACall Lf.Scoped Lf.dg Lf.dw
set_option maxRecDepth 20000
set_option maxHeartbeats 4000000
theorem zrI (sd n : Int) (s : Nat) (p : List (List UInt8)) (w t g st : Int) (r f : Bool) (b : List UInt8) (hl : p.length ≤ 1000) (hb : b.length ≤ 100000) (hn : -1000 ≤ n ∧ n ≤ 1000) (hs : sd = 0 ∨ sd = 1) : AEq Tryz.prog 74 [.ptr 0 0,.ag [i64 w,i64 t,i64 g,i64 st,bl r,.sl f false (b.map zf)]] [.box [i64 sd,i64 n,.row 1 s],.row s 43 1 (p.map bsA)] (.tu []) [.box [i64 sd,i64 (zaz sd ⟨n,p⟩ ⟨w,t,g,st,r,b⟩).n,.row 1 (zgo sd s ⟨n,p⟩ ⟨w,t,g,st,r,b⟩)],.row (zgo sd s ⟨n,p⟩ ⟨w,t,g,st,r,b⟩) 43 1 ((zaz sd ⟨n,p⟩ ⟨w,t,g,st,r,b⟩).p.map bsA)]:=zod sd s ⟨n,p⟩ ⟨w,t,g,st,r,b⟩ f hl hb hn hs
theorem v5 (n : Int) : AEq Tryz.prog 35 [i64 n] [] (bl (decide (n = 0 ∨ n = 1))) []:=by
 refine zc Tryz.func35 rfl Tryz.ntmps35 (by simp) (fun hsc=>?_);simp only [Lf.enter,Nat.reduceAdd];clear hsc
 have hU:=True.intro
 repeat' (first|(refine goR ?_)|(refine za (fun K hK=>?_))|((refine zh [] (by rw [Tryz.results35,Lf.zy]) (zj ?_) ?_)<;>(try (first|exact zi|exact stT)))|(refine hK _ _ ?_;clear hK K))
 all_goals exact zt (by grind)
theorem zoe (sd : Int) (j : Nat) : List.map frA (dsF sd j []) ++ [[i64 sd,i64 4,i64 1,i64 0,bl false,.sl true false []]] = List.map frA (dsF sd (j + 1) []):=by rw [zua,List.map_append];rfl
theorem zof (sd : Int) (k : Nat) {p : List (List UInt8)} {i : Nat} {b : List UInt8} (h : p[i]? = some b) : List.map frA (dsF sd k (p.take i)) ++ [[i64 sd,i64 6,i64 1,i64 0,bl false,.sl false false (b.map zf)]] = List.map frA (dsF sd k (p.take (i + 1))):=by
 rw [List.take_add_one,h]
 show _ = List.map frA (dsF sd k (p.take i ++ [b]))
 rw [zub,List.map_append];rfl
theorem ziv (sd : Int) (k : Nat) (p : List (List UInt8)) : (dsF sd k p).length = k + p.length:=by unfold dsF;simp
theorem zog (sd : Int) (f q : Bool) (l : List Fr) (hs : sd = 0 ∨ sd = 1) (hl : l.length ≤ 100) (hx : ∀ x ∈ l,x.b.length ≤ 100000) : AEq Tryz.prog 31 [i64 sd,.sl f q (l.map frA)] [] (.sl false false ((dutF sd (seeF sd l)).map frA)) []:=by
 have hds : decide (sd = 0 ∨ sd = 1) = true:=decide_eq_true hs
 refine zc Tryz.func31 rfl Tryz.ntmps31 (by simp) (fun hsc=>?_);simp only [Lf.enter,Nat.reduceAdd];clear hsc
 have hU:=@hds
 repeat' (first|(refine goR ?_)|(refine za (fun K hK=>?_))|((refine zb (fun hcd=>?_) (fun hcd=>?_))<;>(try simp only [hcP] at hcd)<;>(try exact cdT))|(refine zd (f:=35) rfl Tryz.call35 (h:=AEq.pure' agT (v5 _) (hq:=?_)))|(refine hK _ _ ?_;clear hK K))
 refine vO 0 2 43 1 (by decide) rfl rfl rfl ?_
 refine zU [7,19,20,21,22,23,24,25,26] [0,1] (fun q : Nat × Nat=>[(19,i64 q.1)]) (fun q=>[.box [i64 sd,i64 (seeF sd (l.take q.1)).n,.row 1 q.2],.row q.2 43 1 ((seeF sd (l.take q.1)).p.map bsA)]) (fun q=>q.1 ≤ l.length) (fun q=>l.length - q.1) (0,0) (fun _=>rfl) rfl rfl (Nat.zero_le _) ?_ rfl (by intro s q x h;simp only [List.mem_cons,Prod.mk.injEq,List.not_mem_nil,or_false] at h;obtain ⟨rfl,_⟩:=h;decide) ?_
 ·have hU := True.intro
  (refine ⟨⟨_,sT,?_⟩,trivial⟩<;>(try (first|exact zi)))
 ·rintro ⟨i, s⟩ hi
  dsimp only at hi ⊢
  simp only [vf,List.map_cons,List.map_nil,List.cons_append,List.nil_append]
  by_cases hlt : i < l.length
  ·obtain ⟨x, hc⟩ := jM hlt
   have hxb:=hx x (List.mem_of_getElem? hc)
   obtain ⟨hb1,hb2,hb3⟩:=zcG sd (l.take i)
   have htl : (l.take i).length ≤ 100:=by rw [List.length_take];omega
   have hN : -1000 ≤ (seeF sd (l.take i)).n ∧ (seeF sd (l.take i)).n ≤ 1000:=by omega
   have hP : (seeF sd (l.take i)).p.length ≤ 1000:=by omega
   have hfj : zaz sd ⟨(seeF sd (l.take i)).n,(seeF sd (l.take i)).p⟩ ⟨x.w,x.t,x.g,x.s,x.r,x.b⟩ = seeF sd (l.take (i + 1)):=(zrH hc).symm
   have hU:=@hfj
   repeat' (first|(refine goR ?_)|(refine za (fun K hK=>?_))|((refine zb (fun hcd=>?_) (fun hcd=>?_))<;>(try simp only [hcP] at hcd)<;>(try exact cdT))|(refine zd (f:=74) rfl Tryz.call74 (h:=AEq.sub' [_,_] (hc:=zrI _ _ _ _ _ _ _ _ _ _ _ (by assumption) (by assumption) (by assumption) (by assumption)) (hq:=?_)))|(refine hK _ _ ?_;clear hK K))
   refine ⟨(i + 1,zgo sd s ⟨(seeF sd (l.take i)).n,(seeF sd (l.take i)).p⟩ ⟨x.w,x.t,x.g,x.s,x.r,x.b⟩),by dsimp only;omega,by dsimp only;omega,?_,arT,srT⟩
   (refine ⟨⟨_,sT,?_⟩,trivial⟩<;>(try (first|exact zi)))
  ·have hil : i = l.length := by omega
   subst hil
   rw [List.take_length]
   obtain ⟨hb1,hb2,hb3⟩:=zcG sd l
   have h8:=zlN sd l
   show PWp _ _ _ _ _ _ _
   rw [show dutF sd (seeF sd l) = dsF sd (seeF sd l).n.toNat (seeF sd l).p from rfl]
   obtain ⟨⟨n,p⟩,hq⟩ : ∃ q,seeF sd l = q:=⟨_,rfl⟩
   rw [hq] at hb1 hb2 hb3 h8 ⊢
   dsimp only at hb1 hb2 hb3 h8 ⊢
   have hU:=True.intro
   repeat' (first|(refine goR ?_)|(refine za (fun K hK=>?_))|((refine zb (fun hcd=>?_) (fun hcd=>?_))<;>(try simp only [hcP] at hcd)<;>(try exact cdT))|(guard_target =~ SOp _ _ ⟨_,.call ⟨.builtin .max,_,_⟩,_,_,_,none⟩ _ _ _;refine zd5 rfl sT sT ?_)|(refine hK _ _ ?_;clear hK K)|(apply_assumption (exfalso:=false) (symm:=false)))
   refine vi 8 45 6 (by decide) (by rfl) rfl rfl ?_
   refine zU [8,32,33,34,35,36,37,38,39] [0,1,2] (fun j : Nat=>[(32,i64 j),(8,.row 2 j)]) (fun j=>[.box [i64 sd,i64 n,.row 1 s],.row s 43 1 (p.map bsA),.row j 45 6 ((dsF sd j []).map frA)]) (fun j=>j ≤ n.toNat) (fun j=>n.toNat - j) 0 (fun _=>rfl) rfl rfl (Nat.zero_le _) ?_ rfl (by intro s q x h;simp only [List.mem_cons,Prod.mk.injEq,List.not_mem_nil,or_false] at h;rcases h with ⟨rfl,_⟩|⟨rfl,_⟩<;>decide) ?_
   ·(refine ⟨⟨_,sT,?_⟩,⟨_,sT,?_⟩,trivial⟩<;>(try (first|exact zi)))
   ·intro j hj
    simp only [vf,List.map_cons,List.map_nil,List.cons_append,List.nil_append]
    have hsl : (dsF sd j []).length = j:=by rw [ziv];rfl
    by_cases hjn : (j : Int) < n
    ·have hfj := zoe sd j
     have hU:=@hfj
     repeat' (first|(refine goS ?_)|(refine za (fun K hK=>?_))|((refine zb (fun hcd=>?_) (fun hcd=>?_))<;>(try simp only [hcP] at hcd)<;>(try exact cdT))|(refine hK _ _ ?_;clear hK K))
     refine ⟨j + 1,by omega,by omega,?_,arT,srT⟩
     (refine ⟨⟨_,sT,?_⟩,⟨_,sT,?_⟩,trivial⟩<;>(try (first|exact zi)))
    ·obtain rfl : j = n.toNat := by omega
     repeat' (first|(refine goR ?_)|(refine za (fun K hK=>?_))|((refine zb (fun hcd=>?_) (fun hcd=>?_))<;>(try simp only [hcP] at hcd)<;>(try exact cdT))|(refine hK _ _ ?_;clear hK K)|(apply_assumption (exfalso:=false) (symm:=false)))
     refine zU [8,10,45,46,47,48,49,50,51,52,53,54,55] [0,1,2] (fun j : Nat=>[(45,i64 j),(8,.row 2 (n.toNat + j))]) (fun j=>[.box [i64 sd,i64 n,.row 1 s],.row s 43 1 (p.map bsA),.row (n.toNat + j) 45 6 ((dsF sd n.toNat (p.take j)).map frA)]) (fun j=>j ≤ p.length) (fun j=>p.length - j) 0 (fun _=>rfl) rfl rfl (Nat.zero_le _) ?_ rfl (by intro s q x h;simp only [List.mem_cons,Prod.mk.injEq,List.not_mem_nil,or_false] at h;rcases h with ⟨rfl,_⟩|⟨rfl,_⟩<;>decide) ?_
     ·(refine ⟨⟨_,sT,?_⟩,⟨_,sT,?_⟩,trivial⟩<;>(try (first|exact zi)))
     ·intro j hj
      simp only [vf,List.map_cons,List.map_nil,List.cons_append,List.nil_append]
      have hsl:=ziv sd n.toNat (p.take j)
      have htl : (p.take j).length ≤ p.length:=by rw [List.length_take];omega
      by_cases hjn : j < p.length
      ·obtain ⟨b, hd⟩ := vS hjn
       have hm:=zrG hd
       have hfj:=zof sd n.toNat hd
       have hU:=And.intro @hm (@hfj)
       repeat' (first|(refine goS ?_)|(refine za (fun K hK=>?_))|((refine zb (fun hcd=>?_) (fun hcd=>?_))<;>(try simp only [hcP] at hcd)<;>(try exact cdT))|(refine hK _ _ ?_;clear hK K))
       refine ⟨j + 1,by omega,by omega,?_,arT,srT⟩
       (refine ⟨⟨_,sT,?_⟩,⟨_,sT,?_⟩,trivial⟩<;>(try (first|exact zi)))
      ·obtain rfl : j = p.length := by omega
       have htk : p.take p.length = p:=List.take_length
       have hU:=@htk
       repeat' (first|(refine goR ?_)|(refine za (fun K hK=>?_))|((refine zb (fun hcd=>?_) (fun hcd=>?_))<;>(try simp only [hcP] at hcd)<;>(try exact cdT))|((refine zh [] (by rw [Tryz.results31,Lf.zy]) (zj ?_) ?_)<;>(try (first|exact zi|exact stT)))|(refine hK _ _ ?_;clear hK K)|(apply_assumption (exfalso:=false) (symm:=false)))
       exact yc (by rw [hq];rfl)
theorem zuc {a b : List Fr} (h : a.map rqF = b.map rqF) {i : Nat} {x y : Fr} (hx : a[i]? = some x) (hy : b[i]? = some y) : (⟨x.w,x.t,x.g,x.s,x.r,x.b⟩ : Rq) = ⟨y.w,y.t,y.g,y.s,y.r,y.b⟩:=by
 have:=congrArg (fun l=>l[i]?) h
 simp only [List.getElem?_map,hx,hy,Option.map_some] at this
 exact Option.some.inj this
theorem zrJ (w t g s w' t' g' s' : Int) (r r' f f' : Bool) (b b' : List UInt8) (hb : b.length ≤ 4000000000000000000) : AEq Tryz.prog 32 [.ag [i64 w,i64 t,i64 g,i64 s,bl r,.sl f false (b.map zf)],.ag [i64 w',i64 t',i64 g',i64 s',bl r',.sl f' false (b'.map zf)]] [] (bl (decide ((⟨w,t,g,s,r,b⟩ : Rq) = ⟨w',t',g',s',r',b'⟩))) []:=by
 refine zc Tryz.func32 rfl Tryz.ntmps32 (by simp) (fun hsc=>?_);simp only [Lf.enter,Nat.reduceAdd];clear hsc
 have hU:=True.intro
 repeat' (first|(refine goR ?_)|(refine za (fun K hK=>?_))|(guard_target =~ rg _ _ _ (⟨_,_,_,_,_,some _⟩ :: _) _ _ _;(first|refine zH gT (fun hcd=>?_) (fun hcd=>?_)|refine zw gT (fun hcd=>?_) (fun hcd=>?_))<;>(try simp only [hcd])<;>(try (simp only [Bool.not_eq_true',Bool.not_eq_false'] at hcd;try simp only [hcd]))<;>(refine ku (Γ2:=_) ewT ?_)<;>(try simp only [hcP] at hcd)<;>(try exact cdT))|(refine zd (f:=75) rfl Tryz.call75 (h:=AEq.pure' agT (zg5 _ _ _ _ _ _ (by assumption)) (hq:=?_)))|((refine zh [] (by rw [Tryz.results32,Lf.zy]) (zj ?_) ?_)<;>(try (first|exact zi|exact stT)))|(refine hK _ _ ?_;clear hK K))
 all_goals exact zt (by grind)
theorem zud (f q f' q' : Bool) (a b : List Fr) (ha : a.length ≤ 1000000000) (hx : ∀ x ∈ a,x.b.length ≤ 1000000000) (hab : a.map rqF = b.map rqF) : AEq Tryz.prog 9 [.sl f q (a.map frA),.sl f' q' (b.map frA)] [] (bl true) []:=by
 have hl : a.length = b.length:=by have:=congrArg List.length hab;simpa using this
 refine zc Tryz.func9 rfl Tryz.ntmps9 (by simp) (fun hsc=>?_);simp only [Lf.enter,Nat.reduceAdd];clear hsc
 have hU:=True.intro
 repeat' (first|(refine goR ?_)|(refine za (fun K hK=>?_))|((refine zb (fun hcd=>?_) (fun hcd=>?_))<;>(try simp only [hcP] at hcd)<;>(try exact cdT))|(refine hK _ _ ?_;clear hK K))
 refine zz [4,5,11,12,13,14,15,16,17,18,19,20,21,22,23,24,25,26] (fun i : Nat=>[(5,i64 i)]) (fun _=>[]) (fun i=>i ≤ a.length) (fun i=>a.length - i) 0 (Nat.zero_le _) ?_ rfl ?_
 ·(refine ⟨⟨_,sT,?_⟩,trivial⟩<;>(try (first|exact zi)))
 ·rintro i hi
  simp only [vf,List.map_cons,List.map_nil,List.cons_append,List.nil_append]
  by_cases hlt : i < a.length
  ·obtain ⟨x, hx1⟩ := jM hlt
   obtain ⟨y,hy⟩:=jM (l:=b) (i:=i) (by omega)
   have hxb:=hx x (List.mem_of_getElem? hx1)
   have hd : decide ((⟨x.w,x.t,x.g,x.s,x.r,x.b⟩ : Rq) = ⟨y.w,y.t,y.g,y.s,y.r,y.b⟩) = true:=decide_eq_true (zuc hab hx1 hy)
   have hU:=@hd
   repeat' (first|(refine goR ?_)|(refine za (fun K hK=>?_))|(guard_target =~ PWp _ _ _ _ _ _ _;refine zQ mixed (by kernel_rfl) ?_)|((refine zb (fun hcd=>?_) (fun hcd=>?_))<;>(try simp only [hcP] at hcd)<;>(try exact cdT))|(guard_target =~ dg _ _ _ _ _ _ _;first|(guard_target =~ dg _ _ _ (⟨_,.indexAddr _ _ _,_,_,_,none⟩ :: _) _ _ _;(refine ko (x:=_) (h:=yj (h:=vh rfl (hK:=ze ⟨rfl,rfl⟩))) (hk:=?_)))|(guard_target =~ dg _ _ _ (⟨_,.call ⟨.value (.func 32),_,_⟩,_,_,_,none⟩ :: _) _ _ _;(refine ko (x:=_) (h:=yj (h:=zd (f:=32) rfl Tryz.call32 (h:=AEq.pure' agT (zrJ _ _ _ _ _ _ _ _ _ _ _ _ _ _ (by omega)) (hq:=ze ⟨rfl,rfl⟩)))) (hk:=?_))))|(refine hK _ _ ?_;clear hK K))
   refine ⟨i + 1,by omega,by omega,?_,arT,srT⟩
   (refine ⟨⟨_,sT,?_⟩,trivial⟩<;>(try (first|exact zi)))
  ·repeat' (first|(refine goR ?_)|(refine za (fun K hK=>?_))|((refine zb (fun hcd=>?_) (fun hcd=>?_))<;>(try simp only [hcP] at hcd)<;>(try exact cdT))|((refine zh [] (by rw [Tryz.results9,Lf.zy]) (zj ?_) ?_)<;>(try (first|exact zi|exact stT)))|(refine hK _ _ ?_;clear hK K)|(apply_assumption (exfalso:=false) (symm:=false)))
end Go.Proofs.YtdalcgfnlbofdaaGreatDoor
