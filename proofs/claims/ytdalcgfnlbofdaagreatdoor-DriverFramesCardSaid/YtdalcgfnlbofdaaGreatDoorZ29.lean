import Derived.Test.YtdalcgfnlbofdaaGreatDoorTg
import Derived.Test.YtdalcgfnlbofdaaGreatDoorZ28
import Derived.Test.YtdalcgfnlbofdaaGreatDoorLc
import Derived.Test.YtdalcgfnlbofdaaGreatDoorZ23
import Derived.Test.YtdalcgfnlbofdaaGreatDoorZ01
import Derived.Test.YtdalcgfnlbofdaaGreatDoorZ27
import Derived.Test.YtdalcgfnlbofdaaGreatDoorZ15
import Derived.Shelf.RegionOpenPlain
import Derived.WalkKit
import Derived.Deep.RegionLaw
import Derived.Lib.SliceRun
set_option linter.unusedVariables false
set_option linter.unusedSimpArgs false
namespace Go.Proofs.YtdalcgfnlbofdaaGreatDoor
open Go Go.Lf Go.Proofs
attribute [local irreducible] Lf.rg Lf.ro Lf.PWp Lf.SOp Lf.ACall Lf.Scoped Lf.dg Lf.dw
set_option maxRecDepth 20000
set_option maxHeartbeats 4000000
def rsB (s : StL) : Bool := decide (
 (s.k = 1 ∧ 1 ≤ s.t ∧ s.t ≤ 2147483647 ∧ s.n = 0 ∧ zbU s.fl = true ∧ s.ss.length = 0) ∨
 (s.k = 2 ∧ s.fl.length = 0 ∧ s.ss.length = 0 ∧ 1 ≤ s.t ∧ s.t ≤ 2147483647 ∧ 0 ≤ s.n ∧ s.n ≤ 16384) ∨
 (s.k = 3 ∧ s.t = 0 ∧ s.n = 0 ∧ s.e = false ∧ s.fl.length = 0 ∧ zoX s.ss = true) ∨
 (s.k = 4 ∧ s.e = false ∧ s.fl.length = 0 ∧ s.ss.length = 0 ∧ 0 ≤ s.t ∧ s.t ≤ 2147483647 ∧ 1 ≤ s.n ∧ s.n ≤ 2147483647) ∨
 (s.k = 5 ∧ s.e = false ∧ s.fl.length = 0 ∧ s.ss.length = 0 ∧ 1 ≤ s.t ∧ s.t ≤ 2147483647 ∧ 0 ≤ s.n ∧ s.n ≤ 4294967295) ∨
 (s.k = 6 ∧ s.e = false ∧ s.fl.length = 0 ∧ s.ss.length = 0 ∧ s.t = 0 ∧ 0 ≤ s.n ∧ s.n ≤ 255) ∨
 (s.k = 7 ∧ s.e = false ∧ s.fl.length = 0 ∧ s.ss.length = 0 ∧ s.t = 0 ∧ 0 ≤ s.n ∧ s.n ≤ 2147483647) ∨
 (s.k = 8 ∧ s.e = false ∧ s.fl.length = 0 ∧ s.ss.length = 0 ∧ s.t = 0 ∧ 0 ≤ s.n ∧ s.n ≤ 16))
theorem zoY (k t n : Int) (e : Bool) (fl : List Fl) (ss : List (Int × Int)) : AEq Tryz.prog 78 [.ag [i64 k,i64 t,i64 n,bl e,.sl false false (fl.map flA),.sl false false (ss.map zV)]] [] (bl (!e && decide (fl.length = 0) && decide (ss.length = 0))) []:=zlh ⟨k,t,n,e,fl,ss⟩
theorem zli (s : StL) (h1 : s.fl.length ≤ 9223372036854775807) (h2 : s.ss.length ≤ 1000000) : AEq Tryz.prog 36 [.ag (stA s)] [] (bl (rsB s)) []:=by
 refine zc Tryz.func36 rfl Tryz.ntmps36 (by simp) (fun hsc=>?_);simp only [Lf.enter,Nat.reduceAdd];clear hsc
 have hU:=True.intro
 repeat' (first|(refine goR ?_)|(refine za (fun K hK=>?_))|((refine zb (fun hcd=>?_) (fun hcd=>?_))<;>(try simp only [hcP] at hcd)<;>(try exact cdT))|(guard_target =~ rg _ _ _ (⟨_,_,_,_,_,some _⟩ :: _) _ _ _;(first|refine zv gT (fun hcd=>?_) (fun hcd=>?_)|refine zp gT (fun hcd=>?_) (fun hcd=>?_))<;>(try simp only [hcd])<;>(try (simp only [Bool.not_eq_true',Bool.not_eq_false'] at hcd;try simp only [hcd]))<;>(refine vC (Γ2:=_) ewT ?_)<;>(try simp only [hcP] at hcd)<;>(try exact cdT))|(refine zd (f:=78) rfl Tryz.call78 (h:=AEq.pure' agT (zoY _ _ _ _ _ _) (hq:=?_)))|(refine zd (f:=79) rfl Tryz.call79 (h:=AEq.pure' agT (zbV _ _ _) (hq:=?_)))|(refine zd (f:=76) rfl Tryz.call76 (h:=AEq.pure' agT (zi3 _) (hq:=?_)))|(refine zd (f:=80) rfl Tryz.call80 (h:=AEq.pure' agT (zsi _ _ _ (by assumption)) (hq:=?_)))|(refine zd (f:=77) rfl Tryz.call77 (h:=AEq.pure' agT (zlg _ _ _ (by assumption)) (hq:=?_)))|((refine ze [] (by rw [Tryz.results36,Lf.zt]) (zj ?_) ?_)<;>(try (first|exact zh|exact stT)))|(refine hK _ _ ?_;clear hK K))
 all_goals exact zq (by unfold rsB;grind)
theorem zi4 (s : StL) (h1 : s.fl.length ≤ 9223372036854775807) (h2 : s.ss.length ≤ 1000000) : AEq Tryz.prog 39 [.ag (stA s)] [] (bl (rsB s)) []:=by
 refine zc Tryz.func39 rfl Tryz.ntmps39 (by simp) (fun hsc=>?_);simp only [Lf.enter,Nat.reduceAdd];clear hsc
 have hU:=True.intro
 repeat' (first|(refine goR ?_)|(refine za (fun K hK=>?_))|((refine zb (fun hcd=>?_) (fun hcd=>?_))<;>(try simp only [hcP] at hcd)<;>(try exact cdT))|(guard_target =~ rg _ _ _ (⟨_,_,_,_,_,some _⟩ :: _) _ _ _;(first|refine zv gT (fun hcd=>?_) (fun hcd=>?_)|refine zp gT (fun hcd=>?_) (fun hcd=>?_))<;>(try simp only [hcd])<;>(try (simp only [Bool.not_eq_true',Bool.not_eq_false'] at hcd;try simp only [hcd]))<;>(refine vC (Γ2:=_) ewT ?_)<;>(try simp only [hcP] at hcd)<;>(try exact cdT))|(refine zd (f:=83) rfl Tryz.call83 (h:=AEq.pure' agT (zoW _ _ _) (hq:=?_)))|(refine zd (f:=30) rfl Tryz.call30 (h:=AEq.pure' agT (jE _ _ _ _ _ (by assumption)) (hq:=?_)))|(refine zd (f:=84) rfl Tryz.call84 (h:=AEq.pure' agT (zfA _ _ _ (by assumption)) (hq:=?_)))|((refine ze [] (by rw [Tryz.results39,Lf.zt]) (zj ?_) ?_)<;>(try (first|exact zh|exact stT)))|(refine hK _ _ ?_;clear hK K))
 all_goals exact zq (by unfold rsB;try unfold zbU at *;try unfold zoX at *;grind)
structure Fr where
 (f : Bool) (w t g s : Int) (r : Bool) (b : List UInt8)
@[go_sem] def frA (f : Fr) : List AV:=[i64 f.w,i64 f.t,i64 f.g,i64 f.s,bl f.r,.sl f.f false (f.b.map zf)]
@[go_sem] theorem ztn (l : List Fr) : yT (l.map frA).flatten = true:=z7 (fun a=>by simp [frA,yT,pur]) l
@[go_sem] theorem zto {κ : List Nat} {σ : Sto} (l : List Fr) : List.map (fzl κ σ) (l.map frA) = l.map frA:=vo (fun _=>rfl) l
theorem zi5 {α : Type} {l : List α} {i : Nat} (h : i < l.length) : ∃ x,l[i]? = some x:=⟨l[i],List.getElem?_eq_getElem h⟩
structure Rq where
 (w t g s : Int) (r : Bool) (b : List UInt8)
deriving DecidableEq
def okQ (r : Rq) : Prop:=kK ⟨r.b.length,r.t,r.g,r.s,r.r⟩ ∧ y9 r.t r.g r.s r.b = (0,0)
instance (r : Rq) : Decidable (okQ r):=by unfold okQ;infer_instance
def zgr : List (List UInt8) → List UInt8 → List (List UInt8)
 | [],_=>[]
 | x :: l,d=>if x = d then l else x :: zgr l d
structure Ow where
 (n : Int) (p : List (List UInt8))
def zaC (sd : Int) (q : Ow) (r : Rq) : Ow:=
 if okQ r then
  if r.t = 4 then (if r.w = 1 - sd ∧ zB 4 r.g 1 = false then ⟨q.n + 1,q.p⟩ else if r.w = sd ∧ zB 4 r.g 1 = true then ⟨q.n - 1,q.p⟩ else q)
  else if r.t = 6 then (if r.w = 1 - sd ∧ zB 6 r.g 1 = false then ⟨q.n,q.p ++ [r.b]⟩ else if r.w = sd ∧ zB 6 r.g 1 = true then ⟨q.n,zgr q.p r.b⟩ else q)
  else q
 else q
def zi6 (sd : Int) : List Rq → Ow → Ow
 | [],q=>q
 | r :: l,q=>zi6 sd l (zaC sd q r)
theorem zfH (sd : Int) : ∀ (a b : List Rq) (q : Ow), zi6 sd (a ++ b) q = zi6 sd b (zi6 sd a q)
 | [],b,q=>rfl
 | r :: a,b,q=>zfH sd a b (zaC sd q r)
theorem zaD {r : Rq} (h : okQ r) (ht : r.t = 6) : r.b.length = 8:=by
 obtain ⟨_,h⟩:=h
 rw [ht] at h
 unfold y9 at h
 split at h
 ·exact absurd h (by decide)
 ·split at h
  ·exact absurd h (by decide)
  ·rename_i hl
   cases hb : vL 6 r.g r.b.length with
   | false=>exact absurd hb hl
   | true=>
    unfold vL at hb
    rw [if_neg (by decide),if_neg (by decide),if_pos rfl] at hb
    exact of_decide_eq_true hb
theorem zlj {l : List (List UInt8)} {d x : List UInt8} (h : x ∈ zgr l d) : x ∈ l:=by
 induction l with
 | nil=>exact h
 | cons y l ih=>
  unfold zgr at h
  split at h
  ·exact List.mem_cons_of_mem _ h
  ·rcases List.mem_cons.1 h with rfl | h
   ·exact List.mem_cons_self
   ·exact List.mem_cons_of_mem _ (ih h)
theorem zlk (l : List (List UInt8)) (d : List UInt8) : (zgr l d).length ≤ l.length:=by
 induction l with
 | nil=>exact Nat.le_refl _
 | cons y l ih=>
  unfold zgr
  split
  ·rw [List.length_cons];omega
  ·rw [List.length_cons,List.length_cons];omega
def Ow8 (q : Ow) : Prop:=∀ b ∈ q.p,b.length = 8
theorem zsj {sd : Int} {q : Ow} {r : Rq} (h : Ow8 q) : Ow8 (zaC sd q r):=by
 unfold zaC
 split
 ·rename_i ho
  split
  ·split
   ·exact h
   ·split<;>exact h
  ·split
   ·rename_i ht
    split
    ·intro b hb
     rcases List.mem_append.1 hb with hb|hb
     ·exact h b hb
     ·obtain rfl := List.mem_singleton.1 hb
      exact zaD ho ht
    ·split
     ·intro b hb;exact h b (zlj hb)
     ·exact h
   ·exact h
 ·exact h
theorem zll (sd : Int) (q : Ow) (r : Rq) : (zaC sd q r).p.length ≤ q.p.length + 1 ∧ q.n - 1 ≤ (zaC sd q r).n ∧ (zaC sd q r).n ≤ q.n + 1:=by
 have h:=zlk q.p r.b
 have e : (q.p ++ [r.b]).length = q.p.length + 1:=by rw [List.length_append];rfl
 unfold zaC
 repeat' split
 all_goals (refine ⟨?_,?_,?_⟩<;>(try dsimp only)<;>omega)
theorem zmu {sd : Int} : ∀ {l : List Rq} {q : Ow}, Ow8 q → Ow8 (zi6 sd l q)
 | [],_,h=>h
 | r :: l,q,h=>zmu (l:=l) (zsj h)
@[go_sem] def bsA (b : List UInt8) : List AV:=[.sl false false (b.map zf)]
@[go_sem] theorem zvf (l : List (List UInt8)) : yT (l.map bsA).flatten = true:=z7 (fun a=>by simp [bsA,yT,pur]) l
@[go_sem] theorem zlm {κ : List Nat} {σ : Sto} (l : List (List UInt8)) : List.map (fzl κ σ) (l.map bsA) = l.map bsA:=vo (fun _=>rfl) l
def zey (d : List UInt8) : List (List UInt8) → Int → Int
 | [],_=>-1
 | x :: l,i=>if x = d then i else zey d l (i + 1)
theorem zez {w t g s p : Int} {d : List UInt8} {e : List (Int × Int)} {wt pa : Int} {al : Bool} {pr la co sp : Int} (n : Nat) (hn : (wrB t g p d e wt pa al pr la co sp).length = n) (h : Can t g s p d e wt pa al pr la co sp) (hl : vL t g n = true) (hw : w = 0 ∨ w = 1) (ht : 0 ≤ t ∧ t ≤ 255) (hs : 0 ≤ s ∧ s ≤ 2147483647) (hN : n ≤ 16777215) : jj w t g s p d e wt pa al pr la co sp:=by
 refine zvd h (by rw [hn];exact hl) hw ?_
 have:=h.g0
 have:=h.g1
 rw [hn]
 unfold kK
 dsimp only
 omega
theorem zfI {n : Int} (h : 0 ≤ n ∧ n ≤ 4294967295) : (nbB n 4).length = 4:=by
 rw [zeu (ziW (zex h))]
 exact zM _ _
def yr (fl : List Fl) : List UInt8:=(zfl [0] fl [⟨2,false,false,false⟩] ⟨xsE,0,0⟩).o
def kT (k : Int) : Int:=if k = 1 then 1 else if k = 2 then 0 else if k = 3 then 4 else if k = 4 then 8 else if k = 5 then 3 else if k = 6 then 6 else 7
def kG (k : Int) (e : Bool) : Int:=(if e = true then 1 else 0) + (if k = 1 then 4 else 0)
def kD (k n : Int) (fl : List Fl) : List UInt8:=if k = 1 then yr fl else if k = 2 then List.replicate n.toNat 0 else if k = 6 then [0,0,0,0,0,0,0,UInt8.ofNat n.toNat] else []
def kE (k : Int) (ss : List (Int × Int)) : List (Int × Int):=if k = 3 then ss else []
def ifK (k a n : Int) : Int:=if k = a then n else 0
theorem zbf {fl : List Fl} (h : fl.length ≤ 100) (hz : ∀ f ∈ fl,f.n.size ≤ 1000 ∧ f.v.size ≤ 1000) : (yr fl).length ≤ 1800 + 8018 * fl.length:=by
 obtain ⟨Q,hQ⟩ : ∃ Q,zfl [0] fl [⟨2,false,false,false⟩] ⟨xsE,0,0⟩ = Q:=⟨_,rfl⟩
 have:=(zoj hQ (zoi (by decide) (by decide)) (by decide) (by decide) (by decide) h hz).2.2
 unfold yr
 rw [hQ];exact this
theorem zcP {fl : List Fl} (h : zbU fl = true) : fl.length ≤ 20 ∧ ∀ f ∈ fl,f.n.size ≤ 1000 ∧ f.v.size ≤ 1000:=by
 unfold zbU zgx at h
 split at h
 ·simp at h
 ·refine ⟨by omega, ?_⟩
  have h2 : zgq 200 fl = false:=by simpa using h
  clear h
  rename_i hn
  clear hn
  induction fl with
  | nil=>intro f hf;simp at hf
  | cons x l ih=>
   intro f hf
   unfold zgq at h2
   split at h2
   ·cases h2
   ·rename_i hx
    rcases List.mem_cons.1 hf with rfl|hf
    ·unfold zle at hx;simp at hx;omega
    ·exact ih h2 f hf
theorem zeA {w k t n : Int} {e : Bool} {fl : List Fl} {ss : List (Int × Int)} (h : rsB ⟨k, t, n, e, fl, ss⟩ = true) (h8 : ¬ k = 8) (hw : w = 0 ∨ w = 1) :
    jj w (kT k) (kG k e) t (-1) (kD k n fl) (kE k ss) 0 0 false 0 (ifK k 7 n) (ifK k 5 n) (ifK k 4 n):=by
  unfold rsB at h
  dsimp only at h
  have h:=of_decide_eq_true h
  rcases h with ⟨rfl,h1,h2,rfl,h3,h4⟩|⟨rfl,h1,h2,h3,h4,h5,h6⟩|⟨rfl,rfl,rfl,rfl,h1,h2⟩|⟨rfl,rfl,h1,h2,h3,h4,h5,h6⟩|⟨rfl,rfl,h1,h2,h3,h4,h5,h6⟩|⟨rfl,rfl,h1,h2,rfl,h3,h4⟩|⟨rfl,rfl,h1,h2,rfl,h3,h4⟩|⟨rfl,_⟩
  · obtain ⟨hf, hz⟩ := zcP h3
    have hl:=zbf (fl:=fl) (by omega) hz
    refine zez (yr fl).length ?_ ⟨?_,?_,?_,.inr ⟨?_,rfl⟩,.inr ⟨by decide,rfl⟩,.inr ⟨?_,rfl,rfl,rfl⟩,.inr ⟨by decide,rfl⟩,.inr ⟨by decide,rfl⟩,.inr ⟨by decide,rfl⟩,.inr ⟨by decide,rfl⟩⟩ rfl hw (by decide) ⟨by omega,h2⟩ (by omega)
    · cases e<;>rfl
    · cases e<;>decide
    · cases e<;>decide
    · show vj 1 t = true
      unfold vj
      rw [if_neg (by decide),if_pos (by decide)]
      simp;omega
    · cases e<;>decide
    · cases e<;>decide
  · refine zez n.toNat ?_ ⟨?_, ?_, ?_, .inr ⟨?_, rfl⟩, .inr ⟨by decide, rfl⟩, .inr ⟨by cases e <;> decide, rfl, rfl, rfl⟩, .inr ⟨by decide, rfl⟩, .inr ⟨by decide, rfl⟩, .inr ⟨by decide, rfl⟩, .inr ⟨by decide, rfl⟩⟩ rfl hw (by decide) ⟨by omega, h4⟩ (by omega)
    · have : wrB (kT 2) (kG 2 e) (-1) (kD 2 n fl) (kE 2 ss) 0 0 false 0 (ifK 2 7 n) (ifK 2 5 n) (ifK 2 4 n) = List.replicate n.toNat 0 := by cases e <;> rfl
      rw [this,List.length_replicate]
    · cases e<;>decide
    · cases e<;>decide
    · show vj 0 t = true
      unfold vj
      rw [if_neg (by decide),if_pos (by decide)]
      simp;omega
    · cases e<;>decide
  · unfold zoX at h2
    simp only [Bool.and_eq_true,decide_eq_true_eq] at h2
    have hB : wrB (kT 3) (kG 3 false) (-1) (kD 3 0 fl) (kE 3 ss) 0 0 false 0 (ifK 3 7 0) (ifK 3 5 0) (ifK 3 4 0) = spF ss:=by
      show [] ++ spB ss ++ [] = spF ss
      unfold spB;rw [if_pos h2.2];simp
    refine zez (6 * ss.length) (by rw [hB,jV]) ⟨by decide,by decide,by decide,.inr ⟨by decide,rfl⟩,.inl ⟨rfl,rfl,h2.2⟩,.inr ⟨by decide,rfl,rfl,rfl⟩,.inr ⟨by decide,rfl⟩,.inr ⟨by decide,rfl⟩,.inr ⟨by decide,rfl⟩,.inr ⟨by decide,rfl⟩⟩ ?_ hw (by decide) (by decide) (by omega)
    show vL 4 0 (6 * ss.length) = true
    rw [zdr,if_neg (by decide)]
    exact decide_eq_true (by omega)
  · refine zez 4 ?_ ⟨by decide, by decide, ?_, .inr ⟨by decide, rfl⟩, .inr ⟨by decide, rfl⟩, .inr ⟨by decide, rfl, rfl, rfl⟩, .inr ⟨by decide, rfl⟩, .inr ⟨by decide, rfl⟩, .inr ⟨by decide, rfl⟩, .inl ⟨rfl, by show 0 ≤ n; omega, by show n < 2147483648; omega⟩⟩ (by decide) hw (by decide) ⟨h3, h4⟩ (by omega)
    · show (([] : List UInt8) ++ loB n false ++ []).length = 4
      rw [List.append_nil,List.nil_append]
      exact zW n false
    · show vj 8 t = true
      unfold vj
      rw [if_neg (by decide),if_neg (by decide)]
  · refine zez 4 ?_ ⟨by decide, by decide, ?_, .inr ⟨by decide, rfl⟩, .inr ⟨by decide, rfl⟩, .inr ⟨by decide, rfl, rfl, rfl⟩, .inr ⟨by decide, rfl⟩, .inr ⟨by decide, rfl⟩, .inl ⟨.inl rfl, by show 0 ≤ n; omega, by show n ≤ 4294967295; omega⟩, .inr ⟨by decide, rfl⟩⟩ (by decide) hw (by decide) ⟨by omega, h4⟩ (by omega)
    · show (([] : List UInt8) ++ nbB n 4 ++ []).length = 4
      rw [List.append_nil,List.nil_append]
      exact zfI ⟨h5,h6⟩
    · show vj 3 t = true
      unfold vj
      rw [if_neg (by decide),if_pos (by decide)]
      simp;omega
  · refine zez 8 rfl ⟨by decide,by decide,by decide,.inr ⟨by decide,rfl⟩,.inr ⟨by decide,rfl⟩,.inr ⟨by decide,rfl,rfl,rfl⟩,.inr ⟨by decide,rfl⟩,.inr ⟨by decide,rfl⟩,.inr ⟨by decide,rfl⟩,.inr ⟨by decide,rfl⟩⟩ (by decide) hw (by decide) (by decide) (by omega)
  · refine zez 8 ?_ ⟨by decide, by decide, by decide, .inr ⟨by decide, rfl⟩, .inr ⟨by decide, rfl⟩, .inr ⟨by decide, rfl, rfl, rfl⟩, .inr ⟨by decide, rfl⟩, .inl ⟨rfl, by show 0 ≤ n; omega, by show n < 2147483648; omega⟩, .inl ⟨.inr rfl, (show (0 : Int) ≤ 0 by decide), (show (0 : Int) ≤ 4294967295 by decide)⟩, .inr ⟨by decide, rfl⟩⟩ (by decide) hw (by decide) (by decide) (by omega)
    · show (([] : List UInt8) ++ (loB n false ++ nbB 0 4) ++ []).length = 8
      rw [List.append_nil,List.nil_append,List.length_append,zW n false,zfI (by decide)]
  · exact absurd rfl h8
theorem zbW (d : List UInt8) : ∀ (l : List (List UInt8)) (i : Int), 0 ≤ i → (zey d l i = -1 ∧ zgr l d = l) ∨ ∃ k : Nat, zey d l i = i + k ∧ k < l.length ∧ zgr l d = l.eraseIdx k
 | [],i,_=>.inl ⟨rfl,rfl⟩
 | x :: l,i,h=>by
  by_cases c : x = d
  ·refine .inr ⟨0, ?_, by simp, ?_⟩
   ·rw [zey,if_pos c];simp
   ·rw [zgr,if_pos c];rfl
  ·rcases zbW d l (i + 1) (by omega) with ⟨h1, h2⟩ | ⟨k, h1, h2, h3⟩
   ·refine .inl ⟨?_, ?_⟩
    ·rw [zey,if_neg c,h1]
    ·rw [zgr,if_neg c,h2]
   ·refine .inr ⟨k + 1, ?_, by simpa using h2, ?_⟩
    ·rw [zey,if_neg c,h1];omega
    ·rw [zgr,if_neg c,h3];rfl
theorem zgs (sd : Int) (q : Ow) (r : Rq) :
    (¬ okQ r ∧ zaC sd q r = q) ∨ (okQ r ∧
      ((r.t = 4 ∧ r.w = 1 - sd ∧ zB r.t r.g 1 = false ∧ zaC sd q r = ⟨q.n + 1, q.p⟩) ∨
       (r.t = 4 ∧ ¬ (r.w = 1 - sd ∧ zB r.t r.g 1 = false) ∧ r.w = sd ∧ zB r.t r.g 1 = true ∧ zaC sd q r = ⟨q.n - 1,q.p⟩) ∨
       (r.t = 6 ∧ r.w = 1 - sd ∧ zB r.t r.g 1 = false ∧ zaC sd q r = ⟨q.n,q.p ++ [r.b]⟩) ∨
       (r.t = 6 ∧ ¬ (r.w = 1 - sd ∧ zB r.t r.g 1 = false) ∧ r.w = sd ∧ zB r.t r.g 1 = true ∧ zaC sd q r = ⟨q.n,zgr q.p r.b⟩) ∨
       ((¬ r.t = 4 ∧ ¬ r.t = 6 ∨ ¬ (r.w = 1 - sd ∧ zB r.t r.g 1 = false) ∧ ¬ (r.w = sd ∧ zB r.t r.g 1 = true)) ∧ zaC sd q r = q))):=by
  by_cases ho : okQ r
  · refine .inr ⟨ho, ?_⟩
    have e : zaC sd q r = if r.t = 4 then (if r.w = 1 - sd ∧ zB 4 r.g 1 = false then ⟨q.n + 1, q.p⟩ else if r.w = sd ∧ zB 4 r.g 1 = true then ⟨q.n - 1, q.p⟩ else q)
      else if r.t = 6 then (if r.w = 1 - sd ∧ zB 6 r.g 1 = false then ⟨q.n,q.p ++ [r.b]⟩ else if r.w = sd ∧ zB 6 r.g 1 = true then ⟨q.n,zgr q.p r.b⟩ else q)
      else q:=if_pos ho
    rw [e]
    by_cases h4 : r.t = 4
    · rw [h4, if_pos rfl]
      by_cases c1 : r.w = 1 - sd ∧ zB 4 r.g 1 = false
      · rw [if_pos c1]
        exact .inl ⟨rfl,c1.1,c1.2,rfl⟩
      · rw [if_neg c1]
        by_cases c2 : r.w = sd ∧ zB 4 r.g 1 = true
        · rw [if_pos c2]
          exact .inr (.inl ⟨rfl,c1,c2.1,c2.2,rfl⟩)
        · rw [if_neg c2]
          exact .inr (.inr (.inr (.inr ⟨.inr ⟨c1,c2⟩,rfl⟩)))
    · rw [if_neg h4]
      by_cases h6 : r.t = 6
      · rw [h6, if_pos rfl]
        by_cases c1 : r.w = 1 - sd ∧ zB 6 r.g 1 = false
        · rw [if_pos c1]
          exact .inr (.inr (.inl ⟨rfl,c1.1,c1.2,rfl⟩))
        · rw [if_neg c1]
          by_cases c2 : r.w = sd ∧ zB 6 r.g 1 = true
          · rw [if_pos c2]
            exact .inr (.inr (.inr (.inl ⟨rfl,c1,c2.1,c2.2,rfl⟩)))
          · rw [if_neg c2]
            exact .inr (.inr (.inr (.inr ⟨.inr ⟨c1,c2⟩,rfl⟩)))
      · rw [if_neg h6]
        exact .inr (.inr (.inr (.inr ⟨.inl ⟨h4,h6⟩,rfl⟩)))
  · exact .inl ⟨ho,if_neg ho⟩
open Go Go.Lf Go.Proofs Go.RowKit
theorem zi7 {P : Program} {ops : Array Oper} {o : Oper} {a : Act} {w : World} {K : Act → World → Prop} {Q : Exit → Act → World → Prop} {E : Prop}
    (hg : o.guard = none) (s x : Operand) (t : TypeId) (hop : o.op = Op.call { callee:=Callee.builtin Builtin.append,args:=#[s,x],argTypes:=#[t,t] })
    (e : TypeId) (i : TypeInfo) (size : Nat) (h1 : P.underlying t = some (.slice e)) (h2 : P.info? e = some i) (h4 : i.size = size)
    (b n cap : Nat) (cur : Array Value) (hb : w.heap[b]? = some (.cells cur e (0,0))) (hs : a.eval s = .slice (some ⟨b,0,none⟩) n cap)
    (ad : Addr) (m c : Nat) (news : List Value) (hx : a.eval x = .slice (some ad) m c) (hn : news.length = m * size) (hc : ∀ j u,news[j]? = some u → w.cell? (ad.add j) = some u) (h1c : ∀ u ∈ news,u.oneCell' = true)
    (hroom : n + m ≤ cap) (hfit : n * size + news.length ≤ cur.size)
    (hK : K (a.put o.dst (.slice (some ⟨b,0,none⟩) (n + m) cap)) (w.setRow b (cur.toList.take (n * size) ++ news ++ cur.toList.drop (n * size + news.length)).toArray)) :
    if Region.wanted o (yielded ops a.tmps) = true then Oper.wp P o a w K Q else E:=by
  have hw : Region.wanted o (yielded ops a.tmps) = true:=by simp [Region.wanted,hg]
  rw [if_pos hw]
  subst h4
  have hrun:=run_append_room (P:=P) w t o.type e i h1 h2 b n cap cur hb ad m c news hn hc h1c hroom hfit
  unfold Oper.wp
  simp [execOp,hop,resolve,invoke,builtin,hs,hx,hrun,Result.andThen]
  rw [List.append_assoc] at hK
  exact hK
theorem zgt {P : Program} (w : World) (t e : TypeId) (z : Value) (sz : Nat) (ht : P.underlying t = some (.slice e)) (hv : ∀ w, (zeroValue e).run P w = .ok z w) (hz : z.cells.size = sz) (h1 : ∀ u ∈ z.cells.toList, u.oneCell' = true) (b o n c : Nat) (hn : 0 < n)
    (cur : Array Value) (hb : w.heap[b]? = some (.cells cur e (0,0))) (hfit : o + n * sz ≤ cur.size) :
    ∃ zs : List Value,zs.length = n * sz ∧ ∀ ty,(Builtin.clear_ #[t] ty #[.slice (some ⟨b,o,none⟩) n c]).run P w = .ok (.tuple #[]) (w.setRow b (cur.toList.take o ++ zs ++ cur.toList.drop (o + n * sz)).toArray):=by
  have hl : (Builtin.zeroCells z.cells n).toList.length = n * sz:=by rw [Array.length_toList,size_zeroCells,hz]
  refine ⟨(Builtin.zeroCells z.cells n).toList,hl,fun ty=>?_⟩
  have hst:=run_storeCells_at (P:=P) b o e (Builtin.zeroCells z.cells n).toList 0 cur w hb (by rw [hl];omega) (by
    intro v hv'
    simp only [Builtin.zeroCells,Array.toList_map,List.mem_map] at hv'
    obtain ⟨j,_,rfl⟩:=hv'
    by_cases hj : j % z.cells.size < z.cells.size
    · rw [getElem!_pos z.cells _ hj]
      exact h1 _ (by simp)
    · rw [getElem!_neg z.cells _ hj];rfl)
  rw [Nat.add_zero,hl] at hst
  obtain ⟨m,rfl⟩ : ∃ m,n = m + 1:=⟨n - 1,by omega⟩
  simp [Builtin.clear_,run_underlying ht,hv,hst]
theorem zi8 (w : World) (b : Nat) (cur : Array Value) (e : TypeId) (hb : w.drew.heap[b]? = some (.cells cur e (0,0))) (c X : Array Value) : ((w.drew.setRow b c).setRow b X).heap = (w.setRow b X).heap:=by
 have hb' : w.heap[b]? = some (.cells cur e (0,0)):=hb
 apply Array.ext_getElem?
 intro i
 by_cases h : b = i
 ·subst h
  rw [setRow_heap _ b c X e _ (setRow_heap w.drew b cur c e _ hb),setRow_heap w b cur X e _ hb']
 ·rw [setRow_other _ b i _ (Ne.symm h),setRow_other _ b i _ (Ne.symm h),setRow_other _ b i _ (Ne.symm h)];rfl
theorem zln {α : Type _} (a b c : List α) (k : Nat) (h : a.length + b.length = k) : (a ++ b ++ c).take k = a ++ b:=by
 rw [← h,← List.length_append,List.take_left]
theorem zoZ (b n cap i k : Nat) (cur : Array Value) (w : World) (hb : w.heap[b]? = some (.cells cur 43 (0, 0))) (hn : n ≤ cap) (hm : cap ≤ 9223372036854775807) (hk : i < n) (hki : k = i + 1) (hsz : cur.size = cap) (hone : ∀ u ∈ (cur.toList.take n).drop k, u.oneCell' = true) :
    Calls Tryz.prog 127 #[.slice (some ⟨b, 0, none⟩) n cap, .int .i64 i, .int .i64 k] w fun e w' => e = .returned (.slice (some ⟨b, 0, none⟩) (n - 1) cap) ∧ w'.os = w.os ∧ w'.tape = w.tape ∧ w'.output = w.output ∧
      ∃ rest : List Value,w'.heap = (w.setRow b (cur.toList.take i ++ (cur.toList.take n).drop k ++ rest).toArray).heap ∧ (cur.toList.take i ++ (cur.toList.take n).drop k ++ rest).length = cap:=by
  obtain ⟨i0,hi0,hz1⟩ : ∃ q,Tryz.prog.info? 43 = some q ∧ q.size = 1:=⟨_,rfl,rfl⟩
  obtain ⟨news,hnews⟩ : ∃ news,news = (cur.toList.take n).drop k:=⟨_,rfl⟩
  rw [← hnews] at hone ⊢
  have hlen : news.length = (n - k) * 1:=by rw [hnews,List.length_drop,List.length_take,Array.length_toList,hsz];omega
  have hget : ∀ j u,news[j]? = some u → cur[k + j]? = some u:=by
    intro j u hu
    rw [hnews,List.getElem?_drop,List.getElem?_take] at hu
    split at hu
    · rw [← Array.getElem?_toList];exact hu
    · cases hu
  obtain ⟨A,hA,hsrc⟩ : ∃ A : Addr,(if cap = k then some (⟨b,0,none⟩ : Addr) else some ⟨b,k,none⟩) = some A ∧ Hid (∀ j u,news[j]? = some u → w.drew.cell? (A.add j) = some u):=by
    by_cases h : cap = k
    · refine ⟨⟨b, 0, none⟩, by simp [h], fun j u hu => ?_⟩
      have h0 : news.length = 0:=by rw [hlen];omega
      rw [List.length_eq_zero_iff.1 h0] at hu
      simp at hu
    · refine ⟨⟨b, k, none⟩, by simp [h], fun j u hu => ?_⟩
      rw [Addr.add_lit]
      show (w.cell? ⟨b,k + j,none⟩) = some u
      have:=hget j u hu
      simp [World.cell?,hb,this]
  have s1 : Hid (news.length = (n - k) * 1):=hlen
  have s2 : Hid (∀ u ∈ news,u.oneCell' = true):=hone
  have s3 : Hid (w.drew.heap[b]? = some (.cells cur 43 (0,0))):=hb
  have s4 : Hid (i * 1 + news.length ≤ cur.size):=by show i * 1 + news.length ≤ cur.size;rw [hlen,hsz];omega
  obtain ⟨c1,hc1⟩ : ∃ c1,c1 = cur.toList.take (i * 1) ++ news ++ cur.toList.drop (i * 1 + news.length):=⟨_,rfl⟩
  have hc1l : c1.length = cap:=by rw [hc1];simp [hlen,hsz];omega
  obtain ⟨W1,hW1⟩ : ∃ W1,W1 = w.drew.setRow b c1.toArray:=⟨_,rfl⟩
  have hH1 : W1.heap[b]? = some (.cells c1.toArray 43 (0,0)):=by rw [hW1];exact setRow_heap w.drew b cur c1.toArray _ _ hb
  have hcl : ∃ zs : List Value,zs.length = 1 * 1 ∧ ∀ ty,(Builtin.clear_ #[148] ty #[.slice (some ⟨b,n - 1,none⟩) 1 (cap - (n - 1))]).run Tryz.prog W1 = .ok (.tuple #[]) (W1.setRow b (c1.take (n - 1) ++ zs ++ c1.drop (n - 1 + 1 * 1)).toArray):=by
    exact zgt (P:=Tryz.prog) W1 148 43 _ 1 Tryz.underlying148 Tryz.zeroValue43 rfl (by decide) b (n - 1) 1 (cap - (n - 1)) (by decide) c1.toArray hH1 (by simp [hc1l];omega)
  obtain ⟨zs,hzl,hcl0⟩:=hcl
  have hin : i + (n - k) = n - 1:=by omega
  have hcl : ∀ ty,(Builtin.clear_ #[148] ty #[.slice (some ⟨b,i + (n - k),none⟩) (n - (i + (n - k))) (cap - (i + (n - k)))]).run Tryz.prog W1 = .ok (.tuple #[]) (W1.setRow b (c1.take (n - 1) ++ zs ++ c1.drop (n - 1 + 1 * 1)).toArray):=by
    intro ty
    rw [hin,show n - (n - 1) = 1 by omega]
    exact hcl0 ty
  clear hcl0
  have hW : Hid (W1 = w.drew.setRow b c1.toArray):=hW1
  have C1 : Hid (c1 = cur.toList.take (i * 1) ++ news ++ cur.toList.drop (i * 1 + news.length)):=hc1
  have H1 : Hid (W1.heap[b]? = some (.cells c1.toArray 43 (0,0))):=hH1
  have L1 : Hid (c1.length = cap):=hc1l
  have hkc : k ≤ cap:=by omega
  have hk0' : ¬ (i = k):=by omega
  have hkn : n - 1 ≤ n:=by omega
  have hkn2 : n - 1 ≤ cap:=by omega
  have hi1 : i ≤ k:=by omega
  have hi2 : k ≤ n:=by omega
  have hi3 : i ≤ cap:=by omega
  have hi4 : i ≤ n:=by omega
  have Z : Hid (zs.length = 1 * 1):=hzl
  have SZ : Hid (cur.size = cap):=hsz
  have HK : Hid (k = i + 1):=hki
  clear hW1 hc1 hH1 hc1l hzl hget hnews hlen hone hb hsz hki hin
  go_enter Tryz.func127,Tryz.ntmps127
  go_wp2_with fail
  go_region_law (refine zi7 rfl (.tmp 22) (.tmp 25) 148 rfl 43 i0 1 Tryz.underlying148 hi0 hz1 b i cap cur s3.out (by simp [Act.eval,Act.put]) A (n - k) (cap - k) news (by simp [Act.eval,Act.put]) s1.out hsrc.out s2.out (by omega) s4.out ?_;rw [← C1.out,← hW.out])
  go_wp2
  go_ret
  have hki:=HK.out
  have ht : c1.take (n - 1) = cur.toList.take i ++ news:=by
    have l1:=s1.out
    have l2:=SZ.out
    rw [C1.out,Nat.mul_one]
    exact zln _ _ _ _ (by rw [List.length_take,Array.length_toList];omega)
  rw [ht,hW.out]
  have hin : i + (n - k) = n - 1:=by omega
  refine ⟨congrArg (fun m=>Ending.returned (Value.slice (some ⟨b,0,none⟩) m cap)) hin,rfl,rfl,rfl,zs ++ c1.drop (n - 1 + 1 * 1),?_,?_⟩
  · have := zi8 w b cur 43 s3.out c1.toArray (cur.toList.take i ++ news ++ zs ++ c1.drop (n - 1 + 1 * 1)).toArray
    rw [← List.append_assoc]
    exact this
  · have l1 := s1.out
    have l2:=SZ.out
    have l3:=Z.out
    have l4:=L1.out
    rw [List.length_append,List.length_append,List.length_append,List.length_take,List.length_drop,Array.length_toList]
    omega
theorem zsk (n : Nat) (us sp : List Value) (h : us.length = n) (i : Nat) (hi : i ≤ n) : (us ++ sp).toArray.toList.take i = us.take i ∧ ((us ++ sp).toArray.toList.take n).drop (i + 1) = us.drop (i + 1):=by
 constructor
 ·show (us ++ sp).take i = _
  rw [List.take_append_of_le_length (by omega)]
 ·show ((us ++ sp).take n).drop (i + 1) = _
  rw [← h,List.take_left]
theorem zeB (l : List (List UInt8)) : (l.map bsA).flatten = l.map (fun b=>AV.sl false false (b.map zf)):=by
 induction l with
 | nil=>rfl
 | cons b l ih=>rw [List.map_cons,List.flatten_cons,ih];rfl
theorem zsl (l : List (List UInt8)) (s i : Nat) (h : i < l.length) : AEq Tryz.prog 127 [.row 0 s,i64 i,i64 (i + 1)] [.row s 43 1 (l.map bsA)] (.row 0 (s + 1)) [.row (s + 1) 43 1 ((l.eraseIdx i).map bsA)]:=by
  unfold AEq ACall
  intro ρ w vs hr hG hv
  match vs,hv with
  | [v0,v1,v2],hv=>
  simp only [VRl,VR,and_true] at hv
  obtain ⟨⟨_,hv0⟩,rfl,rfl⟩:=hv
  rw [show ((i : Int) + 1) = ((i + 1 : Nat) : Int) from rfl]
  have hv0:=(hv0 s 43 1 (l.map bsA) rfl).2 rfl
  subst hv0
  obtain ⟨h0,h00,hO⟩:=hr.obj 0 _ rfl
  have all : ∀ q ∈ (l.eraseIdx i).map bsA,q.length = 1:=by intro q hq;simp only [List.mem_map] at hq;obtain ⟨_,_,rfl⟩:=hq;rfl
  have fin : ∀ (v' : Value) (w' : World), w'.os = w.os → w'.tape = w.tape → w'.output = w.output → w.heap.size ≤ w'.heap.size →
      (∀ b,b < w.heap.size → blk (ρ 0) ≠ some b → w'.heap[b]? = w.heap[b]?) → (∀ b,blk v' = some b → blk (ρ 0) = some b ∨ w.heap.size ≤ b) →
      (((∃ ad,v' = .slice ad 0 0) ∧ (l.eraseIdx i).map bsA = []) ∨ ∃ b cap,∃ us sp : List Value,v' = .slice (some ⟨b,0,none⟩) ((l.eraseIdx i).map bsA).length cap ∧ w'.heap[b]? = some (.cells (us ++ sp).toArray 43 (0,0)) ∧ ((l.eraseIdx i).map bsA).length ≤ cap ∧ (0 < cap ∧ cap ≤ maxLen) ∧ (us ++ sp).length = cap * 1 ∧ (∀ u ∈ us,u.oneCell' = true) ∧ VRl [.row s 43 1 (l.map bsA)] ρ w ((l.eraseIdx i).map bsA).flatten us) →
      ∃ r σ' ρ' v,Ending.returned v' = .returned v ∧ (r = AV.row 0 (s + 1) ∧ σ' = [Ob.row (s + 1) 43 1 ((l.eraseIdx i).map bsA)]) ∧ Rel σ' ρ' w' ∧ VR σ' ρ' w' r v ∧ Step 1 [.row s 43 1 (l.map bsA)] ρ w σ' ρ' w':=by
    intro v' w' os tp ou hsz hk hbl hrow
    have hs : [Ob.row s 43 1 (l.map bsA)][0]? = some (Ob.row s 43 1 (l.map bsA)):=rfl
    have hobj : ObjStep (some (Ob.row s 43 1 (l.map bsA))) (some (Ob.row (s + 1) 43 1 ((l.eraseIdx i).map bsA))) (ρ 0) v':=by simp only [ObjStep,true_and];omega
    have st:=vd (σ:=[Ob.row s 43 1 (l.map bsA)]) (ρ:=ρ) (w:=w) (w':=w') (r:=v') hs rfl hobj os tp ou hsz hk (fun b _=>hbl b)
    refine ⟨_,_,upd ρ 0 v',v',rfl,⟨rfl,rfl⟩,kg (σ:=[Ob.row s 43 1 (l.map bsA)]) hr hs rfl hobj os tp ou hsz hk (fun b _=>hbl b) ⟨all,h00,?_⟩,?_,st⟩
    · rcases hrow with h | ⟨b, cap, us, sp, k1, k2, k3, k4, k5, k6, k7⟩
      · exact .inl h
      · exact .inr ⟨b,cap,us,sp,k1,k2,k3,k4,k5,k6,VRl.carry st _ _ k7⟩
    · simp only [VR]
      refine ⟨by simp,fun s' e' sz' xs' hs'=>?_⟩
      simp at hs'
      obtain ⟨rfl,_⟩:=hs'
      exact ⟨Nat.le_refl _,fun _=>by rw [z6]⟩
  rcases hO with ⟨⟨ad,hO⟩,hx⟩|⟨b,cap,us,sp,hb',hh,hle,hm,hc,hone,hl⟩
  · have hx : l = [] := by simpa using hx
    subst hx
    exact absurd h (Nat.not_lt_zero _)
  · have hlu := zP _ _ hl
    rw [zeB,List.length_map] at hlu
    rw [List.length_map] at hb' hle
    have hmx : cap ≤ 9223372036854775807:=by have:=hm.2;unfold maxLen at this;omega
    obtain ⟨f1,f2⟩:=zsk l.length us sp hlu.symm i (by omega)
    have hle' : ((l.eraseIdx i).map bsA).length = l.length - 1:=by rw [List.length_map,List.length_eraseIdx_of_lt h]
    have hflat : VRl [.row s 43 1 (l.map bsA)] ρ w ((l.eraseIdx i).map bsA).flatten (us.take i ++ us.drop (i + 1)):=by
      rw [List.eraseIdx_eq_take_drop_succ,zeB,List.map_append,List.map_take,List.map_drop,← zeB]
      exact yE _ _ _ _ (vz _ _ _ hl) (yD _ _ _ hl)
    have hone' : ∀ u ∈ us.take i ++ us.drop (i + 1),u.oneCell' = true:=by
      intro u hu
      rcases List.mem_append.1 hu with hu|hu
      · exact hone u (List.mem_of_mem_take hu)
      · exact hone u (List.mem_of_mem_drop hu)
    rw [hb']
    refine (zoZ b l.length cap i (i + 1) (us ++ sp).toArray w hh hle hmx h rfl (by simpa using hc) (by rw [f2];intro u hu;exact hone u (List.mem_of_mem_drop hu))).mono ?_
    rintro e w' ⟨rfl,os,tp,ou,rest,hhp,hrl⟩
    rw [f1,f2] at hhp hrl
    have hsz : w'.heap.size = w.heap.size:=by rw [hhp];simp
    refine fin _ _ os tp ou (by omega) (fun c _ hne=>?_) (fun c hc=>.inl (by rw [hb'];exact hc)) (.inr ⟨b,cap,us.take i ++ us.drop (i + 1),rest,by rw [hle'],?_,by rw [hle'];omega,hm,by rw [hrl];omega,hone',hflat⟩)
    · rw [hhp]
      exact setRow_other w b c _ (fun e=>hne (by rw [hb',e];simp [blk];omega))
    · rw [hhp]
      exact setRow_heap w b _ _ _ _ hh
end Go.Proofs.YtdalcgfnlbofdaaGreatDoor
