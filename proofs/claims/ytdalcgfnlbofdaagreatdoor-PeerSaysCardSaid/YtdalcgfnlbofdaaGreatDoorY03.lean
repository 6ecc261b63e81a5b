import Derived.Test.YtdalcgfnlbofdaaGreatDoorY02
import Derived.Test.YtdalcgfnlbofdaaGreatDoorY01
import Derived.Test.YtdalcgfnlbofdaaGreatDoorPc
set_option linter.unusedVariables false
set_option linter.unusedSimpArgs false
namespace Go.Proofs.YtdalcgfnlbofdaaGreatDoor
open Go Go.Lf Go.Proofs
attribute [local irreducible] Lf.rg Lf.ro Lf.PWp Lf.SOp Lf.ACall Lf.Scoped Lf.dg Lf.dw
set_option maxRecDepth 20000
set_option maxHeartbeats 4000000
structure HS where
 (k : Fin 3) (a : Nat) (c : Int) (n : Nat) (o : List UInt8)
def HOk (b : List UInt8) (d : List UInt8) (e : Int) (q : HS) : Prop:=
 q.a ≤ 8 * b.length ∧ q.o.length ≤ q.a ∧ (q.k = 0 → huM ((zcc b).drop q.a) 0 0 q.o = (d,e)) ∧ (q.k = 1 → Way q.c q.n ∧ huM ((zcc b).drop q.a) q.c q.n q.o = (d,e)) ∧ (q.k = 2 → Way q.c q.n ∧ huM [] q.c q.n q.o = (d,e))
theorem hok2 {b d : List UInt8} {e : Int} {a n : Nat} {c : Int} {o : List UInt8} (h1 : a ≤ 8 * b.length) (h2 : o.length ≤ a) (hw : Way c n) (h3 : huM [] c n o = (d,e)) : HOk b d e ⟨2,a,c,n,o⟩:=
 ⟨h1,h2,fun h=>absurd (show (2 : Fin 3) = 0 from h) (by decide),fun h=>absurd (show (2 : Fin 3) = 1 from h) (by decide),fun _=>⟨hw,h3⟩⟩
@[go_sem] theorem zuA {σ : Sto} : fzl [0,1,2,3] σ bkB = bkB:=by
 rw [ja]
 unfold bkB bkA b2
 have h : ∀ l : List Int,(l.map nA).map (fz [0,1,2,3] σ) = l.map nA:=by
  intro l;rw [List.map_map];exact List.map_congr_left (fun _ _=>rfl)
 simp only [List.map_cons,List.map_append,h]
 rfl
attribute [local irreducible] bkB cntN ordB zmL zqt csI szI zhi zfZ ztv zcc codeN huM
end Go.Proofs.YtdalcgfnlbofdaaGreatDoor
namespace Go.Proofs.YtdalcgfnlbofdaaGreatDoor
open Go Go.Lf Go.Proofs
attribute [local irreducible] Lf.rg Lf.ro Lf.PWp Lf.SOp Lf.ACall Lf.Scoped Lf.dg Lf.dw
set_option maxRecDepth 20000
set_option maxHeartbeats 4000000
attribute [local irreducible] zhl csI szI rpL vv zak ztm zjZ
end Go.Proofs.YtdalcgfnlbofdaaGreatDoor
namespace Go.Proofs.YtdalcgfnlbofdaaGreatDoor
open Go Go.Lf Go.Proofs
attribute [local irreducible] Lf.rg Lf.ro Lf.PWp Lf.SOp Lf.ACall Lf.Scoped Lf.dg Lf.dw
set_option maxRecDepth 20000
set_option maxHeartbeats 4000000
def zuB (l : List Int) : Nat → Nat → Int × Int
 | 0,_=>(-1,0)
 | m + 1,p=>if zhi (zcd (l.take (p + 1))) ((p : Int) + 1) = true then (zfZ (zcd (l.take (p + 1))) ((p : Int) + 1),(p : Int) + 1) else zuB l m (p + 1)
def zzi (l : List Int) : Int × Int:=zuB l (min 30 l.length) 0
attribute [local irreducible] zhl csI szI zjZ zhi zfZ zcd zzi
attribute [local irreducible] huM zcc
end Go.Proofs.YtdalcgfnlbofdaaGreatDoor
namespace Go.Proofs.YtdalcgfnlbofdaaGreatDoor
open Go Go.Lf Go.Proofs
attribute [local irreducible] Lf.rg Lf.ro Lf.PWp Lf.SOp Lf.ACall Lf.Scoped Lf.dg
set_option maxRecDepth 20000
set_option maxHeartbeats 4000000
end Go.Proofs.YtdalcgfnlbofdaaGreatDoor
