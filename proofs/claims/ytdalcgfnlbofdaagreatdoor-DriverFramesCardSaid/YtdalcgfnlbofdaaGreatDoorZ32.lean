import Derived.Test.YtdalcgfnlbofdaaGreatDoorTg
import Derived.Test.YtdalcgfnlbofdaaGreatDoorZ31
import Derived.Test.YtdalcgfnlbofdaaGreatDoorZ01
import Derived.Test.YtdalcgfnlbofdaaGreatDoorLc
import Derived.Test.YtdalcgfnlbofdaaGreatDoorZ05
import Derived.Test.YtdalcgfnlbofdaaGreatDoorZ29
import Derived.Test.YtdalcgfnlbofdaaGreatDoorZ23
import Derived.Test.YtdalcgfnlbofdaaGreatDoorZ15
set_option linter.unusedVariables false
set_option linter.unusedSimpArgs false
namespace Go.Proofs.YtdalcgfnlbofdaaGreatDoor
open Go Go.Lf Go.Proofs
attribute [local irreducible] Lf.rg Lf.ro Lf.PWp Lf.SOp Lf.ACall Lf.Scoped Lf.dg Lf.dw
set_option maxRecDepth 20000
set_option maxHeartbeats 4000000
theorem zvk {a b : List Fr} (h : a.map rqF = b.map rqF) {i : Nat} {x y : Fr} (hx : a[i]? = some x) (hy : b[i]? = some y) : (⟨x.w,x.t,x.g,x.s,x.r,x.b⟩ : Rq) = ⟨y.w,y.t,y.g,y.s,y.r,y.b⟩:=by
 have:=congrArg (fun l=>l[i]?) h
 simp only [List.getElem?_map,hx,hy,Option.map_some] at this
 exact Option.some.inj this
theorem zsq (w t g s w' t' g' s' : Int) (r r' f f' : Bool) (b b' : List UInt8) (hb : b.length ≤ 4000000000000000000) : AEq Tryz.prog 32 [.ag [i64 w,i64 t,i64 g,i64 s,bl r,.sl f false (b.map zf)],.ag [i64 w',i64 t',i64 g',i64 s',bl r',.sl f' false (b'.map zf)]] [] (bl (decide ((⟨w,t,g,s,r,b⟩ : Rq) = ⟨w',t',g',s',r',b'⟩))) []:=by
 refine zc Tryz.func32 rfl Tryz.ntmps32 (by simp) (fun hsc=>?_);simp only [Lf.enter,Nat.reduceAdd];clear hsc
 have hU:=True.intro
 repeat' (first|(refine goR ?_)|(refine za (fun K hK=>?_))|(guard_target =~ rg _ _ _ (⟨_,_,_,_,_,some _⟩ :: _) _ _ _;(first|refine zv gT (fun hcd=>?_) (fun hcd=>?_)|refine zp gT (fun hcd=>?_) (fun hcd=>?_))<;>(try simp only [hcd])<;>(try (simp only [Bool.not_eq_true',Bool.not_eq_false'] at hcd;try simp only [hcd]))<;>(refine vC (Γ2:=_) ewT ?_)<;>(try simp only [hcP] at hcd)<;>(try exact cdT))|(refine zd (f:=75) rfl Tryz.call75 (h:=AEq.pure' agT (zhk _ _ _ _ _ _ (by assumption)) (hq:=?_)))|((refine ze [] (by rw [Tryz.results32,Lf.zt]) (zj ?_) ?_)<;>(try (first|exact zh|exact stT)))|(refine hK _ _ ?_;clear hK K))
 all_goals exact zq (by grind)
theorem zja (f q f' q' : Bool) (a b : List Fr) (ha : a.length ≤ 1000000000) (hx : ∀ x ∈ a,x.b.length ≤ 1000000000) (hab : a.map rqF = b.map rqF) : AEq Tryz.prog 9 [.sl f q (a.map frA),.sl f' q' (b.map frA)] [] (bl true) []:=by
 have hl : a.length = b.length:=by have:=congrArg List.length hab;simpa using this
 refine zc Tryz.func9 rfl Tryz.ntmps9 (by simp) (fun hsc=>?_);simp only [Lf.enter,Nat.reduceAdd];clear hsc
 have hU:=True.intro
 repeat' (first|(refine goR ?_)|(refine za (fun K hK=>?_))|((refine zb (fun hcd=>?_) (fun hcd=>?_))<;>(try simp only [hcP] at hcd)<;>(try exact cdT))|(refine hK _ _ ?_;clear hK K))
 refine zo [4,5,11,12,13,14,15,16,17,18,19,20,21,22,23,24,25,26] (fun i : Nat=>[(5,i64 i)]) (fun _=>[]) (fun i=>i ≤ a.length) (fun i=>a.length - i) 0 (Nat.zero_le _) ?_ rfl ?_
 ·(refine ⟨⟨_,sT,?_⟩,trivial⟩<;>(try (first|exact zh)))
 ·rintro i hi
  simp only [yn,List.map_cons,List.map_nil,List.cons_append,List.nil_append]
  by_cases hlt : i < a.length
  ·obtain ⟨x, hx1⟩ := zi5 hlt
   obtain ⟨y,hy⟩:=zi5 (l:=b) (i:=i) (by omega)
   have hxb:=hx x (List.mem_of_getElem? hx1)
   have hd : decide ((⟨x.w,x.t,x.g,x.s,x.r,x.b⟩ : Rq) = ⟨y.w,y.t,y.g,y.s,y.r,y.b⟩) = true:=decide_eq_true (zvk hab hx1 hy)
   have hU:=@hd
   repeat' (first|(refine goR ?_)|(refine za (fun K hK=>?_))|(guard_target =~ PWp _ _ _ _ _ _ _;refine zG mixed (by kernel_rfl) ?_)|((refine zb (fun hcd=>?_) (fun hcd=>?_))<;>(try simp only [hcP] at hcd)<;>(try exact cdT))|(guard_target =~ dg _ _ _ _ _ _ _;first|(guard_target =~ dg _ _ _ (⟨_,.indexAddr _ _ _,_,_,_,none⟩ :: _) _ _ _;(refine yY (x:=_) (h:=zQ (h:=yP rfl (hK:=zi ⟨rfl,rfl⟩))) (hk:=?_)))|(guard_target =~ dg _ _ _ (⟨_,.call ⟨.value (.func 32),_,_⟩,_,_,_,none⟩ :: _) _ _ _;(refine yY (x:=_) (h:=zQ (h:=zd (f:=32) rfl Tryz.call32 (h:=AEq.pure' agT (zsq _ _ _ _ _ _ _ _ _ _ _ _ _ _ (by omega)) (hq:=zi ⟨rfl,rfl⟩)))) (hk:=?_))))|(refine hK _ _ ?_;clear hK K))
   refine ⟨i + 1,by omega,by omega,?_,arT,srT⟩
   (refine ⟨⟨_,sT,?_⟩,trivial⟩<;>(try (first|exact zh)))
  ·repeat' (first|(refine goR ?_)|(refine za (fun K hK=>?_))|((refine zb (fun hcd=>?_) (fun hcd=>?_))<;>(try simp only [hcP] at hcd)<;>(try exact cdT))|((refine ze [] (by rw [Tryz.results9,Lf.zt]) (zj ?_) ?_)<;>(try (first|exact zh|exact stT)))|(refine hK _ _ ?_;clear hK K)|(apply_assumption (exfalso:=false) (symm:=false)))
structure DS where
 (i s : Nat) (n : Int) (p : List (List UInt8))
def preB : List UInt8:=[80,82,73,32,42,32,72,84,84,80,47,50,46,48,13,10,13,10,83,77,13,10,13,10]
theorem zAY : AEq Tryz.prog 33 [] [] (.sl false false (preB.map zf)) []:=by
 refine zc Tryz.func33 rfl Tryz.ntmps33 (by simp) (fun hsc=>?_);simp only [Lf.enter,Nat.reduceAdd];clear hsc
 have hU:=True.intro
 repeat' (first|(refine goR ?_)|(refine za (fun K hK=>?_))|(guard_target =~ SOp _ _ ⟨_,.call ⟨.builtin .append,_,_⟩,_,_,_,none⟩ _ _ _;refine zdw (l:=preB) rfl sT bT eoT (by rfl) (by decide) (by decide) (by decide) (by rfl) sT ?_)|((refine ze [] (by rw [Tryz.results33,Lf.zt]) (zj ?_) ?_)<;>(try (first|exact zh|exact stT)))|(refine hK _ _ ?_;clear hK K))
def opF (sd : Int) : List Fr:=if sd = 0 then [⟨false,0,-1,0,0,false,preB⟩,⟨true,0,4,0,0,false,[]⟩] else if sd = 1 then [⟨true,1,4,0,0,false,[]⟩] else []
def zvl : List Fr:=[⟨false,0,-1,0,0,false,preB⟩,⟨true,0,4,0,0,false,[]⟩]
def zvm : List Fr:=[⟨true,1,4,0,0,false,[]⟩]
theorem zsr : opF 0 = zvl:=rfl
theorem zss : opF 1 = zvm:=rfl
theorem zpc (sd : Int) : AEq Tryz.prog 10 [i64 sd] [] (.sl false false ((opF sd).map frA)) []:=by
 by_cases h0 : sd = 0
 ·subst h0
  rw [zsr]
  refine zc Tryz.func10 rfl Tryz.ntmps10 (by simp) (fun hsc=>?_);simp only [Lf.enter,Nat.reduceAdd];clear hsc
  have hU:=True.intro
  repeat' (first|(refine goR ?_)|(guard_target =~ PWp _ _ _ _ _ _ _;refine yI (id:=4) 3 mixed (by kernel_rfl) (by kernel_rfl) (by kernel_rfl) rfl rfl ?_)|(refine za (fun K hK=>?_))|((refine zb (fun hcd=>?_) (fun hcd=>?_))<;>(try simp only [hcP] at hcd)<;>(try exact cdT))|(guard_target =~ SOp _ _ ⟨_,.buildSlice _ _ _,_,_,_,none⟩ _ _ _;refine zF (xs:=List.map (frA) (zvl)) rfl (he:=eoT) (hc:=hcT) (hK:=?_))|((refine ze [] (by rw [Tryz.results10,Lf.zt]) (zj ?_) ?_)<;>(try (first|exact zh|exact stT)))|(guard_target =~ dg _ _ _ _ _ _ _;first|(guard_target =~ dg _ _ _ (⟨_,.build _ _,_,_,_,none⟩ :: _) _ _ _;(refine yY (x:=_) (h:=zQ (h:=vH rfl (by first|exact zs8|fail) (hK:=zi ⟨rfl,rfl⟩))) (hk:=?_)))|(guard_target =~ dg _ _ _ (⟨_,.call ⟨.value (.func 33),_,_⟩,_,_,_,none⟩ :: _) _ _ _;(refine yY (x:=_) (h:=zQ (h:=zd (f:=33) rfl Tryz.call33 (h:=AEq.pure' agT zAY (hq:=zi ⟨rfl,rfl⟩)))) (hk:=?_))))|(refine hK _ _ ?_;clear hK K))
 ·by_cases h1 : sd = 1
  ·subst h1
   rw [zss]
   refine zc Tryz.func10 rfl Tryz.ntmps10 (by simp) (fun hsc=>?_);simp only [Lf.enter,Nat.reduceAdd];clear hsc
   have hU:=True.intro
   repeat' (first|(refine goR ?_)|(refine za (fun K hK=>?_))|((refine zb (fun hcd=>?_) (fun hcd=>?_))<;>(try simp only [hcP] at hcd)<;>(try exact cdT))|(guard_target =~ SOp _ _ ⟨_,.buildSlice _ _ _,_,_,_,none⟩ _ _ _;refine zF (xs:=List.map (frA) (zvm)) rfl (he:=eoT) (hc:=hcT) (hK:=?_))|((refine ze [] (by rw [Tryz.results10,Lf.zt]) (zj ?_) ?_)<;>(try (first|exact zh|exact stT)))|(refine hK _ _ ?_;clear hK K))
  ·have h2 : opF sd = [] := by unfold opF; rw [if_neg h0, if_neg h1]
   rw [h2]
   refine zc Tryz.func10 rfl Tryz.ntmps10 (by simp) (fun hsc=>?_);simp only [Lf.enter,Nat.reduceAdd];clear hsc
   have hU:=True.intro
   repeat' (first|(refine goR ?_)|(refine za (fun K hK=>?_))|((refine zb (fun hcd=>?_) (fun hcd=>?_))<;>(try simp only [hcP] at hcd)<;>(try exact cdT))|((refine ze [] (by rw [Tryz.results10,Lf.zt]) (zj ?_) ?_)<;>(try (first|exact zh|exact stT)))|(refine hK _ _ ?_;clear hK K))
def lD3 : List Fr:=[⟨true,1,4,0,0,false,[]⟩,⟨true,1,4,0,0,false,[]⟩,⟨true,0,4,1,0,false,[]⟩]
def lD1 : List Fr:=[⟨true,0,4,1,0,false,[]⟩]
theorem zvn : zvh 0 (seeF 0 lD3) = lD1:=by kernel_rfl
theorem zjb : AEq Tryz.prog 8 [] [] (bl true) []:=by
 have hR:=zvn
 have hn : lD1.length ≤ 1000000000:=by decide
 have hb : ∀ x ∈ lD1,x.b.length ≤ 1000000000:=by decide
 have hn3 : lD3.length ≤ 100:=by decide
 have hb3 : ∀ x ∈ lD3,x.b.length ≤ 100000:=by decide
 have hs : (0 : Int) = 0 ∨ (0 : Int) = 1:=.inl rfl
 have hab : lD1.map rqF = lD1.map rqF:=rfl
 have hO : (opF 0).length = 2:=rfl
 refine zc Tryz.func8 rfl Tryz.ntmps8 (by simp) (fun hsc=>?_);simp only [Lf.enter,Nat.reduceAdd];clear hsc
 have hU:=And.intro @hR (@hO)
 repeat' (first|(refine goR ?_)|(refine za (fun K hK=>?_))|(guard_target =~ SOp _ _ ⟨_,.buildSlice _ _ _,_,_,_,none⟩ _ _ _;refine zF (xs:=List.map (frA) (lD3)) rfl (he:=eoT) (hc:=hcT) (hK:=?_))|(guard_target =~ SOp _ _ ⟨_,.buildSlice _ _ _,_,_,_,none⟩ _ _ _;refine zF (xs:=List.map (frA) (lD1)) rfl (he:=eoT) (hc:=hcT) (hK:=?_))|(refine zd (f:=9) rfl Tryz.call9 (h:=AEq.pure' agT (zja _ _ _ _ _ _ (by assumption) (by assumption) (by assumption)) (hq:=?_)))|(refine zd (f:=31) rfl Tryz.call31 (h:=AEq.pure' agT (zpb _ _ _ _ (by assumption) (by assumption) (by assumption)) (hq:=?_)))|(refine zd (f:=10) rfl Tryz.call10 (h:=AEq.pure' agT (zpc _) (hq:=?_)))|((refine ze [] (by rw [Tryz.results8,Lf.zt]) (zj ?_) ?_)<;>(try (first|exact zh|exact stT)))|(refine hK _ _ ?_;clear hK K))
def zAZ (L : List StL) : Prop:=∀ s ∈ L,s.fl.length ≤ 1000000 ∧ s.ss.length ≤ 1000000
attribute [local irreducible] rsB
end Go.Proofs.YtdalcgfnlbofdaaGreatDoor
namespace Go.Proofs.YtdalcgfnlbofdaaGreatDoor
open Go Go.Lf Go.Proofs
attribute [local irreducible] Lf.rg Lf.ro Lf.PWp Lf.SOp Lf.ACall Lf.Scoped Lf.dg Lf.dw
set_option maxRecDepth 20000
set_option maxHeartbeats 4000000
def zcQ : List StL → Bool
 | []=>false
 | s :: l=>if zgx s.fl 40 400 = true ∨ 40 < s.ss.length then true else zcQ l
def zbg (L : List StL) : Bool:=if 40 < L.length then true else zcQ L
def smS (L : List StL) : Prop:=∀ s ∈ L,s.fl.length ≤ 40 ∧ s.ss.length ≤ 40
theorem zlq {l : List Fl} {m g : Int} (h : zgx l m g = false) : l.length ≤ m:=by
 unfold zgx at h
 split at h
 ·cases h
 ·omega
theorem zlr {l : List StL} (h : zcQ l = false) : smS l:=by
 induction l with
 | nil=>intro d hd;simp at hd
 | cons x l ih=>
  unfold zcQ at h
  split at h
  ·cases h
  ·rename_i hb
   intro d hd
   rw [List.mem_cons] at hd
   rcases hd with rfl|hd
   ·have h1 : zgx d.fl 40 400 = false := by cases hq : zgx d.fl 40 400 with | false => rfl | true => exact absurd (.inl hq) hb
    have:=zlq h1
    omega
   ·exact ih h d hd
theorem zjc {l : List StL} (h : zbg l = false) : l.length ≤ 40 ∧ smS l:=by
 unfold zbg at h
 split at h
 ·cases h
 ·exact ⟨by omega,zlr h⟩
def inS (L : List StL) : Prop:=∀ s ∈ L,s.fl.length ≤ 9223372036854775807 ∧ s.ss.length ≤ 9223372036854775807
theorem smS.ok {L : List StL} (h : smS L) : zAZ L:=fun s hs=>by have:=h s hs;omega
theorem zeC (f : Bool) (L : List StL) (side wk ws : Int) (h : L.length ≤ 9223372036854775807) (hb : inS L) : AEq Tryz.prog 7 [.ag [i64 side,.sl f false (L.map stA),i64 wk,i64 ws]] [] (bl (zbg L)) []:=by
 by_cases h30 : 40 < L.length
 ·have e : zbg L = true := if_pos h30
  rw [e]
  refine zc Tryz.func7 rfl Tryz.ntmps7 (by simp) (fun hsc=>?_);simp only [Lf.enter,Nat.reduceAdd];clear hsc
  have hU:=True.intro
  repeat' (first|(refine goR ?_)|(refine za (fun K hK=>?_))|((refine zb (fun hcd=>?_) (fun hcd=>?_))<;>(try simp only [hcP] at hcd)<;>(try exact cdT))|((refine ze [] (by rw [Tryz.results7,Lf.zt]) (zj ?_) ?_)<;>(try (first|exact zh|exact stT)))|(refine hK _ _ ?_;clear hK K))
 have e : zbg L = zcQ L:=if_neg h30
 rw [e]
 refine zc Tryz.func7 rfl Tryz.ntmps7 (by simp) (fun hsc=>?_);simp only [Lf.enter,Nat.reduceAdd];clear hsc
 have hU:=True.intro
 repeat' (first|(refine goR ?_)|(refine za (fun K hK=>?_))|((refine zb (fun hcd=>?_) (fun hcd=>?_))<;>(try simp only [hcP] at hcd)<;>(try exact cdT))|(refine hK _ _ ?_;clear hK K))
 refine zo [2,3,8,9,10,11,12,13,14,15,16,17,18,19,20,21,22,23,24,25,26,27,28,29,30,31] (fun i : Nat=>[(3,i64 i)]) (fun _=>[.box [i64 side,.sl f false (L.map stA),i64 wk,i64 ws]]) (fun i=>i ≤ L.length ∧ zcQ L = zcQ (L.drop i)) (fun i=>L.length - i) 0 ⟨Nat.zero_le _,rfl⟩ ?_ rfl ?_
 ·(refine ⟨⟨_,sT,?_⟩,trivial⟩<;>(try (first|exact zh)))
 ·rintro i ⟨hi, hk⟩
  simp only [yn,List.map_cons,List.map_nil,List.cons_append,List.nil_append]
  by_cases hlt : i < L.length
  ·obtain ⟨d, hd⟩ := yy hlt
   obtain ⟨hd1,hd2⟩:=hb d (List.mem_of_getElem? hd)
   rw [jf hd,zcQ] at hk
   cases h1 : zgx d.fl 40 400 with
   | true=>
    rw [if_pos (.inl h1)] at hk
    have hU:=@h1
    repeat' (first|(refine goR ?_)|(refine za (fun K hK=>?_))|((refine zb (fun hcd=>?_) (fun hcd=>?_))<;>(try simp only [hcP] at hcd)<;>(try exact cdT))|(refine zd (f:=30) rfl Tryz.call30 (h:=AEq.pure' agT (jE _ _ _ _ _ (by assumption)) (hq:=?_)))|((refine ze [] (by rw [Tryz.results7,Lf.zt]) (zj ?_) ?_)<;>(try (first|exact zh|exact stT)))|(refine hK _ _ ?_;clear hK K))
    all_goals exact zq (by rw [hk])
   | false=>
    by_cases h2 : 40 < d.ss.length
    ·rw [if_pos (.inr h2)] at hk
     have hU:=@h1
     repeat' (first|(refine goR ?_)|(refine za (fun K hK=>?_))|((refine zb (fun hcd=>?_) (fun hcd=>?_))<;>(try simp only [hcP] at hcd)<;>(try exact cdT))|(refine zd (f:=30) rfl Tryz.call30 (h:=AEq.pure' agT (jE _ _ _ _ _ (by assumption)) (hq:=?_)))|((refine ze [] (by rw [Tryz.results7,Lf.zt]) (zj ?_) ?_)<;>(try (first|exact zh|exact stT)))|(refine hK _ _ ?_;clear hK K))
     all_goals exact zq (by rw [hk])
    ·rw [if_neg (by simp [h1, h2])] at hk
     have hU:=@h1
     repeat' (first|(refine goR ?_)|(refine za (fun K hK=>?_))|((refine zb (fun hcd=>?_) (fun hcd=>?_))<;>(try simp only [hcP] at hcd)<;>(try exact cdT))|(refine zd (f:=30) rfl Tryz.call30 (h:=AEq.pure' agT (jE _ _ _ _ _ (by assumption)) (hq:=?_)))|(refine hK _ _ ?_;clear hK K))
     refine ⟨i + 1,⟨by omega,hk⟩,by omega,?_,arT,srT⟩
     (refine ⟨⟨_,sT,?_⟩,trivial⟩<;>(try (first|exact zh)))
  ·have he : zcQ L = false := by rw [hk, List.drop_eq_nil_of_le (by omega)]; rfl
   repeat' (first|(refine goR ?_)|(refine za (fun K hK=>?_))|((refine zb (fun hcd=>?_) (fun hcd=>?_))<;>(try simp only [hcP] at hcd)<;>(try exact cdT))|((refine ze [] (by rw [Tryz.results7,Lf.zt]) (zj ?_) ?_)<;>(try (first|exact zh|exact stT)))|(refine hK _ _ ?_;clear hK K)|(apply_assumption (exfalso:=false) (symm:=false)))
   exact zq (by rw [he])
theorem vu (k t n : Int) (e : Bool) (fl : List Fl) (ss : List (Int × Int)) (h1 : fl.length ≤ 9223372036854775807) (h2 : ss.length ≤ 1000000) : AEq Tryz.prog 36 [.ag [i64 k,i64 t,i64 n,bl e,.sl false false (fl.map flA),.sl false false (ss.map zV)]] [] (bl (rsB ⟨k,t,n,e,fl,ss⟩)) []:=zli ⟨k,t,n,e,fl,ss⟩ h1 h2
theorem yK (k t n : Int) (e : Bool) (fl : List Fl) (ss : List (Int × Int)) (h1 : fl.length ≤ 9223372036854775807) (h2 : ss.length ≤ 1000000) : AEq Tryz.prog 39 [.ag [i64 k,i64 t,i64 n,bl e,.sl false false (fl.map flA),.sl false false (ss.map zV)]] [] (bl (rsB ⟨k,t,n,e,fl,ss⟩)) []:=zi4 ⟨k,t,n,e,fl,ss⟩ h1 h2
def lz0 : List Int:=[0]
def lo2 : List Op4:=[⟨2,false,false,false⟩]
def zgz (m : UInt8) : List UInt8:=[0,0,0,0,0,0,0,m]
theorem zjd {n : Int} (h0 : 0 ≤ n) (h1 : n ≤ 255) : n = ((UInt8.ofNat n.toNat).toNat : Int):=by
 rw [UInt8.toNat_ofNat']
 omega
theorem zls (k t n : Int) (e : Bool) (fl : List Fl) (ss : List (Int × Int)) (hf : fl.length ≤ 100) (hz : ∀ f ∈ fl,f.n.size ≤ 1000 ∧ f.v.size ≤ 1000) : AEq Tryz.prog 81 [.ag [i64 k,i64 t,i64 n,bl e,.sl false false (fl.map flA),.sl false false (ss.map zV)]] [] (.ag [i64 1,i64 4,i64 0,i64 0,.sl false false ((yr fl).map zf),.sl true false [],i64 0,i64 0,bl false,i64 0,i64 0,i64 0,i64 0]) []:=by
 rcases hQ : zfl lz0 fl lo2 ⟨xsE,0,0⟩ with ⟨o,⟨xt,st,mt⟩⟩
 have ho : yr fl = o:=by
  show (zfl lz0 fl lo2 ⟨xsE,0,0⟩).o = o
  rw [hQ]
 have hsl : lz0.length ≤ 100:=by decide
 have hol : lo2.length ≤ 100000:=by decide
 have hok : TOk ⟨xsE,0,0⟩:=zoi (by decide) (by decide)
 have hzz : zeh lz0 = false:=by decide
 have hx : xsE.length ≤ 30000:=by decide
 rw [ho]
 refine zc Tryz.func81 rfl Tryz.ntmps81 (by simp) (fun hsc=>?_);simp only [Lf.enter,Nat.reduceAdd];clear hsc
 have hU:=True.intro
 repeat' (first|(refine goR ?_)|(refine za (fun K hK=>?_))|(guard_target =~ SOp _ _ ⟨_,.buildSlice _ _ _,_,_,_,none⟩ _ _ _;refine zF (xs:=List.map (y8) (lz0)) rfl (he:=eoT) (hc:=hcT) (hK:=?_))|(guard_target =~ SOp _ _ ⟨_,.buildSlice _ _ _,_,_,_,none⟩ _ _ _;refine zF (xs:=List.map (opA) (lo2)) rfl (he:=eoT) (hc:=hcT) (hK:=?_))|(refine zd (f:=131) rfl Tryz.call131 (h:=AEq.sub' [_,_,_] (hc:=zrN _ _ _ _ _ _ _ _ _ aoT aoT aoT aoT _ _ _ aoT aoT aoT _ _ _ _ aoT) (hq:=?_)))|(refine zd (f:=68) rfl Tryz.call68 (h:=AEq.sub' [] (hc:=zoh _ aoT aoT) (hq:=?_)))|((refine zY [] exT (by rfl) (by rw [Tryz.results81,Lf.yM];(try simp (disch:=omega) only [Lf.zD,go_sem,seval,↓reduceIte,hU]);rfl) sT sT (zj ?_) ?_)<;>(try (first|exact zh|exact stT)))|(refine hK _ _ ?_;clear hK K))
theorem zje (t n : Int) (e : Bool) (fl : List Fl) (ss : List (Int × Int)) (hf : fl.length ≤ 100) (hz : ∀ f ∈ fl,f.n.size ≤ 1000 ∧ f.v.size ≤ 1000) : AEq Tryz.prog 37 [.ag [i64 1,i64 t,i64 n,bl e,.sl false false (fl.map flA),.sl false false (ss.map zV)]] [] (.ag [i64 1,i64 4,i64 0,i64 0,.sl false false ((yr fl).map zf),.sl true false [],i64 0,i64 0,bl false,i64 0,i64 0,i64 0,i64 0]) []:=by
 refine zc Tryz.func37 rfl Tryz.ntmps37 (by simp) (fun hsc=>?_);simp only [Lf.enter,Nat.reduceAdd];clear hsc
 have hU:=True.intro
 repeat' (first|(refine goR ?_)|(refine za (fun K hK=>?_))|((refine zb (fun hcd=>?_) (fun hcd=>?_))<;>(try simp only [hcP] at hcd)<;>(try exact cdT))|(refine zd (f:=81) rfl Tryz.call81 (h:=AEq.pure' agT (zls _ _ _ _ _ _ (by assumption) (by assumption)) (hq:=?_)))|((refine zY [] exT (by rfl) (by rw [Tryz.results37,Lf.yM];(try simp (disch:=omega) only [Lf.zD,go_sem,seval,↓reduceIte,hU]);rfl) sT sT (zj ?_) ?_)<;>(try (first|exact zh|exact stT)))|(refine hK _ _ ?_;clear hK K))
theorem zjf (t n : Int) (e : Bool) (fl : List Fl) (ss : List (Int × Int)) (hn : 0 ≤ n ∧ n ≤ 16384) : AEq Tryz.prog 37 [.ag [i64 2,i64 t,i64 n,bl e,.sl false false (fl.map flA),.sl false false (ss.map zV)]] [] (.ag [i64 0,i64 0,i64 0,i64 0,.sl false false (List.map zf (List.replicate n.toNat 0)),.sl true false [],i64 0,i64 0,bl false,i64 0,i64 0,i64 0,i64 0]) []:=by
 have hmr : List.replicate n.toNat [AV.lit (Value.int IntKind.u8 0)] = List.map zf (List.replicate n.toNat 0):=by rw [List.map_replicate];rfl
 refine zc Tryz.func37 rfl Tryz.ntmps37 (by simp) (fun hsc=>?_);simp only [Lf.enter,Nat.reduceAdd];clear hsc
 have hU:=@hmr
 repeat' (first|(refine goR ?_)|(refine za (fun K hK=>?_))|((refine zb (fun hcd=>?_) (fun hcd=>?_))<;>(try simp only [hcP] at hcd)<;>(try exact cdT))|(guard_target =~ SOp _ _ ⟨_,.makeSlice _ _ _,_,_,_,none⟩ _ _ _;refine zbD rfl (he:=eoT) (hK:=?_))|((refine zY [] exT (by rfl) (by rw [Tryz.results37,Lf.yM];(try simp (disch:=omega) only [Lf.zD,go_sem,seval,↓reduceIte,hU]);rfl) sT sT (zj ?_) ?_)<;>(try (first|exact zh|exact stT)))|(refine hK _ _ ?_;clear hK K))
theorem zpd (t n : Int) (e : Bool) (fl : List Fl) (ss : List (Int × Int)) : AEq Tryz.prog 37 [.ag [i64 3,i64 t,i64 n,bl e,.sl false false (fl.map flA),.sl false false (ss.map zV)]] [] (.ag [i64 4,i64 0,i64 0,i64 0,.sl true false [],.sl false false (ss.map zV),i64 0,i64 0,bl false,i64 0,i64 0,i64 0,i64 0]) []:=by
 refine zc Tryz.func37 rfl Tryz.ntmps37 (by simp) (fun hsc=>?_);simp only [Lf.enter,Nat.reduceAdd];clear hsc
 have hU:=True.intro
 repeat' (first|(refine goR ?_)|(refine za (fun K hK=>?_))|((refine zb (fun hcd=>?_) (fun hcd=>?_))<;>(try simp only [hcP] at hcd)<;>(try exact cdT))|((refine zY [] exT (by rfl) (by rw [Tryz.results37,Lf.yM];(try simp (disch:=omega) only [Lf.zD,go_sem,seval,↓reduceIte,hU]);rfl) sT sT (zj ?_) ?_)<;>(try (first|exact zh|exact stT)))|(refine hK _ _ ?_;clear hK K))
theorem zpe (t n : Int) (e : Bool) (fl : List Fl) (ss : List (Int × Int)) : AEq Tryz.prog 37 [.ag [i64 4,i64 t,i64 n,bl e,.sl false false (fl.map flA),.sl false false (ss.map zV)]] [] (.ag [i64 8,i64 0,i64 0,i64 0,.sl true false [],.sl true false [],i64 0,i64 0,bl false,i64 0,i64 0,i64 0,i64 n]) []:=by
 refine zc Tryz.func37 rfl Tryz.ntmps37 (by simp) (fun hsc=>?_);simp only [Lf.enter,Nat.reduceAdd];clear hsc
 have hU:=True.intro
 repeat' (first|(refine goR ?_)|(refine za (fun K hK=>?_))|((refine zb (fun hcd=>?_) (fun hcd=>?_))<;>(try simp only [hcP] at hcd)<;>(try exact cdT))|((refine zY [] exT (by rfl) (by rw [Tryz.results37,Lf.yM];(try simp (disch:=omega) only [Lf.zD,go_sem,seval,↓reduceIte,hU]);rfl) sT sT (zj ?_) ?_)<;>(try (first|exact zh|exact stT)))|(refine hK _ _ ?_;clear hK K))
theorem zpf (t n : Int) (e : Bool) (fl : List Fl) (ss : List (Int × Int)) : AEq Tryz.prog 37 [.ag [i64 5,i64 t,i64 n,bl e,.sl false false (fl.map flA),.sl false false (ss.map zV)]] [] (.ag [i64 3,i64 0,i64 0,i64 0,.sl true false [],.sl true false [],i64 0,i64 0,bl false,i64 0,i64 0,i64 n,i64 0]) []:=by
 refine zc Tryz.func37 rfl Tryz.ntmps37 (by simp) (fun hsc=>?_);simp only [Lf.enter,Nat.reduceAdd];clear hsc
 have hU:=True.intro
 repeat' (first|(refine goR ?_)|(refine za (fun K hK=>?_))|((refine zb (fun hcd=>?_) (fun hcd=>?_))<;>(try simp only [hcP] at hcd)<;>(try exact cdT))|((refine zY [] exT (by rfl) (by rw [Tryz.results37,Lf.yM];(try simp (disch:=omega) only [Lf.zD,go_sem,seval,↓reduceIte,hU]);rfl) sT sT (zj ?_) ?_)<;>(try (first|exact zh|exact stT)))|(refine hK _ _ ?_;clear hK K))
theorem zpg (t : Int) (m : UInt8) (e : Bool) (fl : List Fl) (ss : List (Int × Int)) : AEq Tryz.prog 37 [.ag [i64 6,i64 t,i64 (m.toNat : Int),bl e,.sl false false (fl.map flA),.sl false false (ss.map zV)]] [] (.ag [i64 6,i64 0,i64 0,i64 0,.sl true false ((zgz m).map zf),.sl true false [],i64 0,i64 0,bl false,i64 0,i64 0,i64 0,i64 0]) []:=by
 have hm:=m.toNat_lt
 refine zc Tryz.func37 rfl Tryz.ntmps37 (by simp) (fun hsc=>?_);simp only [Lf.enter,Nat.reduceAdd];clear hsc
 have hU:=True.intro
 repeat' (first|(refine goR ?_)|(refine za (fun K hK=>?_))|((refine zb (fun hcd=>?_) (fun hcd=>?_))<;>(try simp only [hcP] at hcd)<;>(try exact cdT))|(guard_target =~ SOp _ _ ⟨_,.buildSlice _ _ _,_,_,_,none⟩ _ _ _;refine zF (xs:=List.map (zf) (zgz m)) rfl (he:=eoT) (hc:=hcT) (hK:=?_))|((refine zY [] exT (by rfl) (by rw [Tryz.results37,Lf.yM];(try simp (disch:=omega) only [Lf.zD,go_sem,seval,↓reduceIte,hU]);rfl) sT sT (zj ?_) ?_)<;>(try (first|exact zh|exact stT)))|(refine hK _ _ ?_;clear hK K))
theorem zph (t n : Int) (e : Bool) (fl : List Fl) (ss : List (Int × Int)) : AEq Tryz.prog 37 [.ag [i64 7,i64 t,i64 n,bl e,.sl false false (fl.map flA),.sl false false (ss.map zV)]] [] (.ag [i64 7,i64 0,i64 0,i64 0,.sl true false [],.sl true false [],i64 0,i64 0,bl false,i64 0,i64 n,i64 0,i64 0]) []:=by
 refine zc Tryz.func37 rfl Tryz.ntmps37 (by simp) (fun hsc=>?_);simp only [Lf.enter,Nat.reduceAdd];clear hsc
 have hU:=True.intro
 repeat' (first|(refine goR ?_)|(refine za (fun K hK=>?_))|((refine zb (fun hcd=>?_) (fun hcd=>?_))<;>(try simp only [hcP] at hcd)<;>(try exact cdT))|((refine zY [] exT (by rfl) (by rw [Tryz.results37,Lf.yM];(try simp (disch:=omega) only [Lf.zD,go_sem,seval,↓reduceIte,hU]);rfl) sT sT (zj ?_) ?_)<;>(try (first|exact zh|exact stT)))|(refine hK _ _ ?_;clear hK K))
end Go.Proofs.YtdalcgfnlbofdaaGreatDoor
