import Derived.Test.YtdalcgfnlbofdaaGreatDoorTg
import Derived.Test.YtdalcgfnlbofdaaGreatDoorZ21
import Derived.Test.YtdalcgfnlbofdaaGreatDoorZ18
import Derived.Test.YtdalcgfnlbofdaaGreatDoorZ01
import Derived.Test.YtdalcgfnlbofdaaGreatDoorLc
set_option linter.unusedVariables false
set_option linter.unusedSimpArgs false
namespace Go.Proofs.YtdalcgfnlbofdaaGreatDoor
open Go Go.Lf Go.Proofs
attribute [local irreducible] Lf.rg Lf.ro Lf.PWp Lf.SOp Lf.ACall Lf.Scoped Lf.dg Lf.dw
set_option maxRecDepth 20000
set_option maxHeartbeats 4000000
theorem bTF {c : Bool} : c = true ∨ c = false:=by cases c<;>simp
def kI (t g : Int) : Int:=if zB t g 8 = true then 1 else 0
def ahI (t g : Int) : Int:=kI t g + (if zB t g 32 = true then 5 else 0) + (if t = 5 then 4 else 0)
def u4 (b : List UInt8) (k : Int) : Int:=zJ (b.drop k.toNat) 4
def u1 (b : List UInt8) (k : Int) : Int:=zJ (b.drop k.toNat) 1
theorem zoB (w t g s : Int) (r f : Bool) (b : List UInt8) (hb : b.length ≤ 1000000000) : AEq Tryz.prog 62 [.ag [i64 w,i64 t,i64 g,i64 s,bl r,.sl f false (b.map zf)]] [] (bl (decide (kK ⟨b.length,t,g,s,r⟩))) []:=by
 refine zc Tryz.func62 rfl Tryz.ntmps62 (by simp) (fun hsc=>?_);simp only [Lf.enter,Nat.reduceAdd];clear hsc
 have hU:=True.intro
 repeat' (first|(refine goR ?_)|(refine za (fun K hK=>?_))|((refine ze [] (by rw [Tryz.results62,Lf.zt]) (zj ?_) ?_)<;>(try (first|exact zh|exact stT)))|(refine hK _ _ ?_;clear hK K))
 all_goals first|exact zq (by symm;rw [decide_eq_true_eq];unfold kK;dsimp only;omega)|exact zq (by symm;rw [decide_eq_false_iff_not];unfold kK;dsimp only;omega)|exact zq (by rw [Bool.eq_iff_iff];simp only [Bool.and_eq_true,decide_eq_true_eq];unfold kK;dsimp only;omega)
theorem zgl (t g : Int) (n : Nat) :
    (t = 2 ∧ vL t g n = decide (n = 5)) ∨ (t = 3 ∧ vL t g n = decide (n = 4)) ∨ (t = 8 ∧ vL t g n = decide (n = 4)) ∨ (t = 6 ∧ vL t g n = decide (n = 8)) ∨ (t = 7 ∧ vL t g n = decide (8 ≤ n)) ∨
    (t = 4 ∧ zB 4 g 1 = true ∧ vL t g n = decide (n = 0)) ∨ (t = 4 ∧ zB 4 g 1 = false ∧ vL t g n = decide (n % 6 = 0)) ∨ (¬ t = 2 ∧ ¬ t = 3 ∧ ¬ t = 8 ∧ ¬ t = 6 ∧ ¬ t = 7 ∧ ¬ t = 4 ∧ vL t g n = true):=by
  by_cases h2 : t = 2
  · subst h2;exact .inl ⟨rfl,rfl⟩
  by_cases h3 : t = 3
  · subst h3;exact .inr (.inl ⟨rfl,rfl⟩)
  by_cases h8 : t = 8
  · subst h8;exact .inr (.inr (.inl ⟨rfl,rfl⟩))
  by_cases h6 : t = 6
  · subst h6;exact .inr (.inr (.inr (.inl ⟨rfl,rfl⟩)))
  by_cases h7 : t = 7
  · subst h7;exact .inr (.inr (.inr (.inr (.inl ⟨rfl,rfl⟩))))
  by_cases h4 : t = 4
  · subst h4
    rcases bTF (c:=zB 4 g 1) with hH|hH
    · exact .inr (.inr (.inr (.inr (.inr (.inl ⟨rfl,hH,(zdr g n).trans (if_pos hH)⟩)))))
    · exact .inr (.inr (.inr (.inr (.inr (.inr (.inl ⟨rfl,hH,(zdr g n).trans (if_neg (by rw [hH];simp))⟩))))))
  refine .inr (.inr (.inr (.inr (.inr (.inr (.inr ⟨h2,h3,h8,h6,h7,h4,?_⟩))))))
  unfold vL
  rw [if_neg h2,if_neg (by omega),if_neg h6,if_neg h7,if_neg h4]
theorem zuZ (w t g s : Int) (r f : Bool) (b : List UInt8) (hg0 : 0 ≤ g) (hg1 : g < 256) (hb : b.length ≤ 1000000000) : AEq Tryz.prog 156 [.ag [i64 w,i64 t,i64 g,i64 s,bl r,.sl f false (b.map zf)]] [] (bl (vL t g b.length)) []:=by
 rcases zgl t g b.length with ⟨rfl,e⟩|⟨rfl,e⟩|⟨rfl,e⟩|⟨rfl,e⟩|⟨rfl,e⟩|⟨rfl,hH,e⟩|⟨rfl,hH,e⟩|⟨n2,n3,n8,n6,n7,n4,e⟩
 all_goals rw [e]
 all_goals (have hV : (0 : Int) = 0:=rfl)
 all_goals (have hH2:=hV)
 all_goals (try (have hH2:=hH))
 all_goals (refine zc Tryz.func156 rfl Tryz.ntmps156 (by simp) (fun hsc=>?_);simp only [Lf.enter,Nat.reduceAdd];clear hsc)
 all_goals (have hU:=@hH2)
 all_goals (repeat' (first|(refine goR ?_)|(refine za (fun K hK=>?_))|((refine zb (fun hcd=>?_) (fun hcd=>?_))<;>(try simp only [hcP] at hcd)<;>(try exact cdT))|(refine zd (f:=107) rfl Tryz.call107 (h:=AEq.pure' agT (zrX _ _ _ aoT aoT aoT) (hq:=?_)))|((refine ze [] (by rw [Tryz.results156,Lf.zt]) (zj ?_) ?_)<;>(try (first|exact zh|exact stT)))|(refine hK _ _ ?_;clear hK K)))
 all_goals exact zq (by grind)
theorem zds (t g : Int) : ∃ c8 c32, zB t g 8 = c8 ∧ zB t g 32 = c32 ∧
    ((t = 5 ∧ c8 = true ∧ c32 = false ∧ ahI t g = 5) ∨ (t = 5 ∧ c8 = false ∧ c32 = false ∧ ahI t g = 4) ∨ (¬ t = 5 ∧ c8 = true ∧ c32 = true ∧ ahI t g = 6) ∨ (¬ t = 5 ∧ c8 = false ∧ c32 = true ∧ ahI t g = 5) ∨ (¬ t = 5 ∧ c8 = true ∧ c32 = false ∧ ahI t g = 1) ∨ (¬ t = 5 ∧ c8 = false ∧ c32 = false ∧ ahI t g = 0)):=by
  refine ⟨_,_,rfl,rfl,?_⟩
  by_cases h5 : t = 5
  · subst h5
    have h32:=ym (t:=5) (g:=g) (by decide)
    rcases bTF (c:=zB 5 g 8) with h8|h8
    · exact .inl ⟨rfl,h8,h32,by unfold ahI kI;rw [f_t h8,f_f h32,if_pos rfl];rfl⟩
    · exact .inr (.inl ⟨rfl,h8,h32,by unfold ahI kI;rw [f_f h8,f_f h32,if_pos rfl];rfl⟩)
  · rcases bTF (c := zB t g 32) with h32 | h32
    · rcases bTF (c := zB t g 8) with h8 | h8
      · exact .inr (.inr (.inl ⟨h5,h8,h32,by unfold ahI kI;rw [f_t h8,f_t h32,if_neg h5];rfl⟩))
      · exact .inr (.inr (.inr (.inl ⟨h5,h8,h32,by unfold ahI kI;rw [f_f h8,f_t h32,if_neg h5];rfl⟩)))
    · rcases bTF (c := zB t g 8) with h8 | h8
      · exact .inr (.inr (.inr (.inr (.inl ⟨h5,h8,h32,by unfold ahI kI;rw [f_t h8,f_f h32,if_neg h5];rfl⟩))))
      · exact .inr (.inr (.inr (.inr (.inr ⟨h5,h8,h32,by unfold ahI kI;rw [f_f h8,f_f h32,if_neg h5];rfl⟩))))
theorem zoC (w t g s : Int) (r f : Bool) (b : List UInt8) (hg0 : 0 ≤ g) (hg1 : g < 256) (hb : b.length ≤ 1000000000) : AEq Tryz.prog 157 [.ag [i64 w,i64 t,i64 g,i64 s,bl r,.sl f false (b.map zf)]] [] (i64 (ahI t g)) []:=by
 obtain ⟨c8,c32,h8,h32,hc⟩:=zds t g
 rcases hc with ⟨h5,rfl,rfl,e⟩|⟨h5,rfl,rfl,e⟩|⟨h5,rfl,rfl,e⟩|⟨h5,rfl,rfl,e⟩|⟨h5,rfl,rfl,e⟩|⟨h5,rfl,rfl,e⟩
 all_goals rw [e]
 all_goals (refine zc Tryz.func157 rfl Tryz.ntmps157 (by simp) (fun hsc=>?_);simp only [Lf.enter,Nat.reduceAdd];clear hsc)
 all_goals (have hU:=And.intro @h8 (@h32))
 all_goals (repeat' (first|(refine goR ?_)|(refine za (fun K hK=>?_))|((refine zb (fun hcd=>?_) (fun hcd=>?_))<;>(try simp only [hcP] at hcd)<;>(try exact cdT))|(refine zd (f:=107) rfl Tryz.call107 (h:=AEq.pure' agT (ziA _ _ _ aoT aoT aoT) (hq:=?_)))|(refine zd (f:=107) rfl Tryz.call107 (h:=AEq.pure' agT (ziB _ _ _ aoT aoT aoT) (hq:=?_)))|((refine ze [] (by rw [Tryz.results157,Lf.zt]) (zj ?_) ?_)<;>(try (first|exact zh|exact stT)))|(refine hK _ _ ?_;clear hK K)))
theorem zk0 {t g : Int} : 0 ≤ kI t g ∧ kI t g ≤ ahI t g ∧ ahI t g ≤ 10:=by
 unfold ahI kI
 repeat' split
 all_goals omega
theorem zoD {t g : Int} {n : Nat} (h : vL t g n = false) : scI t = if t = 2 then 1 else 2:=by
 unfold scI
 by_cases h2 : t = 2
 ·rw [if_pos (.inr h2),if_pos h2]
 ·by_cases h0 : t = 0
  ·subst h0;rw [show vL 0 g n = true from rfl] at h;exact absurd h (by simp)
  ·rw [if_neg (by omega),if_neg h2]
theorem zr5 {t g : Int} (h : 0 < ahI t g) : scI t = if t = 0 then 1 else 2:=by
 unfold scI
 by_cases h0 : t = 0
 ·rw [if_pos (.inl h0),if_pos h0]
 ·by_cases h2 : t = 2
  ·subst h2
   exfalso
   unfold ahI kI at h
   rw [f_f (ku (by decide) (by decide) (by decide)),f_f (ym (by decide)),if_neg (by decide)] at h
   omega
  ·rw [if_neg (by omega),if_neg h0]
theorem kL {b : List UInt8} {x : UInt8} (h : b[0]? = some x) : zJ b 1 = x.toNat:=by
 have:=zcI b 0 x h
 rwa [List.drop_zero] at this
def y9 (t g s : Int) (b : List UInt8) : Int × Int:=
 if vj t s = false then (2,1) else if vL t g b.length = false then (if t = 2 then 1 else 2,6) else if (b.length : Int) < ahI t g then (if t = 0 then 1 else 2,6)
 else if zB t g 8 = true ∧ (b.length : Int) - ahI t g < zJ b 1 then (2,1) else (0,0)
theorem zgm (t g s : Int) (b : List UInt8) : ∃ st, zcJ t = st ∧
    (((st = 0 ∧ ¬ s = 0 ∨ st = 1 ∧ s = 0) ∧ vL t g b.length = vL t g b.length ∧ zB t g 8 = zB t g 8 ∧ y9 t g s b = (2,1)) ∨
    (((st = 0 ∧ s = 0) ∨ (st = 1 ∧ ¬ s = 0) ∨ (¬ st = 0 ∧ ¬ st = 1)) ∧ ((vL t g b.length = false ∧ zB t g 8 = zB t g 8 ∧ ((t = 2 ∧ y9 t g s b = (1, 6)) ∨ (¬ t = 2 ∧ y9 t g s b = (2, 6)))) ∨
      (vL t g b.length = true ∧ (((b.length : Int) < ahI t g ∧ zB t g 8 = zB t g 8 ∧ ((t = 0 ∧ y9 t g s b = (1, 6)) ∨ (¬ t = 0 ∧ y9 t g s b = (2, 6)))) ∨
        (¬ (b.length : Int) < ahI t g ∧ ((zB t g 8 = true ∧ 1 ≤ ahI t g ∧ ∃ x, b[0]? = some x ∧ ((((b.length : Int) - ahI t g < x.toNat) ∧ y9 t g s b = (2, 1)) ∨ (¬ ((b.length : Int) - ahI t g < x.toNat) ∧ y9 t g s b = (0, 0)))) ∨
          (zB t g 8 = false ∧ y9 t g s b = (0,0))))))))):=by
  refine ⟨_,rfl,?_⟩
  rcases bTF (c:=vj t s) with h1|h1
  · right
    have n1 : ¬ vj t s = false:=by rw [h1];simp
    refine ⟨?_,?_⟩
    · unfold vj at h1
      split at h1
      · exact .inl ⟨by assumption,of_decide_eq_true h1⟩
      · split at h1
        · exact .inr (.inl ⟨by assumption,by simpa using h1⟩)
        · exact .inr (.inr ⟨by assumption,by assumption⟩)
    rcases bTF (c:=vL t g b.length) with h2|h2
    · right
      have n2 : ¬ vL t g b.length = false:=by rw [h2];simp
      refine ⟨h2,?_⟩
      by_cases hS : (b.length : Int) < ahI t g
      · left
        refine ⟨hS,rfl,?_⟩
        by_cases h0 : t = 0
        · exact .inl ⟨h0,by unfold y9;rw [if_neg n1,if_neg n2,if_pos hS,if_pos h0]⟩
        · exact .inr ⟨h0,by unfold y9;rw [if_neg n1,if_neg n2,if_pos hS,if_neg h0]⟩
      · right
        refine ⟨hS,?_⟩
        rcases bTF (c:=zB t g 8) with h8|h8
        · left
          have hk2:=zk0 (t:=t) (g:=g)
          have hk : kI t g = 1:=f_t h8
          have h1a : 1 ≤ ahI t g:=by omega
          obtain ⟨x,hx⟩ : ∃ x,b[0]? = some x:=⟨b[0]'(by omega),List.getElem?_eq_getElem (by omega)⟩
          have hgx:=kL hx
          refine ⟨h8,h1a,x,hx,?_⟩
          by_cases hP : (b.length : Int) - ahI t g < x.toNat
          · exact .inl ⟨hP,by unfold y9;rw [if_neg n1,if_neg n2,if_neg hS,if_pos ⟨h8,by rw [hgx];exact hP⟩]⟩
          · exact .inr ⟨hP,by unfold y9;rw [if_neg n1,if_neg n2,if_neg hS,if_neg (by rw [hgx];exact fun h=>hP h.2)]⟩
        · right
          exact ⟨h8,by unfold y9;rw [if_neg n1,if_neg n2,if_neg hS,if_neg (by rw [h8];simp)]⟩
    · left
      refine ⟨h2,rfl,?_⟩
      by_cases h0 : t = 2
      · exact .inl ⟨h0,by unfold y9;rw [if_neg n1,if_pos h2,if_pos h0]⟩
      · exact .inr ⟨h0,by unfold y9;rw [if_neg n1,if_pos h2,if_neg h0]⟩
  · left
    refine ⟨?_,rfl,rfl,if_pos h1⟩
    unfold vj at h1
    split at h1
    · exact .inl ⟨by assumption,of_decide_eq_false h1⟩
    · split at h1
      · exact .inr ⟨by assumption,by simpa using h1⟩
      · exact absurd h1 (by simp)
theorem ziG (w t g s : Int) (r f : Bool) (b : List UInt8) (hg0 : 0 ≤ g) (hg1 : g < 256) (hb : b.length ≤ 1000000000) : AEq Tryz.prog 106 [.ag [i64 w,i64 t,i64 g,i64 s,bl r,.sl f false (b.map zf)]] [] (.ag [i64 (y9 t g s b).1,i64 (y9 t g s b).2]) []:=by
 have hk:=zk0 (t:=t) (g:=g)
 obtain ⟨st,q1,hc⟩:=zgm t g s b
 rcases hc with ⟨q2,h2,h8,e⟩|⟨q2,⟨h2,h8,⟨h0,e⟩|⟨h0,e⟩⟩|⟨h2,⟨hS,h8,⟨h0,e⟩|⟨h0,e⟩⟩|⟨hS,⟨h8,h1a,x,hx,⟨hP,e⟩|⟨hP,e⟩⟩|⟨h8,e⟩⟩⟩⟩
 all_goals rw [e]
 all_goals (refine zc Tryz.func106 rfl Tryz.ntmps106 (by simp) (fun hsc=>?_);simp only [Lf.enter,Nat.reduceAdd];clear hsc)
 all_goals (have hU:=And.intro @q1 ( And.intro @h2 (@h8)))
 all_goals (repeat' (first|(refine goR ?_)|(refine za (fun K hK=>?_))|(guard_target =~ PWp _ _ _ _ _ _ _;refine zG mixed (by kernel_rfl) ?_)|((refine zb (fun hcd=>?_) (fun hcd=>?_))<;>(try simp only [hcP] at hcd)<;>(try exact cdT))|(guard_target =~ rg _ _ _ (⟨_,_,_,_,_,some _⟩ :: _) _ _ _;(first|refine zv gT (fun hcd=>?_) (fun hcd=>?_)|refine zp gT (fun hcd=>?_) (fun hcd=>?_))<;>(try simp only [hcd])<;>(try (simp only [Bool.not_eq_true',Bool.not_eq_false'] at hcd;try simp only [hcd]))<;>(refine vC (Γ2:=_) ewT ?_)<;>(try simp only [hcP] at hcd)<;>(try exact cdT))|(refine zd (f:=157) rfl Tryz.call157 (h:=AEq.pure' agT (zoC _ _ _ _ _ _ _ aoT aoT aoT) (hq:=?_)))|(refine zd (f:=155) rfl Tryz.call155 (h:=AEq.pure' agT (zuY _) (hq:=?_)))|(refine zd (f:=156) rfl Tryz.call156 (h:=AEq.pure' agT (zuZ _ _ _ _ _ _ _ aoT aoT aoT) (hq:=?_)))|((refine zY [] exT (by rfl) (by rw [Tryz.results106,Lf.yM];(try simp (disch:=omega) only [Lf.zD,go_sem,seval,↓reduceIte,hU]);rfl) sT sT (zj ?_) ?_)<;>(try (first|exact zh|exact stT)))|(guard_target =~ dg _ _ _ _ _ _ _;first|(guard_target =~ dg _ _ _ (⟨_,.indexAddr _ _ _,_,_,_,some _⟩ :: _) _ _ _;(refine yY (x:=_) (h:=zb2 (h:=yP rfl (hK:=zi ⟨rfl,rfl⟩))) (hk:=?_)))|(guard_target =~ dg _ _ _ (⟨_,.call ⟨.value (.func 107),_,_⟩,_,_,_,none⟩ :: _) _ _ _;(refine yY (x:=_) (h:=zQ (h:=zd (f:=107) rfl Tryz.call107 (h:=AEq.pure' agT (ziA _ _ _ aoT aoT aoT) (hq:=zi ⟨rfl,rfl⟩)))) (hk:=?_))))|(refine hK _ _ ?_;clear hK K)))
 all_goals exact zA rfl
theorem zu0 (f q : Bool) (b : List UInt8) (a : Int) (h0 : 0 ≤ a) (h1 : a ≤ b.length) (hb : b.length ≤ 1000000000) : AEq Tryz.prog 108 [.sl f q (b.map zf),i64 a] [] (.tu [i64 (yB (u4 b a)),bl (hiN (u4 b a))]) []:=by
 have hg:=vc (b.drop a.toNat) 4
 have hg1:=hg.1
 have hg2:=hg.2
 refine zc Tryz.func108 rfl Tryz.ntmps108 (by simp) (fun hsc=>?_);simp only [Lf.enter,Nat.reduceAdd];clear hsc
 have hU:=True.intro
 repeat' (first|(refine goR ?_)|(refine za (fun K hK=>?_))|(guard_target =~ SOp _ _ ⟨_,.slice _ _ _ _ _,_,_,_,none⟩ _ _ _;refine kj rfl (hg:=(fun _=>gT)) (hK:=?_))|(refine zd (f:=160) rfl Tryz.call160 (h:=AEq.pure' agT (zoy _ (by first|assumption|(simp only [List.length_map,List.length_append,List.length_take,List.length_drop,List.length_cons,List.length_nil];omega)) (by first|assumption|(simp only [List.length_map,List.length_append,List.length_take,List.length_drop,List.length_cons,List.length_nil];omega))) (hq:=?_)))|(refine zd (f:=159) rfl Tryz.call159 (h:=AEq.pure' agT (zen _ _ _ _ (by first|assumption|(simp only [List.length_map,List.length_append,List.length_take,List.length_drop,List.length_cons,List.length_nil];omega))) (hq:=?_)))|((refine ze [] (by rw [Tryz.results108,Lf.yb]) (zu ?_ ?_) ?_)<;>(try (first|exact zh|exact stT)))|(refine hK _ _ ?_;clear hK K))
theorem zr6 (f q : Bool) (b : List UInt8) (a : Int) (h0 : 0 ≤ a) (h1 : a ≤ b.length) (hb : b.length ≤ 1000000000) : AEq Tryz.prog 109 [.sl f q (b.map zf),i64 a] [] (i64 (u4 b a)) []:=by
 refine zc Tryz.func109 rfl Tryz.ntmps109 (by simp) (fun hsc=>?_);simp only [Lf.enter,Nat.reduceAdd];clear hsc
 have hU:=True.intro
 repeat' (first|(refine goR ?_)|(refine za (fun K hK=>?_))|(guard_target =~ SOp _ _ ⟨_,.slice _ _ _ _ _,_,_,_,none⟩ _ _ _;refine kj rfl (hg:=(fun _=>gT)) (hK:=?_))|(refine zd (f:=159) rfl Tryz.call159 (h:=AEq.pure' agT (zen _ _ _ _ (by simp only [List.length_map,List.length_append,List.length_take,List.length_drop,List.length_cons,List.length_nil];omega)) (hq:=?_)))|((refine ze [] (by rw [Tryz.results109,Lf.zt]) (zj ?_) ?_)<;>(try (first|exact zh|exact stT)))|(refine hK _ _ ?_;clear hK K))
def rfD (t g : Int) (b : List UInt8) (k : Nat) : List UInt8:=if zB t g 8 = true then (b.take ((b.length : Int) - zJ b 1).toNat).drop k else b.drop k
def kN (t g : Int) : Nat:=if zB t g 8 = true then 1 else 0
def rfM (t g s : Int) (b : List UInt8) : Fm:=
 if t = 3 then ⟨3,g,s,-1,true,[],true,[],0,0,false,0,0,u4 b 0,0⟩
 else if t = 4 then ⟨4,g,s,-1,true,[],false,zeq b,0,0,false,0,0,0,0⟩
 else if t = 8 then ⟨8,g,s,-1,true,[],true,[],0,0,false,0,0,0,yB (u4 b 0)⟩
 else if t = 7 then ⟨7,g,s,-1,false,b.drop 8,true,[],0,0,false,0,yB (u4 b 0),u4 b 4,0⟩
 else if t = 5 then ⟨5,g,s,vS 5 g b,false,rfD 5 g b (kN 5 g + 4),true,[],0,0,false,yB (u4 b (kN 5 g)),0,0,0⟩
 else if t = 2 ∨ zB t g 32 = true then ⟨t,g,s,vS t g b,false,rfD t g b (kN t g + 5),true,[],u1 b ((kN t g : Int) + 4),yB (u4 b (kN t g)),hiN (u4 b (kN t g)),0,0,0,0⟩
 else ⟨t,g,s,vS t g b,false,rfD t g b (kN t g),true,[],0,0,false,0,0,0,0⟩
theorem ziH {t g s : Int} {b : List UInt8} (h : y9 t g s b = (0,0)) : vL t g b.length = true ∧ ¬ (b.length : Int) < ahI t g ∧ (zB t g 8 = true → zJ b 1 ≤ (b.length : Int) - ahI t g):=by
 unfold y9 at h
 split at h
 ·exact absurd h (by decide)
 ·split at h
  ·split at h<;>exact absurd h (by decide)
  ·rename_i h2
   split at h
   ·split at h<;>exact absurd h (by decide)
   ·rename_i h3
    split at h
    ·exact absurd h (by decide)
    ·rename_i h4
     refine ⟨by cases e : vL t g b.length;exact absurd e h2;rfl,h3,fun h8=>?_⟩
     apply Decidable.byContradiction
     intro hn
     exact h4 ⟨h8,by omega⟩
theorem zoE {b : List UInt8} {k : Nat} {y : UInt8} (h : b[k]? = some y) : ((y.toNat : Nat) : Int) = u1 b k:=by
 unfold u1
 rw [show ((k : Nat) : Int).toNat = k from Int.toNat_natCast k,zcI b k y h]
theorem zpq {b : List UInt8} {k : Nat} (h : k < b.length) : ∃ y,b[k]? = some y:=⟨b[k],List.getElem?_eq_getElem h⟩
theorem zdt {t g s : Int} {b : List UInt8} (h : y9 t g s b = (0, 0)) :
    (t = 3 ∧ zB t g 8 = false ∧ zB t g 32 = false ∧ (0 : Int) = 0 ∧ (0 : Int) = 0 ∧ (0 : Int) = 0 ∧ b.length = 4 ∧ rfM t g s b = ⟨3,g,s,-1,true,[],true,[],0,0,false,0,0,u4 b 0,0⟩) ∨
    (t = 4 ∧ zB t g 8 = false ∧ zB t g 32 = false ∧ (0 : Int) = 0 ∧ (0 : Int) = 0 ∧ (0 : Int) = 0 ∧ True ∧ rfM t g s b = ⟨4,g,s,-1,true,[],false,zeq b,0,0,false,0,0,0,0⟩) ∨
    (t = 8 ∧ zB t g 8 = false ∧ zB t g 32 = false ∧ (0 : Int) = 0 ∧ (0 : Int) = 0 ∧ (0 : Int) = 0 ∧ b.length = 4 ∧ rfM t g s b = ⟨8,g,s,-1,true,[],true,[],0,0,false,0,0,0,yB (u4 b 0)⟩) ∨
    (∃ (_ : t = 7),zB t g 8 = false ∧ zB t g 32 = false ∧ (0 : Int) = 0 ∧ (0 : Int) = 0 ∧ (0 : Int) = 0 ∧ 8 ≤ b.length ∧ rfM t g s b = ⟨7,g,s,-1,false,b.drop 8,true,[],0,0,false,0,yB (u4 b 0),u4 b 4,0⟩) ∨
    (∃ x : UInt8,∃ (_ : t = 5),zB t g 8 = true ∧ zB t g 32 = false ∧ ((x.toNat : Nat) : Int) = zJ b 1 ∧ (0 : Int) = 0 ∧ (0 : Int) = 0 ∧ b[0]? = some x ∧ (zJ b 1 ≤ (b.length : Int) - 5 ∧ 0 ≤ zJ b 1) ∧ 5 ≤ b.length ∧ rfM t g s b = ⟨5,g,s,zJ b 1,false,(b.take ((b.length : Int) - zJ b 1).toNat).drop 5,true,[],0,0,false,yB (u4 b 1),0,0,0⟩) ∨
    (∃ (_ : t = 5),zB t g 8 = false ∧ zB t g 32 = false ∧ (0 : Int) = 0 ∧ (0 : Int) = 0 ∧ (0 : Int) = 0 ∧ 4 ≤ b.length ∧ rfM t g s b = ⟨5,g,s,-1,false,b.drop 4,true,[],0,0,false,yB (u4 b 0),0,0,0⟩) ∨
    (∃ y : UInt8,∃ (_ : t = 2),zB t g 8 = false ∧ zB t g 32 = false ∧ (0 : Int) = 0 ∧ ((y.toNat : Nat) : Int) = u1 b 4 ∧ (0 : Int) = 0 ∧ b[4]? = some y ∧ (0 ≤ u1 b 4 ∧ u1 b 4 < 4294967296) ∧ 5 ≤ b.length ∧ rfM t g s b = ⟨2,g,s,-1,false,b.drop 5,true,[],u1 b 4,yB (u4 b 0),hiN (u4 b 0),0,0,0,0⟩) ∨
    (∃ x : UInt8,∃ y : UInt8,∃ (_ : ¬ t = 2 ∧ ¬ t = 3 ∧ ¬ t = 4 ∧ ¬ t = 5 ∧ ¬ t = 7 ∧ ¬ t = 8),zB t g 8 = true ∧ zB t g 32 = true ∧ ((x.toNat : Nat) : Int) = zJ b 1 ∧ ((y.toNat : Nat) : Int) = u1 b 5 ∧ (0 : Int) = 0 ∧ b[0]? = some x ∧ (zJ b 1 ≤ (b.length : Int) - 6 ∧ 0 ≤ zJ b 1) ∧ b[5]? = some y ∧ (0 ≤ u1 b 5 ∧ u1 b 5 < 4294967296) ∧ 6 ≤ b.length ∧ rfM t g s b = ⟨t,g,s,zJ b 1,false,(b.take ((b.length : Int) - zJ b 1).toNat).drop 6,true,[],u1 b 5,yB (u4 b 1),hiN (u4 b 1),0,0,0,0⟩) ∨
    (∃ y : UInt8,∃ (_ : ¬ t = 2 ∧ ¬ t = 3 ∧ ¬ t = 4 ∧ ¬ t = 5 ∧ ¬ t = 7 ∧ ¬ t = 8),zB t g 8 = false ∧ zB t g 32 = true ∧ (0 : Int) = 0 ∧ ((y.toNat : Nat) : Int) = u1 b 4 ∧ (0 : Int) = 0 ∧ b[4]? = some y ∧ (0 ≤ u1 b 4 ∧ u1 b 4 < 4294967296) ∧ 5 ≤ b.length ∧ rfM t g s b = ⟨t,g,s,-1,false,b.drop 5,true,[],u1 b 4,yB (u4 b 0),hiN (u4 b 0),0,0,0,0⟩) ∨
    (∃ x : UInt8,∃ (_ : ¬ t = 2 ∧ ¬ t = 3 ∧ ¬ t = 4 ∧ ¬ t = 5 ∧ ¬ t = 7 ∧ ¬ t = 8),zB t g 8 = true ∧ zB t g 32 = false ∧ ((x.toNat : Nat) : Int) = zJ b 1 ∧ (0 : Int) = 0 ∧ (0 : Int) = 0 ∧ b[0]? = some x ∧ (zJ b 1 ≤ (b.length : Int) - 1 ∧ 0 ≤ zJ b 1) ∧ 1 ≤ b.length ∧ rfM t g s b = ⟨t,g,s,zJ b 1,false,(b.take ((b.length : Int) - zJ b 1).toNat).drop 1,true,[],0,0,false,0,0,0,0⟩) ∨
    (∃ (_ : ¬ t = 2 ∧ ¬ t = 3 ∧ ¬ t = 4 ∧ ¬ t = 5 ∧ ¬ t = 7 ∧ ¬ t = 8),zB t g 8 = false ∧ zB t g 32 = false ∧ (0 : Int) = 0 ∧ (0 : Int) = 0 ∧ (0 : Int) = 0 ∧ 0 ≤ b.length ∧ rfM t g s b = ⟨t,g,s,-1,false,b,true,[],0,0,false,0,0,0,0⟩):=by
  obtain ⟨hL,hA,hP⟩:=ziH h
  have hgb:=vc b 1
  by_cases c3 : t = 3
  · subst c3
    have h8:=ku (t:=3) (g:=g) (by decide) (by decide) (by decide)
    have h32:=ym (t:=3) (g:=g) (by decide)
    exact .inl ⟨rfl,h8,h32,rfl,rfl,rfl,of_decide_eq_true (show decide (b.length = 4) = true from hL),rfl⟩
  by_cases c4 : t = 4
  · subst c4
    have h8:=ku (t:=4) (g:=g) (by decide) (by decide) (by decide)
    have h32:=ym (t:=4) (g:=g) (by decide)
    exact .inr (.inl ⟨rfl,h8,h32,rfl,rfl,rfl,trivial,rfl⟩)
  by_cases c8 : t = 8
  · subst c8
    have h8:=ku (t:=8) (g:=g) (by decide) (by decide) (by decide)
    have h32:=ym (t:=8) (g:=g) (by decide)
    exact .inr (.inr (.inl ⟨rfl,h8,h32,rfl,rfl,rfl,of_decide_eq_true (show decide (b.length = 4) = true from hL),rfl⟩))
  by_cases c7 : t = 7
  · subst c7
    have h8:=ku (t:=7) (g:=g) (by decide) (by decide) (by decide)
    have h32:=ym (t:=7) (g:=g) (by decide)
    have hl:=of_decide_eq_true (show decide (8 ≤ b.length) = true from hL)
    have e : rfM 7 g s b = ⟨7,g,s,-1,false,b.drop 8,true,[],0,0,false,0,yB (u4 b 0),u4 b 4,0⟩:=rfl
    exact .inr (.inr (.inr (.inl ⟨rfl,h8,h32,rfl,rfl,rfl,by omega,e⟩)))
  by_cases c5 : t = 5
  · subst c5
    have h32:=ym (t:=5) (g:=g) (by decide)
    rcases bTF (c:=zB 5 g 8) with h8|h8
    · have hk : kN 5 g = 1 := f_t h8
      have ha : ahI 5 g = 5:=by unfold ahI kI;rw [f_t h8,f_f h32,if_pos rfl];rfl
      have hp : vS 5 g b = zJ b 1:=f_t h8
      have hd : rfD 5 g b (kN 5 g + 4) = (b.take ((b.length : Int) - zJ b 1).toNat).drop 5:=by rw [hk];exact f_t h8
      have hp2:=hP h8
      have e : rfM 5 g s b = ⟨5,g,s,zJ b 1,false,(b.take ((b.length : Int) - zJ b 1).toNat).drop 5,true,[],0,0,false,yB (u4 b 1),0,0,0⟩:=by unfold rfM;rw [if_neg (by decide),if_neg (by decide),if_neg (by decide),if_neg (by decide),if_pos rfl,hp,hd,hk];rfl
      obtain ⟨x,hx⟩:=zpq (b:=b) (k:=0) (by omega)
      have hgx : ((x.toNat : Nat) : Int) = zJ b 1:=(kL hx).symm
      exact .inr (.inr (.inr (.inr (.inl ⟨x,rfl,h8,h32,hgx,rfl,rfl,hx,⟨by omega,by omega⟩,by omega,e⟩))))
    · have hk : kN 5 g = 0 := f_f h8
      have ha : ahI 5 g = 4:=by unfold ahI kI;rw [f_f h8,f_f h32,if_pos rfl];rfl
      have hp : vS 5 g b = -1:=f_f h8
      have hd : rfD 5 g b (kN 5 g + 4) = b.drop 4:=by rw [hk];exact f_f h8
      have e : rfM 5 g s b = ⟨5,g,s,-1,false,b.drop 4,true,[],0,0,false,yB (u4 b 0),0,0,0⟩:=by unfold rfM;rw [if_neg (by decide),if_neg (by decide),if_neg (by decide),if_neg (by decide),if_pos rfl,hp,hd,hk];rfl
      exact .inr (.inr (.inr (.inr (.inr (.inl ⟨rfl,h8,h32,rfl,rfl,rfl,by omega,e⟩)))))
  by_cases c2 : t = 2
  · subst c2
    have h8:=ku (t:=2) (g:=g) (by decide) (by decide) (by decide)
    have h32:=ym (t:=2) (g:=g) (by decide)
    have hl:=of_decide_eq_true (show decide (b.length = 5) = true from hL)
    have hk : kN 2 g = 0:=f_f h8
    have hp : vS 2 g b = -1:=f_f h8
    have hd : rfD 2 g b (kN 2 g + 5) = b.drop 5:=by rw [hk];exact f_f h8
    have e : rfM 2 g s b = ⟨2,g,s,-1,false,b.drop 5,true,[],u1 b 4,yB (u4 b 0),hiN (u4 b 0),0,0,0,0⟩:=by unfold rfM;rw [if_neg (by decide),if_neg (by decide),if_neg (by decide),if_neg (by decide),if_neg (by decide),if_pos (.inl rfl),hp,hd,hk];rfl
    obtain ⟨y,hy⟩:=zpq (b:=b) (k:=4) (by omega)
    have hgy:=zoE hy
    exact .inr (.inr (.inr (.inr (.inr (.inr (.inl ⟨y,rfl,h8,h32,rfl,hgy,rfl,hy,vc _ 1,by omega,e⟩))))))
  have c3':=c3
  have c8t:=c8
  rcases bTF (c:=zB t g 32) with h32|h32
  · rcases bTF (c := zB t g 8) with h8 | h8
    · have hk : kN t g = 1 := f_t h8
      have ha : ahI t g = 6:=by unfold ahI kI;rw [f_t h8,f_t h32,if_neg c5];rfl
      have hp : vS t g b = zJ b 1:=f_t h8
      have hd : rfD t g b (kN t g + 5) = (b.take ((b.length : Int) - zJ b 1).toNat).drop 6:=by rw [hk];exact f_t h8
      have hp2:=hP h8
      have e : rfM t g s b = ⟨t,g,s,zJ b 1,false,(b.take ((b.length : Int) - zJ b 1).toNat).drop 6,true,[],u1 b 5,yB (u4 b 1),hiN (u4 b 1),0,0,0,0⟩:=by unfold rfM;rw [if_neg c3,if_neg c4,if_neg c8t,if_neg c7,if_neg c5,if_pos (.inr h32),hp,hd,hk];rfl
      obtain ⟨x,hx⟩:=zpq (b:=b) (k:=0) (by omega)
      have hgx : ((x.toNat : Nat) : Int) = zJ b 1:=(kL hx).symm
      obtain ⟨y,hy⟩:=zpq (b:=b) (k:=5) (by omega)
      have hgy:=zoE hy
      exact .inr (.inr (.inr (.inr (.inr (.inr (.inr (.inl ⟨x,y,⟨c2,c3,c4,c5,c7,c8t⟩,h8,h32,hgx,hgy,rfl,hx,⟨by omega,by omega⟩,hy,vc _ 1,by omega,e⟩)))))))
    · have hk : kN t g = 0 := f_f h8
      have ha : ahI t g = 5:=by unfold ahI kI;rw [f_f h8,f_t h32,if_neg c5];rfl
      have hp : vS t g b = -1:=f_f h8
      have hd : rfD t g b (kN t g + 5) = b.drop 5:=by rw [hk];exact f_f h8
      have e : rfM t g s b = ⟨t,g,s,-1,false,b.drop 5,true,[],u1 b 4,yB (u4 b 0),hiN (u4 b 0),0,0,0,0⟩:=by unfold rfM;rw [if_neg c3,if_neg c4,if_neg c8t,if_neg c7,if_neg c5,if_pos (.inr h32),hp,hd,hk];rfl
      obtain ⟨y,hy⟩:=zpq (b:=b) (k:=4) (by omega)
      have hgy:=zoE hy
      exact .inr (.inr (.inr (.inr (.inr (.inr (.inr (.inr (.inl ⟨y,⟨c2,c3,c4,c5,c7,c8t⟩,h8,h32,rfl,hgy,rfl,hy,vc _ 1,by omega,e⟩))))))))
  · rcases bTF (c := zB t g 8) with h8 | h8
    · have hk : kN t g = 1 := f_t h8
      have ha : ahI t g = 1:=by unfold ahI kI;rw [f_t h8,f_f h32,if_neg c5];rfl
      have hp : vS t g b = zJ b 1:=f_t h8
      have hd : rfD t g b (kN t g) = (b.take ((b.length : Int) - zJ b 1).toNat).drop 1:=by rw [hk];exact f_t h8
      have hp2:=hP h8
      have e : rfM t g s b = ⟨t,g,s,zJ b 1,false,(b.take ((b.length : Int) - zJ b 1).toNat).drop 1,true,[],0,0,false,0,0,0,0⟩:=by unfold rfM;rw [if_neg c3,if_neg c4,if_neg c8t,if_neg c7,if_neg c5,if_neg (by rw [h32];simpa using c2),hp,hd]
      obtain ⟨x,hx⟩:=zpq (b:=b) (k:=0) (by omega)
      have hgx : ((x.toNat : Nat) : Int) = zJ b 1:=(kL hx).symm
      exact .inr (.inr (.inr (.inr (.inr (.inr (.inr (.inr (.inr (.inl ⟨x,⟨c2,c3,c4,c5,c7,c8t⟩,h8,h32,hgx,rfl,rfl,hx,⟨by omega,by omega⟩,by omega,e⟩)))))))))
    · have hk : kN t g = 0 := f_f h8
      have ha : ahI t g = 0:=by unfold ahI kI;rw [f_f h8,f_f h32,if_neg c5];rfl
      have hp : vS t g b = -1:=f_f h8
      have hd : rfD t g b (kN t g) = b:=by rw [hk];exact (f_f h8).trans (List.drop_zero)
      have e : rfM t g s b = ⟨t,g,s,-1,false,b,true,[],0,0,false,0,0,0,0⟩:=by unfold rfM;rw [if_neg c3,if_neg c4,if_neg c8t,if_neg c7,if_neg c5,if_neg (by rw [h32];simpa using c2),hp,hd]
      exact .inr (.inr (.inr (.inr (.inr (.inr (.inr (.inr (.inr (.inr (⟨⟨c2,c3,c4,c5,c7,c8t⟩,h8,h32,rfl,rfl,rfl,by omega,e⟩))))))))))
set_option maxRecDepth 20000 in
set_option maxHeartbeats 40000000 in
theorem ziI (w t g s : Int) (r f : Bool) (b : List UInt8) (hg0 : 0 ≤ g) (hg1 : g < 256) (hb : b.length ≤ 1000000000) (hW : ¬ (y9 t g s b).1 = 0) : AEq Tryz.prog 63 [.ag [i64 w,i64 t,i64 g,i64 s,bl r,.sl f false (b.map zf)]] [] (.tu [.ag (fmA fm0),.ag [i64 (y9 t g s b).1,i64 (y9 t g s b).2]]) []:=by
 refine zc Tryz.func63 rfl Tryz.ntmps63 (by simp) (fun hsc=>?_);simp only [Lf.enter,Nat.reduceAdd];clear hsc
 have hU:=True.intro
 repeat' (first|(refine goR ?_)|(guard_target =~ PWp _ _ _ _ _ _ _;refine zn (id:=3) [0,2,1,3] [2,3] mixed (by kernel_rfl) (by kernel_rfl) ?_)|(refine za (fun K hK=>?_))|((refine zb (fun hcd=>?_) (fun hcd=>?_))<;>(try simp only [hcP] at hcd)<;>(try exact cdT))|(refine zd (f:=106) rfl Tryz.call106 (h:=AEq.pure' agT (ziG _ _ _ _ _ _ _ (by assumption) (by assumption) (by assumption)) (hq:=?_)))|((refine zY [] exT (by rfl) (by rw [Tryz.results63];exact Lf.jP roT roT) sT sT (zu ?_ ?_) ?_)<;>(try (first|exact zh|exact stT)))|(guard_target =~ dw _ _ _ _ _ _ _ _ _ _;first|(guard_target =~ dw _ _ _ _ _ (0 :: _) _ _ _ _;(refine vK rfl rfl (h:=(fun τ=>zQ (h:=vH rfl (by first|exact zs8|exact ztT|exact ztU|exact ztV|fail) (hK:=zi ⟨rfl,rfl⟩)))) (hk:=?_)))|((first|guard_target =~ dw _ _ _ _ _ (2 :: _) _ _ _ _|guard_target =~ dw _ _ _ _ _ (3 :: _) _ _ _ _|guard_target =~ dw _ _ _ _ _ (8 :: _) _ _ _ _);(refine kO rfl rfl (h:=zcT (h:=z0 rfl (hK:=zi ⟨rfl,rfl⟩))) (hk:=?_))))|(refine hK _ _ ?_;clear hK K))
 all_goals exact zA rfl
set_option maxRecDepth 20000 in
set_option maxHeartbeats 40000000 in
theorem zr7 (w t g s : Int) (r f : Bool) (b : List UInt8) (hg0 : 0 ≤ g) (hg1 : g < 256) (hb : b.length ≤ 1000000000) (hW : y9 t g s b = (0,0)) : AEq Tryz.prog 63 [.ag [i64 w,i64 t,i64 g,i64 s,bl r,.sl f false (b.map zf)]] [] (.tu [.ag (fmA (rfM t g s b)),.ag [i64 0,i64 0]]) []:=by
 have hgb:=vc b 1
 rcases zdt hW with ⟨rfl,hx8,hx32,hgx,hgy,hne,hln,e⟩|⟨rfl,hx8,hx32,hgx,hgy,hne,hln,e⟩|⟨rfl,hx8,hx32,hgx,hgy,hne,hln,e⟩|⟨rfl,hx8,hx32,hgx,hgy,hne,hln,e⟩|⟨x,rfl,hx8,hx32,hgx,hgy,hne,hx,⟨hpb,hpb0⟩,hln,e⟩|⟨rfl,hx8,hx32,hgx,hgy,hne,hln,e⟩|⟨y,rfl,hx8,hx32,hgx,hgy,hne,hy,⟨hu0,hu1⟩,hln,e⟩|⟨x,y,⟨m2,m3,m4,m5,m7,m8⟩,hx8,hx32,hgx,hgy,hne,hx,⟨hpb,hpb0⟩,hy,⟨hu0,hu1⟩,hln,e⟩|⟨y,⟨m2,m3,m4,m5,m7,m8⟩,hx8,hx32,hgx,hgy,hne,hy,⟨hu0,hu1⟩,hln,e⟩|⟨x,⟨m2,m3,m4,m5,m7,m8⟩,hx8,hx32,hgx,hgy,hne,hx,⟨hpb,hpb0⟩,hln,e⟩|⟨⟨m2,m3,m4,m5,m7,m8⟩,hx8,hx32,hgx,hgy,hne,hln,e⟩
 all_goals rw [e]
 all_goals (refine zc Tryz.func63 rfl Tryz.ntmps63 (by simp) (fun hsc=>?_);simp only [Lf.enter,Nat.reduceAdd];clear hsc)
 all_goals (have hU:=And.intro @hW ( And.intro @hx8 ( And.intro @hx32 ( And.intro @hgx (@hgy)))))
 all_goals (repeat' (first|(refine goR ?_)|(guard_target =~ PWp _ _ _ _ _ _ _;refine zn (id:=39) [0,1,2,3,4,5,6,7,8] [6,8] mixed (by kernel_rfl) (by kernel_rfl) ?_)|(refine za (fun K hK=>?_))|((refine zb (fun hcd=>?_) (fun hcd=>?_))<;>(try simp only [hcP] at hcd)<;>(try exact cdT))|(guard_target =~ rg _ _ _ (⟨_,_,_,_,_,some _⟩ :: _) _ _ _;(first|refine zv gT (fun hcd=>?_) (fun hcd=>?_)|refine zp gT (fun hcd=>?_) (fun hcd=>?_))<;>(try simp only [hcd])<;>(try (simp only [Bool.not_eq_true',Bool.not_eq_false'] at hcd;try simp only [hcd]))<;>(refine vC (Γ2:=_) ewT ?_)<;>(try simp only [hcP] at hcd)<;>(try exact cdT))|(refine zd (f:=108) rfl Tryz.call108 (h:=AEq.pure' agT (zu0 _ _ _ _ aoT aoT aoT) (hq:=?_)))|(refine zd (f:=109) rfl Tryz.call109 (h:=AEq.pure' agT (zr6 _ _ _ _ aoT aoT aoT) (hq:=?_)))|(refine zd (f:=110) rfl Tryz.call110 (h:=AEq.pure' agT (zgj _ _ aoT) (hq:=?_)))|(refine zd (f:=106) rfl Tryz.call106 (h:=AEq.pure' agT (ziG _ _ _ _ _ _ _ aoT aoT aoT) (hq:=?_)))|(refine zd (f:=107) rfl Tryz.call107 (h:=AEq.pure' agT (ziA _ _ _ aoT aoT aoT) (hq:=?_)))|(refine zd (f:=107) rfl Tryz.call107 (h:=AEq.pure' agT (ziB _ _ _ aoT aoT aoT) (hq:=?_)))|((refine zY [] exT (by rfl) (by rw [Tryz.results63];exact Lf.jP roT roT) sT sT (zu ?_ ?_) ?_)<;>(try (first|exact zh|exact stT)))|(guard_target =~ dw _ _ _ _ _ _ _ _ _ _;first|((first|guard_target =~ dw _ _ _ _ _ (2 :: _) _ _ _ _|guard_target =~ dw _ _ _ _ _ (3 :: _) _ _ _ _|guard_target =~ dw _ _ _ _ _ (8 :: _) _ _ _ _);(refine kO rfl rfl (h:=zcT (h:=z0 rfl (hK:=zi ⟨rfl,rfl⟩))) (hk:=?_)))|(guard_target =~ dw _ _ _ _ _ (5 :: _) _ _ _ _;(refine vK rfl rfl (h:=(fun τ=>zQ (h:=kj rfl (hg:=(fun _=>gT)) (hK:=zi ⟨rfl,rfl⟩)))) (hk:=?_)))|(guard_target =~ dw _ _ _ _ _ (6 :: _) _ _ _ _;(refine zaq rfl rfl (h:=zQ (h:=y6 rfl (he:=eoT) (hne:=by first|exact .inl rfl|exact .inr (by assumption)|exact .inr (by simp;done)|fail) (hK:=zi ⟨rfl,rfl⟩))) (hk:=?_))))|(refine hK _ _ ?_;clear hK K)))
 all_goals exact zA rfl
end Go.Proofs.YtdalcgfnlbofdaaGreatDoor
