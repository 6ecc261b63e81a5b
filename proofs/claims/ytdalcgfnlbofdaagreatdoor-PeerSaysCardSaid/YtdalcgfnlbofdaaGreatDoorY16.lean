import Derived.Test.YtdalcgfnlbofdaaGreatDoorPg
import Derived.Test.YtdalcgfnlbofdaaGreatDoorY15
import Derived.Test.YtdalcgfnlbofdaaGreatDoorY12
import Derived.Test.YtdalcgfnlbofdaaGreatDoorY01
import Derived.Test.YtdalcgfnlbofdaaGreatDoorPc
set_option linter.unusedVariables false
set_option linter.unusedSimpArgs false
namespace Go.Proofs.YtdalcgfnlbofdaaGreatDoor
open Go Go.Lf Go.Proofs
attribute [local irreducible] Lf.rg Lf.ro Lf.PWp Lf.SOp Lf.ACall Lf.Scoped Lf.dg Lf.dw
set_option maxRecDepth 20000
set_option maxHeartbeats 4000000
theorem bTF {c : Bool} : c = true ∨ c = false:=by cases c<;>simp
def kI (t g : Int) : Int:=if zF t g 8 = true then 1 else 0
def ahI (t g : Int) : Int:=kI t g + (if zF t g 32 = true then 5 else 0) + (if t = 5 then 4 else 0)
def u4 (b : List UInt8) (k : Int) : Int:=zM (b.drop k.toNat) 4
def u1 (b : List UInt8) (k : Int) : Int:=zM (b.drop k.toNat) 1
theorem znz (w t g s : Int) (r f : Bool) (b : List UInt8) (hb : b.length ≤ 1000000000) : AEq Tryz.prog 62 [.ag [i64 w,i64 t,i64 g,i64 s,bl r,.sl f false (b.map zf)]] [] (bl (decide (km ⟨b.length,t,g,s,r⟩))) []:=by
 refine zc Tryz.func62 rfl Tryz.ntmps62 (by simp) (fun hsc=>?_);simp only [Lf.enter,Nat.reduceAdd];clear hsc
 have hU:=True.intro
 repeat' (first|(refine goR ?_)|(refine za (fun K hK=>?_))|((refine zh [] (by rw [Tryz.results62,Lf.zy]) (zj ?_) ?_)<;>(try (first|exact zi|exact stT)))|(refine hK _ _ ?_;clear hK K))
 all_goals first|exact zt (by symm;rw [decide_eq_true_eq];unfold km;dsimp only;omega)|exact zt (by symm;rw [decide_eq_false_iff_not];unfold km;dsimp only;omega)|exact zt (by rw [Bool.eq_iff_iff];simp only [Bool.and_eq_true,decide_eq_true_eq];unfold km;dsimp only;omega)
theorem zf9 (t g : Int) (n : Nat) :
    (t = 2 ∧ vP t g n = decide (n = 5)) ∨ (t = 3 ∧ vP t g n = decide (n = 4)) ∨ (t = 8 ∧ vP t g n = decide (n = 4)) ∨ (t = 6 ∧ vP t g n = decide (n = 8)) ∨ (t = 7 ∧ vP t g n = decide (8 ≤ n)) ∨
    (t = 4 ∧ zF 4 g 1 = true ∧ vP t g n = decide (n = 0)) ∨ (t = 4 ∧ zF 4 g 1 = false ∧ vP t g n = decide (n % 6 = 0)) ∨ (¬ t = 2 ∧ ¬ t = 3 ∧ ¬ t = 8 ∧ ¬ t = 6 ∧ ¬ t = 7 ∧ ¬ t = 4 ∧ vP t g n = true):=by
  by_cases h2 : t = 2
  · subst h2;exact .inl ⟨rfl,rfl⟩
  by_cases h3 : t = 3
  · subst h3;exact .inr (.inl ⟨rfl,rfl⟩)
  by_cases h8 : t = 8
  · subst h8;exact .inr (.inr (.inl ⟨rfl,rfl⟩))
  by_cases h6 : t = 6
  · subst h6;exact .inr (.inr (.inr (.inl ⟨rfl,rfl⟩)))
  by_cases h7 : t = 7
  · subst h7;exact .inr (.inr (.inr (.inr (.inl ⟨rfl,rfl⟩))))
  by_cases h4 : t = 4
  · subst h4
    rcases bTF (c:=zF 4 g 1) with hH|hH
    · exact .inr (.inr (.inr (.inr (.inr (.inl ⟨rfl,hH,(zdl g n).trans (if_pos hH)⟩)))))
    · exact .inr (.inr (.inr (.inr (.inr (.inr (.inl ⟨rfl,hH,(zdl g n).trans (if_neg (by rw [hH];simp))⟩))))))
  refine .inr (.inr (.inr (.inr (.inr (.inr (.inr ⟨h2,h3,h8,h6,h7,h4,?_⟩))))))
  unfold vP
  rw [if_neg h2,if_neg (by omega),if_neg h6,if_neg h7,if_neg h4]
theorem ztS (w t g s : Int) (r f : Bool) (b : List UInt8) (hg0 : 0 ≤ g) (hg1 : g < 256) (hb : b.length ≤ 1000000000) : AEq Tryz.prog 156 [.ag [i64 w,i64 t,i64 g,i64 s,bl r,.sl f false (b.map zf)]] [] (bl (vP t g b.length)) []:=by
 rcases zf9 t g b.length with ⟨rfl,e⟩|⟨rfl,e⟩|⟨rfl,e⟩|⟨rfl,e⟩|⟨rfl,e⟩|⟨rfl,hH,e⟩|⟨rfl,hH,e⟩|⟨n2,n3,n8,n6,n7,n4,e⟩
 all_goals rw [e]
 all_goals (have hV : (0 : Int) = 0:=rfl)
 all_goals (have hH2:=hV)
 all_goals (try (have hH2:=hH))
 all_goals (refine zc Tryz.func156 rfl Tryz.ntmps156 (by simp) (fun hsc=>?_);simp only [Lf.enter,Nat.reduceAdd];clear hsc)
 all_goals (have hU:=@hH2)
 all_goals (repeat' (first|(refine goR ?_)|(refine za (fun K hK=>?_))|((refine zb (fun hcd=>?_) (fun hcd=>?_))<;>(try simp only [hcP] at hcd)<;>(try exact cdT))|(refine zd (f:=107) rfl Tryz.call107 (h:=AEq.pure' agT (zrf _ _ _ aoT aoT aoT) (hq:=?_)))|((refine zh [] (by rw [Tryz.results156,Lf.zy]) (zj ?_) ?_)<;>(try (first|exact zi|exact stT)))|(refine hK _ _ ?_;clear hK K)))
 all_goals exact zt (by grind)
theorem zdm (t g : Int) : ∃ c8 c32, zF t g 8 = c8 ∧ zF t g 32 = c32 ∧
    ((t = 5 ∧ c8 = true ∧ c32 = false ∧ ahI t g = 5) ∨ (t = 5 ∧ c8 = false ∧ c32 = false ∧ ahI t g = 4) ∨ (¬ t = 5 ∧ c8 = true ∧ c32 = true ∧ ahI t g = 6) ∨ (¬ t = 5 ∧ c8 = false ∧ c32 = true ∧ ahI t g = 5) ∨ (¬ t = 5 ∧ c8 = true ∧ c32 = false ∧ ahI t g = 1) ∨ (¬ t = 5 ∧ c8 = false ∧ c32 = false ∧ ahI t g = 0)):=by
  refine ⟨_,_,rfl,rfl,?_⟩
  by_cases h5 : t = 5
  · subst h5
    have h32:=yB (t:=5) (g:=g) (by decide)
    rcases bTF (c:=zF 5 g 8) with h8|h8
    · exact .inl ⟨rfl,h8,h32,by unfold ahI kI;rw [f_t h8,f_f h32,if_pos rfl];rfl⟩
    · exact .inr (.inl ⟨rfl,h8,h32,by unfold ahI kI;rw [f_f h8,f_f h32,if_pos rfl];rfl⟩)
  · rcases bTF (c := zF t g 32) with h32 | h32
    · rcases bTF (c := zF t g 8) with h8 | h8
      · exact .inr (.inr (.inl ⟨h5,h8,h32,by unfold ahI kI;rw [f_t h8,f_t h32,if_neg h5];rfl⟩))
      · exact .inr (.inr (.inr (.inl ⟨h5,h8,h32,by unfold ahI kI;rw [f_f h8,f_t h32,if_neg h5];rfl⟩)))
    · rcases bTF (c := zF t g 8) with h8 | h8
      · exact .inr (.inr (.inr (.inr (.inl ⟨h5,h8,h32,by unfold ahI kI;rw [f_t h8,f_f h32,if_neg h5];rfl⟩))))
      · exact .inr (.inr (.inr (.inr (.inr ⟨h5,h8,h32,by unfold ahI kI;rw [f_f h8,f_f h32,if_neg h5];rfl⟩))))
theorem znA (w t g s : Int) (r f : Bool) (b : List UInt8) (hg0 : 0 ≤ g) (hg1 : g < 256) (hb : b.length ≤ 1000000000) : AEq Tryz.prog 157 [.ag [i64 w,i64 t,i64 g,i64 s,bl r,.sl f false (b.map zf)]] [] (i64 (ahI t g)) []:=by
 obtain ⟨c8,c32,h8,h32,hc⟩:=zdm t g
 rcases hc with ⟨h5,rfl,rfl,e⟩|⟨h5,rfl,rfl,e⟩|⟨h5,rfl,rfl,e⟩|⟨h5,rfl,rfl,e⟩|⟨h5,rfl,rfl,e⟩|⟨h5,rfl,rfl,e⟩
 all_goals rw [e]
 all_goals (refine zc Tryz.func157 rfl Tryz.ntmps157 (by simp) (fun hsc=>?_);simp only [Lf.enter,Nat.reduceAdd];clear hsc)
 all_goals (have hU:=And.intro @h8 (@h32))
 all_goals (repeat' (first|(refine goR ?_)|(refine za (fun K hK=>?_))|((refine zb (fun hcd=>?_) (fun hcd=>?_))<;>(try simp only [hcP] at hcd)<;>(try exact cdT))|(refine zd (f:=107) rfl Tryz.call107 (h:=AEq.pure' agT (zh1 _ _ _ aoT aoT aoT) (hq:=?_)))|(refine zd (f:=107) rfl Tryz.call107 (h:=AEq.pure' agT (zh2 _ _ _ aoT aoT aoT) (hq:=?_)))|((refine zh [] (by rw [Tryz.results157,Lf.zy]) (zj ?_) ?_)<;>(try (first|exact zi|exact stT)))|(refine hK _ _ ?_;clear hK K)))
theorem zky {t g : Int} : 0 ≤ kI t g ∧ kI t g ≤ ahI t g ∧ ahI t g ≤ 10:=by
 unfold ahI kI
 repeat' split
 all_goals omega
theorem znB {t g : Int} {n : Nat} (h : vP t g n = false) : scI t = if t = 2 then 1 else 2:=by
 unfold scI
 by_cases h2 : t = 2
 ·rw [if_pos (.inr h2),if_pos h2]
 ·by_cases h0 : t = 0
  ·subst h0;rw [show vP 0 g n = true from rfl] at h;exact absurd h (by simp)
  ·rw [if_neg (by omega),if_neg h2]
theorem zro {t g : Int} (h : 0 < ahI t g) : scI t = if t = 0 then 1 else 2:=by
 unfold scI
 by_cases h0 : t = 0
 ·rw [if_pos (.inl h0),if_pos h0]
 ·by_cases h2 : t = 2
  ·subst h2
   exfalso
   unfold ahI kI at h
   rw [f_f (kH (by decide) (by decide) (by decide)),f_f (yB (by decide)),if_neg (by decide)] at h
   omega
  ·rw [if_neg (by omega),if_neg h0]
theorem kP {b : List UInt8} {x : UInt8} (h : b[0]? = some x) : zM b 1 = x.toNat:=by
 have:=zcz b 0 x h
 rwa [List.drop_zero] at this
def yX (t g s : Int) (b : List UInt8) : Int × Int:=
 if vg t s = false then (2,1) else if vP t g b.length = false then (if t = 2 then 1 else 2,6) else if (b.length : Int) < ahI t g then (if t = 0 then 1 else 2,6)
 else if zF t g 8 = true ∧ (b.length : Int) - ahI t g < zM b 1 then (2,1) else (0,0)
theorem zga (t g s : Int) (b : List UInt8) : ∃ st, zbH t = st ∧
    (((st = 0 ∧ ¬ s = 0 ∨ st = 1 ∧ s = 0) ∧ vP t g b.length = vP t g b.length ∧ zF t g 8 = zF t g 8 ∧ yX t g s b = (2,1)) ∨
    (((st = 0 ∧ s = 0) ∨ (st = 1 ∧ ¬ s = 0) ∨ (¬ st = 0 ∧ ¬ st = 1)) ∧ ((vP t g b.length = false ∧ zF t g 8 = zF t g 8 ∧ ((t = 2 ∧ yX t g s b = (1, 6)) ∨ (¬ t = 2 ∧ yX t g s b = (2, 6)))) ∨
      (vP t g b.length = true ∧ (((b.length : Int) < ahI t g ∧ zF t g 8 = zF t g 8 ∧ ((t = 0 ∧ yX t g s b = (1, 6)) ∨ (¬ t = 0 ∧ yX t g s b = (2, 6)))) ∨
        (¬ (b.length : Int) < ahI t g ∧ ((zF t g 8 = true ∧ 1 ≤ ahI t g ∧ ∃ x, b[0]? = some x ∧ ((((b.length : Int) - ahI t g < x.toNat) ∧ yX t g s b = (2, 1)) ∨ (¬ ((b.length : Int) - ahI t g < x.toNat) ∧ yX t g s b = (0, 0)))) ∨
          (zF t g 8 = false ∧ yX t g s b = (0,0))))))))):=by
  refine ⟨_,rfl,?_⟩
  rcases bTF (c:=vg t s) with h1|h1
  · right
    have n1 : ¬ vg t s = false:=by rw [h1];simp
    refine ⟨?_,?_⟩
    · unfold vg at h1
      split at h1
      · exact .inl ⟨by assumption,of_decide_eq_true h1⟩
      · split at h1
        · exact .inr (.inl ⟨by assumption,by simpa using h1⟩)
        · exact .inr (.inr ⟨by assumption,by assumption⟩)
    rcases bTF (c:=vP t g b.length) with h2|h2
    · right
      have n2 : ¬ vP t g b.length = false:=by rw [h2];simp
      refine ⟨h2,?_⟩
      by_cases hS : (b.length : Int) < ahI t g
      · left
        refine ⟨hS,rfl,?_⟩
        by_cases h0 : t = 0
        · exact .inl ⟨h0,by unfold yX;rw [if_neg n1,if_neg n2,if_pos hS,if_pos h0]⟩
        · exact .inr ⟨h0,by unfold yX;rw [if_neg n1,if_neg n2,if_pos hS,if_neg h0]⟩
      · right
        refine ⟨hS,?_⟩
        rcases bTF (c:=zF t g 8) with h8|h8
        · left
          have hk2:=zky (t:=t) (g:=g)
          have hk : kI t g = 1:=f_t h8
          have h1a : 1 ≤ ahI t g:=by omega
          obtain ⟨x,hx⟩ : ∃ x,b[0]? = some x:=⟨b[0]'(by omega),List.getElem?_eq_getElem (by omega)⟩
          have hgx:=kP hx
          refine ⟨h8,h1a,x,hx,?_⟩
          by_cases hP : (b.length : Int) - ahI t g < x.toNat
          · exact .inl ⟨hP,by unfold yX;rw [if_neg n1,if_neg n2,if_neg hS,if_pos ⟨h8,by rw [hgx];exact hP⟩]⟩
          · exact .inr ⟨hP,by unfold yX;rw [if_neg n1,if_neg n2,if_neg hS,if_neg (by rw [hgx];exact fun h=>hP h.2)]⟩
        · right
          exact ⟨h8,by unfold yX;rw [if_neg n1,if_neg n2,if_neg hS,if_neg (by rw [h8];simp)]⟩
    · left
      refine ⟨h2,rfl,?_⟩
      by_cases h0 : t = 2
      · exact .inl ⟨h0,by unfold yX;rw [if_neg n1,if_pos h2,if_pos h0]⟩
      · exact .inr ⟨h0,by unfold yX;rw [if_neg n1,if_pos h2,if_neg h0]⟩
  · left
    refine ⟨?_,rfl,rfl,if_pos h1⟩
    unfold vg at h1
    split at h1
    · exact .inl ⟨by assumption,of_decide_eq_false h1⟩
    · split at h1
      · exact .inr ⟨by assumption,by simpa using h1⟩
      · exact absurd h1 (by simp)
theorem zh8 (w t g s : Int) (r f : Bool) (b : List UInt8) (hg0 : 0 ≤ g) (hg1 : g < 256) (hb : b.length ≤ 1000000000) : AEq Tryz.prog 106 [.ag [i64 w,i64 t,i64 g,i64 s,bl r,.sl f false (b.map zf)]] [] (.ag [i64 (yX t g s b).1,i64 (yX t g s b).2]) []:=by
 have hk:=zky (t:=t) (g:=g)
 obtain ⟨st,q1,hc⟩:=zga t g s b
 rcases hc with ⟨q2,h2,h8,e⟩|⟨q2,⟨h2,h8,⟨h0,e⟩|⟨h0,e⟩⟩|⟨h2,⟨hS,h8,⟨h0,e⟩|⟨h0,e⟩⟩|⟨hS,⟨h8,h1a,x,hx,⟨hP,e⟩|⟨hP,e⟩⟩|⟨h8,e⟩⟩⟩⟩
 all_goals rw [e]
 all_goals (refine zc Tryz.func106 rfl Tryz.ntmps106 (by simp) (fun hsc=>?_);simp only [Lf.enter,Nat.reduceAdd];clear hsc)
 all_goals (have hU:=And.intro @q1 ( And.intro @h2 (@h8)))
 all_goals (repeat' (first|(refine goR ?_)|(refine za (fun K hK=>?_))|(guard_target =~ PWp _ _ _ _ _ _ _;refine zQ mixed (by kernel_rfl) ?_)|((refine zb (fun hcd=>?_) (fun hcd=>?_))<;>(try simp only [hcP] at hcd)<;>(try exact cdT))|(guard_target =~ rg _ _ _ (⟨_,_,_,_,_,some _⟩ :: _) _ _ _;(first|refine zH gT (fun hcd=>?_) (fun hcd=>?_)|refine zw gT (fun hcd=>?_) (fun hcd=>?_))<;>(try simp only [hcd])<;>(try (simp only [Bool.not_eq_true',Bool.not_eq_false'] at hcd;try simp only [hcd]))<;>(refine ku (Γ2:=_) ewT ?_)<;>(try simp only [hcP] at hcd)<;>(try exact cdT))|(refine zd (f:=157) rfl Tryz.call157 (h:=AEq.pure' agT (znA _ _ _ _ _ _ _ aoT aoT aoT) (hq:=?_)))|(refine zd (f:=155) rfl Tryz.call155 (h:=AEq.pure' agT (ztR _) (hq:=?_)))|(refine zd (f:=156) rfl Tryz.call156 (h:=AEq.pure' agT (ztS _ _ _ _ _ _ _ aoT aoT aoT) (hq:=?_)))|((refine yv [] exT (by rfl) (by rw [Tryz.results106,Lf.jh];(try simp (disch:=omega) only [Lf.zG,go_sem,seval,↓reduceIte,hU]);rfl) sT sT (zj ?_) ?_)<;>(try (first|exact zi|exact stT)))|(guard_target =~ dg _ _ _ _ _ _ _;first|(guard_target =~ dg _ _ _ (⟨_,.indexAddr _ _ _,_,_,_,some _⟩ :: _) _ _ _;(refine ko (x:=_) (h:=zsC (h:=vh rfl (hK:=ze ⟨rfl,rfl⟩))) (hk:=?_)))|(guard_target =~ dg _ _ _ (⟨_,.call ⟨.value (.func 107),_,_⟩,_,_,_,none⟩ :: _) _ _ _;(refine ko (x:=_) (h:=yj (h:=zd (f:=107) rfl Tryz.call107 (h:=AEq.pure' agT (zh1 _ _ _ aoT aoT aoT) (hq:=ze ⟨rfl,rfl⟩)))) (hk:=?_))))|(refine hK _ _ ?_;clear hK K)))
 all_goals exact yc rfl
theorem ztT (f q : Bool) (b : List UInt8) (a : Int) (h0 : 0 ≤ a) (h1 : a ≤ b.length) (hb : b.length ≤ 1000000000) : AEq Tryz.prog 108 [.sl f q (b.map zf),i64 a] [] (.tu [i64 (yO (u4 b a)),bl (hiN (u4 b a))]) []:=by
 have hg:=vm (b.drop a.toNat) 4
 have hg1:=hg.1
 have hg2:=hg.2
 refine zc Tryz.func108 rfl Tryz.ntmps108 (by simp) (fun hsc=>?_);simp only [Lf.enter,Nat.reduceAdd];clear hsc
 have hU:=True.intro
 repeat' (first|(refine goR ?_)|(refine za (fun K hK=>?_))|(guard_target =~ SOp _ _ ⟨_,.slice _ _ _ _ _,_,_,_,none⟩ _ _ _;refine jf rfl (hg:=(fun _=>gT)) (hK:=?_))|(refine zd (f:=160) rfl Tryz.call160 (h:=AEq.pure' agT (znv _ (by first|assumption|(simp only [List.length_map,List.length_append,List.length_take,List.length_drop,List.length_cons,List.length_nil];omega)) (by first|assumption|(simp only [List.length_map,List.length_append,List.length_take,List.length_drop,List.length_cons,List.length_nil];omega))) (hq:=?_)))|(refine zd (f:=159) rfl Tryz.call159 (h:=AEq.pure' agT (zem _ _ _ _ (by first|assumption|(simp only [List.length_map,List.length_append,List.length_take,List.length_drop,List.length_cons,List.length_nil];omega))) (hq:=?_)))|((refine zh [] (by rw [Tryz.results108,Lf.yE]) (zA ?_ ?_) ?_)<;>(try (first|exact zi|exact stT)))|(refine hK _ _ ?_;clear hK K))
theorem zrp (f q : Bool) (b : List UInt8) (a : Int) (h0 : 0 ≤ a) (h1 : a ≤ b.length) (hb : b.length ≤ 1000000000) : AEq Tryz.prog 109 [.sl f q (b.map zf),i64 a] [] (i64 (u4 b a)) []:=by
 refine zc Tryz.func109 rfl Tryz.ntmps109 (by simp) (fun hsc=>?_);simp only [Lf.enter,Nat.reduceAdd];clear hsc
 have hU:=True.intro
 repeat' (first|(refine goR ?_)|(refine za (fun K hK=>?_))|(guard_target =~ SOp _ _ ⟨_,.slice _ _ _ _ _,_,_,_,none⟩ _ _ _;refine jf rfl (hg:=(fun _=>gT)) (hK:=?_))|(refine zd (f:=159) rfl Tryz.call159 (h:=AEq.pure' agT (zem _ _ _ _ (by simp only [List.length_map,List.length_append,List.length_take,List.length_drop,List.length_cons,List.length_nil];omega)) (hq:=?_)))|((refine zh [] (by rw [Tryz.results109,Lf.zy]) (zj ?_) ?_)<;>(try (first|exact zi|exact stT)))|(refine hK _ _ ?_;clear hK K))
def rfD (t g : Int) (b : List UInt8) (k : Nat) : List UInt8:=if zF t g 8 = true then (b.take ((b.length : Int) - zM b 1).toNat).drop k else b.drop k
def kN (t g : Int) : Nat:=if zF t g 8 = true then 1 else 0
def rfM (t g s : Int) (b : List UInt8) : Fm:=
 if t = 3 then ⟨3,g,s,-1,true,[],true,[],0,0,false,0,0,u4 b 0,0⟩
 else if t = 4 then ⟨4,g,s,-1,true,[],false,zep b,0,0,false,0,0,0,0⟩
 else if t = 8 then ⟨8,g,s,-1,true,[],true,[],0,0,false,0,0,0,yO (u4 b 0)⟩
 else if t = 7 then ⟨7,g,s,-1,false,b.drop 8,true,[],0,0,false,0,yO (u4 b 0),u4 b 4,0⟩
 else if t = 5 then ⟨5,g,s,v3 5 g b,false,rfD 5 g b (kN 5 g + 4),true,[],0,0,false,yO (u4 b (kN 5 g)),0,0,0⟩
 else if t = 2 ∨ zF t g 32 = true then ⟨t,g,s,v3 t g b,false,rfD t g b (kN t g + 5),true,[],u1 b ((kN t g : Int) + 4),yO (u4 b (kN t g)),hiN (u4 b (kN t g)),0,0,0,0⟩
 else ⟨t,g,s,v3 t g b,false,rfD t g b (kN t g),true,[],0,0,false,0,0,0,0⟩
theorem zh9 {t g s : Int} {b : List UInt8} (h : yX t g s b = (0,0)) : vP t g b.length = true ∧ ¬ (b.length : Int) < ahI t g ∧ (zF t g 8 = true → zM b 1 ≤ (b.length : Int) - ahI t g):=by
 unfold yX at h
 split at h
 ·exact absurd h (by decide)
 ·split at h
  ·split at h<;>exact absurd h (by decide)
  ·rename_i h2
   split at h
   ·split at h<;>exact absurd h (by decide)
   ·rename_i h3
    split at h
    ·exact absurd h (by decide)
    ·rename_i h4
     refine ⟨by cases e : vP t g b.length;exact absurd e h2;rfl,h3,fun h8=>?_⟩
     apply Decidable.byContradiction
     intro hn
     exact h4 ⟨h8,by omega⟩
theorem znC {b : List UInt8} {k : Nat} {y : UInt8} (h : b[k]? = some y) : ((y.toNat : Nat) : Int) = u1 b k:=by
 unfold u1
 rw [show ((k : Nat) : Int).toNat = k from Int.toNat_natCast k,zcz b k y h]
theorem zoN {b : List UInt8} {k : Nat} (h : k < b.length) : ∃ y,b[k]? = some y:=⟨b[k],List.getElem?_eq_getElem h⟩
theorem zdn {t g s : Int} {b : List UInt8} (h : yX t g s b = (0, 0)) :
    (t = 3 ∧ zF t g 8 = false ∧ zF t g 32 = false ∧ (0 : Int) = 0 ∧ (0 : Int) = 0 ∧ (0 : Int) = 0 ∧ b.length = 4 ∧ rfM t g s b = ⟨3,g,s,-1,true,[],true,[],0,0,false,0,0,u4 b 0,0⟩) ∨
    (t = 4 ∧ zF t g 8 = false ∧ zF t g 32 = false ∧ (0 : Int) = 0 ∧ (0 : Int) = 0 ∧ (0 : Int) = 0 ∧ True ∧ rfM t g s b = ⟨4,g,s,-1,true,[],false,zep b,0,0,false,0,0,0,0⟩) ∨
    (t = 8 ∧ zF t g 8 = false ∧ zF t g 32 = false ∧ (0 : Int) = 0 ∧ (0 : Int) = 0 ∧ (0 : Int) = 0 ∧ b.length = 4 ∧ rfM t g s b = ⟨8,g,s,-1,true,[],true,[],0,0,false,0,0,0,yO (u4 b 0)⟩) ∨
    (∃ (_ : t = 7),zF t g 8 = false ∧ zF t g 32 = false ∧ (0 : Int) = 0 ∧ (0 : Int) = 0 ∧ (0 : Int) = 0 ∧ 8 ≤ b.length ∧ rfM t g s b = ⟨7,g,s,-1,false,b.drop 8,true,[],0,0,false,0,yO (u4 b 0),u4 b 4,0⟩) ∨
    (∃ x : UInt8,∃ (_ : t = 5),zF t g 8 = true ∧ zF t g 32 = false ∧ ((x.toNat : Nat) : Int) = zM b 1 ∧ (0 : Int) = 0 ∧ (0 : Int) = 0 ∧ b[0]? = some x ∧ (zM b 1 ≤ (b.length : Int) - 5 ∧ 0 ≤ zM b 1) ∧ 5 ≤ b.length ∧ rfM t g s b = ⟨5,g,s,zM b 1,false,(b.take ((b.length : Int) - zM b 1).toNat).drop 5,true,[],0,0,false,yO (u4 b 1),0,0,0⟩) ∨
    (∃ (_ : t = 5),zF t g 8 = false ∧ zF t g 32 = false ∧ (0 : Int) = 0 ∧ (0 : Int) = 0 ∧ (0 : Int) = 0 ∧ 4 ≤ b.length ∧ rfM t g s b = ⟨5,g,s,-1,false,b.drop 4,true,[],0,0,false,yO (u4 b 0),0,0,0⟩) ∨
    (∃ y : UInt8,∃ (_ : t = 2),zF t g 8 = false ∧ zF t g 32 = false ∧ (0 : Int) = 0 ∧ ((y.toNat : Nat) : Int) = u1 b 4 ∧ (0 : Int) = 0 ∧ b[4]? = some y ∧ (0 ≤ u1 b 4 ∧ u1 b 4 < 4294967296) ∧ 5 ≤ b.length ∧ rfM t g s b = ⟨2,g,s,-1,false,b.drop 5,true,[],u1 b 4,yO (u4 b 0),hiN (u4 b 0),0,0,0,0⟩) ∨
    (∃ x : UInt8,∃ y : UInt8,∃ (_ : ¬ t = 2 ∧ ¬ t = 3 ∧ ¬ t = 4 ∧ ¬ t = 5 ∧ ¬ t = 7 ∧ ¬ t = 8),zF t g 8 = true ∧ zF t g 32 = true ∧ ((x.toNat : Nat) : Int) = zM b 1 ∧ ((y.toNat : Nat) : Int) = u1 b 5 ∧ (0 : Int) = 0 ∧ b[0]? = some x ∧ (zM b 1 ≤ (b.length : Int) - 6 ∧ 0 ≤ zM b 1) ∧ b[5]? = some y ∧ (0 ≤ u1 b 5 ∧ u1 b 5 < 4294967296) ∧ 6 ≤ b.length ∧ rfM t g s b = ⟨t,g,s,zM b 1,false,(b.take ((b.length : Int) - zM b 1).toNat).drop 6,true,[],u1 b 5,yO (u4 b 1),hiN (u4 b 1),0,0,0,0⟩) ∨
    (∃ y : UInt8,∃ (_ : ¬ t = 2 ∧ ¬ t = 3 ∧ ¬ t = 4 ∧ ¬ t = 5 ∧ ¬ t = 7 ∧ ¬ t = 8),zF t g 8 = false ∧ zF t g 32 = true ∧ (0 : Int) = 0 ∧ ((y.toNat : Nat) : Int) = u1 b 4 ∧ (0 : Int) = 0 ∧ b[4]? = some y ∧ (0 ≤ u1 b 4 ∧ u1 b 4 < 4294967296) ∧ 5 ≤ b.length ∧ rfM t g s b = ⟨t,g,s,-1,false,b.drop 5,true,[],u1 b 4,yO (u4 b 0),hiN (u4 b 0),0,0,0,0⟩) ∨
    (∃ x : UInt8,∃ (_ : ¬ t = 2 ∧ ¬ t = 3 ∧ ¬ t = 4 ∧ ¬ t = 5 ∧ ¬ t = 7 ∧ ¬ t = 8),zF t g 8 = true ∧ zF t g 32 = false ∧ ((x.toNat : Nat) : Int) = zM b 1 ∧ (0 : Int) = 0 ∧ (0 : Int) = 0 ∧ b[0]? = some x ∧ (zM b 1 ≤ (b.length : Int) - 1 ∧ 0 ≤ zM b 1) ∧ 1 ≤ b.length ∧ rfM t g s b = ⟨t,g,s,zM b 1,false,(b.take ((b.length : Int) - zM b 1).toNat).drop 1,true,[],0,0,false,0,0,0,0⟩) ∨
    (∃ (_ : ¬ t = 2 ∧ ¬ t = 3 ∧ ¬ t = 4 ∧ ¬ t = 5 ∧ ¬ t = 7 ∧ ¬ t = 8),zF t g 8 = false ∧ zF t g 32 = false ∧ (0 : Int) = 0 ∧ (0 : Int) = 0 ∧ (0 : Int) = 0 ∧ 0 ≤ b.length ∧ rfM t g s b = ⟨t,g,s,-1,false,b,true,[],0,0,false,0,0,0,0⟩):=by
  obtain ⟨hL,hA,hP⟩:=zh9 h
  have hgb:=vm b 1
  by_cases c3 : t = 3
  · subst c3
    have h8:=kH (t:=3) (g:=g) (by decide) (by decide) (by decide)
    have h32:=yB (t:=3) (g:=g) (by decide)
    exact .inl ⟨rfl,h8,h32,rfl,rfl,rfl,of_decide_eq_true (show decide (b.length = 4) = true from hL),rfl⟩
  by_cases c4 : t = 4
  · subst c4
    have h8:=kH (t:=4) (g:=g) (by decide) (by decide) (by decide)
    have h32:=yB (t:=4) (g:=g) (by decide)
    exact .inr (.inl ⟨rfl,h8,h32,rfl,rfl,rfl,trivial,rfl⟩)
  by_cases c8 : t = 8
  · subst c8
    have h8:=kH (t:=8) (g:=g) (by decide) (by decide) (by decide)
    have h32:=yB (t:=8) (g:=g) (by decide)
    exact .inr (.inr (.inl ⟨rfl,h8,h32,rfl,rfl,rfl,of_decide_eq_true (show decide (b.length = 4) = true from hL),rfl⟩))
  by_cases c7 : t = 7
  · subst c7
    have h8:=kH (t:=7) (g:=g) (by decide) (by decide) (by decide)
    have h32:=yB (t:=7) (g:=g) (by decide)
    have hl:=of_decide_eq_true (show decide (8 ≤ b.length) = true from hL)
    have e : rfM 7 g s b = ⟨7,g,s,-1,false,b.drop 8,true,[],0,0,false,0,yO (u4 b 0),u4 b 4,0⟩:=rfl
    exact .inr (.inr (.inr (.inl ⟨rfl,h8,h32,rfl,rfl,rfl,by omega,e⟩)))
  by_cases c5 : t = 5
  · subst c5
    have h32:=yB (t:=5) (g:=g) (by decide)
    rcases bTF (c:=zF 5 g 8) with h8|h8
    · have hk : kN 5 g = 1 := f_t h8
      have ha : ahI 5 g = 5:=by unfold ahI kI;rw [f_t h8,f_f h32,if_pos rfl];rfl
      have hp : v3 5 g b = zM b 1:=f_t h8
      have hd : rfD 5 g b (kN 5 g + 4) = (b.take ((b.length : Int) - zM b 1).toNat).drop 5:=by rw [hk];exact f_t h8
      have hp2:=hP h8
      have e : rfM 5 g s b = ⟨5,g,s,zM b 1,false,(b.take ((b.length : Int) - zM b 1).toNat).drop 5,true,[],0,0,false,yO (u4 b 1),0,0,0⟩:=by unfold rfM;rw [if_neg (by decide),if_neg (by decide),if_neg (by decide),if_neg (by decide),if_pos rfl,hp,hd,hk];rfl
      obtain ⟨x,hx⟩:=zoN (b:=b) (k:=0) (by omega)
      have hgx : ((x.toNat : Nat) : Int) = zM b 1:=(kP hx).symm
      exact .inr (.inr (.inr (.inr (.inl ⟨x,rfl,h8,h32,hgx,rfl,rfl,hx,⟨by omega,by omega⟩,by omega,e⟩))))
    · have hk : kN 5 g = 0 := f_f h8
      have ha : ahI 5 g = 4:=by unfold ahI kI;rw [f_f h8,f_f h32,if_pos rfl];rfl
      have hp : v3 5 g b = -1:=f_f h8
      have hd : rfD 5 g b (kN 5 g + 4) = b.drop 4:=by rw [hk];exact f_f h8
      have e : rfM 5 g s b = ⟨5,g,s,-1,false,b.drop 4,true,[],0,0,false,yO (u4 b 0),0,0,0⟩:=by unfold rfM;rw [if_neg (by decide),if_neg (by decide),if_neg (by decide),if_neg (by decide),if_pos rfl,hp,hd,hk];rfl
      exact .inr (.inr (.inr (.inr (.inr (.inl ⟨rfl,h8,h32,rfl,rfl,rfl,by omega,e⟩)))))
  by_cases c2 : t = 2
  · subst c2
    have h8:=kH (t:=2) (g:=g) (by decide) (by decide) (by decide)
    have h32:=yB (t:=2) (g:=g) (by decide)
    have hl:=of_decide_eq_true (show decide (b.length = 5) = true from hL)
    have hk : kN 2 g = 0:=f_f h8
    have hp : v3 2 g b = -1:=f_f h8
    have hd : rfD 2 g b (kN 2 g + 5) = b.drop 5:=by rw [hk];exact f_f h8
    have e : rfM 2 g s b = ⟨2,g,s,-1,false,b.drop 5,true,[],u1 b 4,yO (u4 b 0),hiN (u4 b 0),0,0,0,0⟩:=by unfold rfM;rw [if_neg (by decide),if_neg (by decide),if_neg (by decide),if_neg (by decide),if_neg (by decide),if_pos (.inl rfl),hp,hd,hk];rfl
    obtain ⟨y,hy⟩:=zoN (b:=b) (k:=4) (by omega)
    have hgy:=znC hy
    exact .inr (.inr (.inr (.inr (.inr (.inr (.inl ⟨y,rfl,h8,h32,rfl,hgy,rfl,hy,vm _ 1,by omega,e⟩))))))
  have c3':=c3
  have c8t:=c8
  rcases bTF (c:=zF t g 32) with h32|h32
  · rcases bTF (c := zF t g 8) with h8 | h8
    · have hk : kN t g = 1 := f_t h8
      have ha : ahI t g = 6:=by unfold ahI kI;rw [f_t h8,f_t h32,if_neg c5];rfl
      have hp : v3 t g b = zM b 1:=f_t h8
      have hd : rfD t g b (kN t g + 5) = (b.take ((b.length : Int) - zM b 1).toNat).drop 6:=by rw [hk];exact f_t h8
      have hp2:=hP h8
      have e : rfM t g s b = ⟨t,g,s,zM b 1,false,(b.take ((b.length : Int) - zM b 1).toNat).drop 6,true,[],u1 b 5,yO (u4 b 1),hiN (u4 b 1),0,0,0,0⟩:=by unfold rfM;rw [if_neg c3,if_neg c4,if_neg c8t,if_neg c7,if_neg c5,if_pos (.inr h32),hp,hd,hk];rfl
      obtain ⟨x,hx⟩:=zoN (b:=b) (k:=0) (by omega)
      have hgx : ((x.toNat : Nat) : Int) = zM b 1:=(kP hx).symm
      obtain ⟨y,hy⟩:=zoN (b:=b) (k:=5) (by omega)
      have hgy:=znC hy
      exact .inr (.inr (.inr (.inr (.inr (.inr (.inr (.inl ⟨x,y,⟨c2,c3,c4,c5,c7,c8t⟩,h8,h32,hgx,hgy,rfl,hx,⟨by omega,by omega⟩,hy,vm _ 1,by omega,e⟩)))))))
    · have hk : kN t g = 0 := f_f h8
      have ha : ahI t g = 5:=by unfold ahI kI;rw [f_f h8,f_t h32,if_neg c5];rfl
      have hp : v3 t g b = -1:=f_f h8
      have hd : rfD t g b (kN t g + 5) = b.drop 5:=by rw [hk];exact f_f h8
      have e : rfM t g s b = ⟨t,g,s,-1,false,b.drop 5,true,[],u1 b 4,yO (u4 b 0),hiN (u4 b 0),0,0,0,0⟩:=by unfold rfM;rw [if_neg c3,if_neg c4,if_neg c8t,if_neg c7,if_neg c5,if_pos (.inr h32),hp,hd,hk];rfl
      obtain ⟨y,hy⟩:=zoN (b:=b) (k:=4) (by omega)
      have hgy:=znC hy
      exact .inr (.inr (.inr (.inr (.inr (.inr (.inr (.inr (.inl ⟨y,⟨c2,c3,c4,c5,c7,c8t⟩,h8,h32,rfl,hgy,rfl,hy,vm _ 1,by omega,e⟩))))))))
  · rcases bTF (c := zF t g 8) with h8 | h8
    · have hk : kN t g = 1 := f_t h8
      have ha : ahI t g = 1:=by unfold ahI kI;rw [f_t h8,f_f h32,if_neg c5];rfl
      have hp : v3 t g b = zM b 1:=f_t h8
      have hd : rfD t g b (kN t g) = (b.take ((b.length : Int) - zM b 1).toNat).drop 1:=by rw [hk];exact f_t h8
      have hp2:=hP h8
      have e : rfM t g s b = ⟨t,g,s,zM b 1,false,(b.take ((b.length : Int) - zM b 1).toNat).drop 1,true,[],0,0,false,0,0,0,0⟩:=by unfold rfM;rw [if_neg c3,if_neg c4,if_neg c8t,if_neg c7,if_neg c5,if_neg (by rw [h32];simpa using c2),hp,hd]
      obtain ⟨x,hx⟩:=zoN (b:=b) (k:=0) (by omega)
      have hgx : ((x.toNat : Nat) : Int) = zM b 1:=(kP hx).symm
      exact .inr (.inr (.inr (.inr (.inr (.inr (.inr (.inr (.inr (.inl ⟨x,⟨c2,c3,c4,c5,c7,c8t⟩,h8,h32,hgx,rfl,rfl,hx,⟨by omega,by omega⟩,by omega,e⟩)))))))))
    · have hk : kN t g = 0 := f_f h8
      have ha : ahI t g = 0:=by unfold ahI kI;rw [f_f h8,f_f h32,if_neg c5];rfl
      have hp : v3 t g b = -1:=f_f h8
      have hd : rfD t g b (kN t g) = b:=by rw [hk];exact (f_f h8).trans (List.drop_zero)
      have e : rfM t g s b = ⟨t,g,s,-1,false,b,true,[],0,0,false,0,0,0,0⟩:=by unfold rfM;rw [if_neg c3,if_neg c4,if_neg c8t,if_neg c7,if_neg c5,if_neg (by rw [h32];simpa using c2),hp,hd]
      exact .inr (.inr (.inr (.inr (.inr (.inr (.inr (.inr (.inr (.inr (⟨⟨c2,c3,c4,c5,c7,c8t⟩,h8,h32,rfl,rfl,rfl,by omega,e⟩))))))))))
set_option maxRecDepth 20000 in
set_option maxHeartbeats 40000000 in
theorem zia (w t g s : Int) (r f : Bool) (b : List UInt8) (hg0 : 0 ≤ g) (hg1 : g < 256) (hb : b.length ≤ 1000000000) (hW : ¬ (yX t g s b).1 = 0) : AEq Tryz.prog 63 [.ag [i64 w,i64 t,i64 g,i64 s,bl r,.sl f false (b.map zf)]] [] (.tu [.ag (fmA fm0),.ag [i64 (yX t g s b).1,i64 (yX t g s b).2]]) []:=by
 refine zc Tryz.func63 rfl Tryz.ntmps63 (by simp) (fun hsc=>?_);simp only [Lf.enter,Nat.reduceAdd];clear hsc
 have hU:=True.intro
 repeat' (first|(refine goR ?_)|(guard_target =~ PWp _ _ _ _ _ _ _;refine zp (id:=3) [0,2,1,3] [2,3] mixed (by kernel_rfl) (by kernel_rfl) ?_)|(refine za (fun K hK=>?_))|((refine zb (fun hcd=>?_) (fun hcd=>?_))<;>(try simp only [hcP] at hcd)<;>(try exact cdT))|(refine zd (f:=106) rfl Tryz.call106 (h:=AEq.pure' agT (zh8 _ _ _ _ _ _ _ (by assumption) (by assumption) (by assumption)) (hq:=?_)))|((refine yv [] exT (by rfl) (by rw [Tryz.results63];exact Lf.kp roT roT) sT sT (zA ?_ ?_) ?_)<;>(try (first|exact zi|exact stT)))|(guard_target =~ dw _ _ _ _ _ _ _ _ _ _;first|(guard_target =~ dw _ _ _ _ _ (0 :: _) _ _ _ _;(refine z9 rfl rfl (h:=(fun τ=>yj (h:=zX rfl (by first|exact zcL|exact zdb|exact zdB|exact zdc|fail) (hK:=ze ⟨rfl,rfl⟩)))) (hk:=?_)))|((first|guard_target =~ dw _ _ _ _ _ (2 :: _) _ _ _ _|guard_target =~ dw _ _ _ _ _ (3 :: _) _ _ _ _|guard_target =~ dw _ _ _ _ _ (8 :: _) _ _ _ _);(refine zbn rfl rfl (h:=ziN (h:=z6 rfl (hK:=ze ⟨rfl,rfl⟩))) (hk:=?_))))|(refine hK _ _ ?_;clear hK K))
 all_goals exact yc rfl
set_option maxRecDepth 20000 in
set_option maxHeartbeats 40000000 in
theorem zrq (w t g s : Int) (r f : Bool) (b : List UInt8) (hg0 : 0 ≤ g) (hg1 : g < 256) (hb : b.length ≤ 1000000000) (hW : yX t g s b = (0,0)) : AEq Tryz.prog 63 [.ag [i64 w,i64 t,i64 g,i64 s,bl r,.sl f false (b.map zf)]] [] (.tu [.ag (fmA (rfM t g s b)),.ag [i64 0,i64 0]]) []:=by
 have hgb:=vm b 1
 rcases zdn hW with ⟨rfl,hx8,hx32,hgx,hgy,hne,hln,e⟩|⟨rfl,hx8,hx32,hgx,hgy,hne,hln,e⟩|⟨rfl,hx8,hx32,hgx,hgy,hne,hln,e⟩|⟨rfl,hx8,hx32,hgx,hgy,hne,hln,e⟩|⟨x,rfl,hx8,hx32,hgx,hgy,hne,hx,⟨hpb,hpb0⟩,hln,e⟩|⟨rfl,hx8,hx32,hgx,hgy,hne,hln,e⟩|⟨y,rfl,hx8,hx32,hgx,hgy,hne,hy,⟨hu0,hu1⟩,hln,e⟩|⟨x,y,⟨m2,m3,m4,m5,m7,m8⟩,hx8,hx32,hgx,hgy,hne,hx,⟨hpb,hpb0⟩,hy,⟨hu0,hu1⟩,hln,e⟩|⟨y,⟨m2,m3,m4,m5,m7,m8⟩,hx8,hx32,hgx,hgy,hne,hy,⟨hu0,hu1⟩,hln,e⟩|⟨x,⟨m2,m3,m4,m5,m7,m8⟩,hx8,hx32,hgx,hgy,hne,hx,⟨hpb,hpb0⟩,hln,e⟩|⟨⟨m2,m3,m4,m5,m7,m8⟩,hx8,hx32,hgx,hgy,hne,hln,e⟩
 all_goals rw [e]
 all_goals (refine zc Tryz.func63 rfl Tryz.ntmps63 (by simp) (fun hsc=>?_);simp only [Lf.enter,Nat.reduceAdd];clear hsc)
 all_goals (have hU:=And.intro @hW ( And.intro @hx8 ( And.intro @hx32 ( And.intro @hgx (@hgy)))))
 all_goals (repeat' (first|(refine goR ?_)|(guard_target =~ PWp _ _ _ _ _ _ _;refine zp (id:=39) [0,1,2,3,4,5,6,7,8] [6,8] mixed (by kernel_rfl) (by kernel_rfl) ?_)|(refine za (fun K hK=>?_))|((refine zb (fun hcd=>?_) (fun hcd=>?_))<;>(try simp only [hcP] at hcd)<;>(try exact cdT))|(guard_target =~ rg _ _ _ (⟨_,_,_,_,_,some _⟩ :: _) _ _ _;(first|refine zH gT (fun hcd=>?_) (fun hcd=>?_)|refine zw gT (fun hcd=>?_) (fun hcd=>?_))<;>(try simp only [hcd])<;>(try (simp only [Bool.not_eq_true',Bool.not_eq_false'] at hcd;try simp only [hcd]))<;>(refine ku (Γ2:=_) ewT ?_)<;>(try simp only [hcP] at hcd)<;>(try exact cdT))|(refine zd (f:=108) rfl Tryz.call108 (h:=AEq.pure' agT (ztT _ _ _ _ aoT aoT aoT) (hq:=?_)))|(refine zd (f:=109) rfl Tryz.call109 (h:=AEq.pure' agT (zrp _ _ _ _ aoT aoT aoT) (hq:=?_)))|(refine zd (f:=110) rfl Tryz.call110 (h:=AEq.pure' agT (zf7 _ _ aoT) (hq:=?_)))|(refine zd (f:=106) rfl Tryz.call106 (h:=AEq.pure' agT (zh8 _ _ _ _ _ _ _ aoT aoT aoT) (hq:=?_)))|(refine zd (f:=107) rfl Tryz.call107 (h:=AEq.pure' agT (zh1 _ _ _ aoT aoT aoT) (hq:=?_)))|(refine zd (f:=107) rfl Tryz.call107 (h:=AEq.pure' agT (zh2 _ _ _ aoT aoT aoT) (hq:=?_)))|((refine yv [] exT (by rfl) (by rw [Tryz.results63];exact Lf.kp roT roT) sT sT (zA ?_ ?_) ?_)<;>(try (first|exact zi|exact stT)))|(guard_target =~ dw _ _ _ _ _ _ _ _ _ _;first|((first|guard_target =~ dw _ _ _ _ _ (2 :: _) _ _ _ _|guard_target =~ dw _ _ _ _ _ (3 :: _) _ _ _ _|guard_target =~ dw _ _ _ _ _ (8 :: _) _ _ _ _);(refine zbn rfl rfl (h:=ziN (h:=z6 rfl (hK:=ze ⟨rfl,rfl⟩))) (hk:=?_)))|(guard_target =~ dw _ _ _ _ _ (5 :: _) _ _ _ _;(refine z9 rfl rfl (h:=(fun τ=>yj (h:=jf rfl (hg:=(fun _=>gT)) (hK:=ze ⟨rfl,rfl⟩)))) (hk:=?_)))|(guard_target =~ dw _ _ _ _ _ (6 :: _) _ _ _ _;(refine zaV rfl rfl (h:=yj (h:=vM rfl (he:=eoT) (hne:=by first|exact .inl rfl|exact .inr (by assumption)|exact .inr (by simp;done)|fail) (hK:=ze ⟨rfl,rfl⟩))) (hk:=?_))))|(refine hK _ _ ?_;clear hK K)))
 all_goals exact yc rfl
end Go.Proofs.YtdalcgfnlbofdaaGreatDoor
