import Derived.Test.YtdalcgfnlbofdaaGreatDoorY22
set_option linter.unusedVariables false
set_option linter.unusedSimpArgs false
namespace Go.Proofs.YtdalcgfnlbofdaaGreatDoor
open Go Go.Lf Go.Proofs
attribute [local irreducible] Lf.rg Lf.ro Lf.PWp Lf.SOp Lf.ACall Lf.Scoped Lf.dg
set_option maxRecDepth 20000
set_option maxHeartbeats 4000000
/-! What is written is read again. -/
theorem zrA {α : Type} {l : List α} {i : Nat} (h : i < l.length) : ∃ x,l[i]? = some x:=⟨l[i],List.getElem?_eq_getElem h⟩
theorem zkL {α : Type} {l : List α} {i : Nat} {x : α} (h : l[i]? = some x) : l.drop i = x :: l.drop (i + 1):=by
 obtain ⟨h1,h2⟩:=List.getElem?_eq_some_iff.1 h
 rw [List.drop_eq_getElem_cons h1,h2]
theorem zge {α : Type} {l : List α} {i : Nat} {x : α} (h : l[i]? = some x) : l.take (i + 1) = l.take i ++ [x]:=by
 rw [List.take_add_one,h];rfl
theorem vJ (n : Int) (k : Nat) (r : List UInt8) (h0 : 1 ≤ k) (h4 : k ≤ 4) (h : yw n k = 0) : zM (beB n k ++ r) k = n:=by
 have hb:=jN (by omega) (by omega) h
 rw [j3 _ (by omega) (by omega)] at hb
 unfold zM
 rw [if_pos ⟨yr (by omega),by rw [List.length_append,zN];omega⟩,show ((k : Int)).toNat = k from by omega,List.take_left' (zN n k),zfk n hb.1]
 rw [show ((k : Int)).toNat = k from by omega] at hb
 exact Int.emod_eq_of_lt hb.1 (by omega)
theorem znQ (P X : List UInt8) : (P ++ X).drop ((P.length : Int)).toNat = X:=by
 rw [show ((P.length : Int)).toNat = P.length from by omega,List.drop_left]
theorem zt5 {n : Int} (h : 0 ≤ n ∧ n < 2147483648) : yw n 4 = 0:=vk n 4 (by decide) (by decide) h.1 (by rw [zhV];omega)
theorem zrB {n : Int} (h : 0 ≤ n ∧ n < 2147483648) : yw (n + 2147483648) 4 = 0:=vk _ 4 (by decide) (by decide) (by omega) (by rw [zhV];omega)
theorem zdt {n : Int} (h : 0 ≤ n ∧ n ≤ 4294967295) : yw n 4 = 0:=vk n 4 (by decide) (by decide) h.1 (by rw [zhV];omega)
theorem znR {n : Int} (h : 0 ≤ n ∧ n ≤ 255) : yw n 1 = 0:=vk n 1 (by decide) (by decide) h.1 (by rw [zuE];omega)
theorem zrC {n : Int} (b : Bool) (r : List UInt8) (h : 0 ≤ n ∧ n < 2147483648) : zM (loB n b ++ r) 4 = hdS n b:=by
 rw [zrx b (zah h)]
 cases b
 ·rw [zks];exact vJ n 4 r (by decide) (by decide) (zt5 h)
 ·rw [zkr];exact vJ _ 4 r (by decide) (by decide) (zrB h)
theorem zlI {n : Int} (b : Bool) (h : 0 ≤ n ∧ n < 2147483648) : yO (hdS n b) = n ∧ hiN (hdS n b) = b:=by
 cases b
 ·rw [zks];exact ⟨if_pos h.2,decide_eq_false (by omega)⟩
 ·rw [zkr]
  refine ⟨?_,decide_eq_true (by omega)⟩
  unfold yO;rw [if_neg (by omega)];omega
theorem zsy {b P R : List UInt8} {n : Int} {h : Bool} (hb : b = P ++ (loB n h ++ R)) (hn : 0 ≤ n ∧ n < 2147483648) : zM (b.drop ((P.length : Int)).toNat) 4 = hdS n h ∧ yO (zM (b.drop ((P.length : Int)).toNat) 4) = n ∧ hiN (zM (b.drop ((P.length : Int)).toNat) 4) = h ∧ shB b P.length 4 = false ∧ yx b P.length 4 = P.length + 4:=by
 have hl : b.length = P.length + (4 + R.length):=by rw [hb,List.length_append,List.length_append,z7]
 have hg : zM (b.drop ((P.length : Int)).toNat) 4 = hdS n h:=by rw [hb,znQ];exact zrC h R hn
 rw [hg]
 exact ⟨rfl,(zlI h hn).1,(zlI h hn).2,decide_eq_false (by omega),if_pos (by omega)⟩
theorem zuH {b P R : List UInt8} {n : Int} (hb : b = P ++ (beB n 4 ++ R)) (hn : 0 ≤ n ∧ n ≤ 4294967295) : zM (b.drop ((P.length : Int)).toNat) 4 = n ∧ shB b P.length 4 = false ∧ yx b P.length 4 = P.length + 4:=by
 have hl : b.length = P.length + (4 + R.length):=by rw [hb,List.length_append,List.length_append,zN]
 refine ⟨by rw [hb,znQ];exact vJ n 4 R (by decide) (by decide) (zdt hn),decide_eq_false (by omega),if_pos (by omega)⟩
theorem zzB {b P R : List UInt8} {n : Int} (hb : b = P ++ (beB n 1 ++ R)) (hn : 0 ≤ n ∧ n ≤ 255) : zM (b.drop ((P.length : Int)).toNat) 1 = n ∧ yx b P.length 1 = P.length + 1:=by
 have hl : b.length = P.length + (1 + R.length):=by rw [hb,List.length_append,List.length_append,zN]
 exact ⟨by rw [hb,znQ];exact vJ n 1 R (by decide) (by decide) (znR hn),if_pos (by omega)⟩
theorem zin (s : Int × Int) (r : List UInt8) (h : zcy s) : zns (zhX s ++ r) = s:=by
 obtain ⟨h1,h2⟩:=h
 have e : zhX s ++ r = beB s.1 2 ++ (beB s.2 4 ++ r):=by rw [zhX,List.append_assoc]
 have ed : (zhX s ++ r).drop 2 = beB s.2 4 ++ r:=by rw [e,List.drop_left' (zN s.1 2)]
 unfold zns
 rw [ed,e]
 have a:=vJ s.1 2 (beB s.2 4 ++ r) (by decide) (by decide) h1
 have b:=vJ s.2 4 r (by decide) (by decide) h2
 have a' : zM (beB s.1 2 ++ (beB s.2 4 ++ r)) 2 = s.1:=a
 have b' : zM (beB s.2 4 ++ r) 4 = s.2:=b
 rw [a',b']
theorem znS (l : List (Int × Int)) (h : spE l = 0) : ∀ s ∈ l,zcy s:=by
 induction l with
 | nil=>intro s hs;simp at hs
 | cons t l ih=>
  have h1' : (if zcy t then spE l else 5) = 0:=h
  split at h1'
  ·rename_i ht
   intro s hs
   simp only [List.mem_cons] at hs
   rcases hs with rfl|hs
   ·exact ht
   ·exact ih h1' s hs
  ·cases h1'
theorem znT (l : List (Int × Int)) (h : ∀ s ∈ l,zcy s) (k : Nat) (hk : k ≤ l.length) : zgn (spF l) k = l.take k:=by
 induction k with
 | zero=>rfl
 | succ k ih=>
  obtain ⟨s,hs⟩:=zrA (l:=l) (i:=k) (by omega)
  have hd : (spF l).drop (6 * k) = zhX s ++ spF (l.drop (k + 1)):=by
   have e : l = l.take k ++ s :: l.drop (k + 1):=by rw [← zkL hs,List.take_append_drop]
   have e2 : spF l = spF (l.take k) ++ (zhX s ++ spF (l.drop (k + 1))):=by
    conv=>lhs;rw [e]
    simp [spF]
   rw [e2,List.drop_left' (by rw [j4,List.length_take];omega)]
  show zgn (spF l) k ++ [zns ((spF l).drop (6 * k))] = _
  rw [ih (by omega),hd,zin s _ (h s (List.mem_of_getElem? hs)),zge hs]
theorem zkM (l : List (Int × Int)) (h : spE l = 0) : zep (spB l) = l ∧ zlz (spB l) = 0:=by
 have e : spB l = spF l:=if_pos h
 have hl:=j4 l
 rw [e]
 unfold zep zlz
 rw [if_pos (by omega),if_pos (by omega),hl,show 6 * l.length / 6 = l.length from by omega,znT l (znS l h) _ (Nat.le_refl _),List.take_length]
 exact ⟨rfl,rfl⟩
structure Can (t g s p : Int) (d : List UInt8) (e : List (Int × Int)) (wt pa : Int) (al : Bool) (pr la co sp : Int) : Prop where
 g0 : 0 ≤ g
 g1 : g < 256
 st : vg t s = true
 pad : (zF t g 8 = true ∧ 0 ≤ p ∧ p ≤ 255) ∨ (zF t g 8 = false ∧ p = -1)
 de : (t = 4 ∧ d = [] ∧ spE e = 0) ∨ (¬ t = 4 ∧ e = [])
 wg : (((t = 1 ∧ zF 1 g 32 = true) ∨ t = 2) ∧ (0 ≤ pa ∧ pa < 2147483648) ∧ (0 ≤ wt ∧ wt ≤ 255)) ∨ (¬ ((t = 1 ∧ zF 1 g 32 = true) ∨ t = 2) ∧ pa = 0 ∧ wt = 0 ∧ al = false)
 hpr : (t = 5 ∧ 0 ≤ pr ∧ pr < 2147483648) ∨ (¬ t = 5 ∧ pr = 0)
 hla : (t = 7 ∧ 0 ≤ la ∧ la < 2147483648) ∨ (¬ t = 7 ∧ la = 0)
 hco : ((t = 3 ∨ t = 7) ∧ 0 ≤ co ∧ co ≤ 4294967295) ∨ (¬ (t = 3 ∨ t = 7) ∧ co = 0)
 hsp : (t = 8 ∧ 0 ≤ sp ∧ sp < 2147483648) ∨ (¬ t = 8 ∧ sp = 0)
theorem zlJ {t g s p : Int} {d : List UInt8} {e : List (Int × Int)} {wt pa : Int} {al : Bool} {pr la co sp : Int} (h : Can t g s p d e wt pa al pr la co sp) {b P R : List UInt8} (hb : b = P ++ (nuB t g e wt pa al pr la co sp ++ R)) :
    zY t g b P.length = ⟨wt,pa,al,pr,la,co,sp,false,if t = 4 then P.length else P.length + (nuB t g e wt pa al pr la co sp).length⟩:=by
  obtain ⟨g0,g1,hst,hpad,hde,hwg,hpr,hla,hco,hsp⟩:=h
  have key : ∀ (c : t = 1 ∧ zF 1 g 32 = true ∨ t = 2),(0 ≤ pa ∧ pa < 2147483648) ∧ (0 ≤ wt ∧ wt ≤ 255):=fun c=>by
    rcases hwg with ⟨_,a,b⟩|⟨n,_⟩
    · exact ⟨a,b⟩
    · exact absurd c n
  have wgh : ∀ {b P R : List UInt8},(0 ≤ pa ∧ pa < 2147483648) → (0 ≤ wt ∧ wt ≤ 255) → b = P ++ (wgB pa al wt ++ R) → zM (b.drop (yx b P.length 4).toNat) 1 = wt ∧ yO (zM (b.drop ((P.length : Int)).toNat) 4) = pa ∧ hiN (zM (b.drop ((P.length : Int)).toNat) 4) = al ∧ shB b P.length 5 = false ∧ yx b (yx b P.length 4) 1 = P.length + 5 ∧ (wgB pa al wt).length = 5:=by
    intro b P R hpa hwt hb
    have hw : wgB pa al wt = loB pa al ++ beB wt 1:=by unfold wgB;rw [zcE (znR hwt)];rfl
    rw [hw,List.append_assoc] at hb
    obtain ⟨_,a2,a3,a4,a5⟩:=zsy hb hpa
    have hb2 : b = (P ++ loB pa al) ++ (beB wt 1 ++ R):=by rw [hb];simp
    have hl2 : ((P ++ loB pa al).length : Int) = P.length + 4:=by rw [List.length_append,z7];rfl
    obtain ⟨c1,c2⟩:=zzB hb2 hwt
    rw [hl2] at c1 c2
    have hl : b.length = P.length + (4 + (1 + R.length)):=by rw [hb];simp [z7,zN]
    refine ⟨by rw [a5];exact c1,a2,a3,decide_eq_false (by omega),by rw [a5,c2];omega,by rw [hw,List.length_append,z7,zN]⟩
  by_cases t1 : t = 1
  · subst t1
    have z1 : pr = 0:=by omega
    have z2 : la = 0:=by omega
    have z3 : co = 0:=by omega
    have z4 : sp = 0:=by omega
    subst z1 z2 z3 z4
    by_cases hh : zF 1 g 32 = true
    · have hz : vp 1 g 32 = true := by rw [zag g0]; exact hh
      have hn : nuB 1 g e wt pa al 0 0 0 0 = wgB pa al wt:=by unfold nuB;rw [if_pos rfl,if_pos hz]
      rw [hn] at hb ⊢
      obtain ⟨hpa,hwt⟩:=key (.inl ⟨rfl,hh⟩)
      obtain ⟨k1,k2,k3,k4,k5,k6⟩:=wgh hpa hwt hb
      unfold zY
      rw [if_pos rfl,if_pos hh,k1,k2,k3,k4,k5,k6,if_neg (by decide)]
      rfl
    · have hz : ¬ vp 1 g 32 = true := by rw [zag g0]; exact hh
      have hn : nuB 1 g e wt pa al 0 0 0 0 = []:=by unfold nuB;rw [if_pos rfl,if_neg hz]
      obtain ⟨_,rfl,rfl,rfl⟩ : ¬ ((1 : Int) = 1 ∧ zF 1 g 32 = true ∨ (1 : Int) = 2) ∧ pa = 0 ∧ wt = 0 ∧ al = false:=by
        rcases hwg with ⟨c,_⟩|h
        · rcases c with ⟨_, c⟩ | c
          · exact absurd c hh
          · exact absurd c (by decide)
        · exact h
      rw [hn]
      unfold zY
      rw [if_pos rfl,if_neg hh,if_neg (by decide)]
      simp
  by_cases t2 : t = 2
  · subst t2
    have z1 : pr = 0:=by omega
    have z2 : la = 0:=by omega
    have z3 : co = 0:=by omega
    have z4 : sp = 0:=by omega
    subst z1 z2 z3 z4
    have hn : nuB 2 g e wt pa al 0 0 0 0 = wgB pa al wt:=by unfold nuB;rw [if_neg (by decide),if_pos rfl]
    rw [hn] at hb ⊢
    obtain ⟨hpa,hwt⟩:=key (.inr rfl)
    obtain ⟨k1,k2,k3,k4,k5,k6⟩:=wgh hpa hwt hb
    unfold zY
    rw [if_neg (by decide),if_pos rfl,k1,k2,k3,k4,k5,k6,if_neg (by decide)]
    rfl
  obtain ⟨rfl,rfl,rfl⟩ : pa = 0 ∧ wt = 0 ∧ al = false:=by
    rcases hwg with ⟨c,_⟩|h
    · rcases c with ⟨c, _⟩ | c
      · exact absurd c t1
      · exact absurd c t2
    · exact h.2
  by_cases t3 : t = 3
  · subst t3
    have z1 : pr = 0:=by omega
    have z2 : la = 0:=by omega
    have z4 : sp = 0:=by omega
    have hc : 0 ≤ co ∧ co ≤ 4294967295:=by omega
    subst z1 z2 z4
    have hn : nuB 3 g e 0 0 false 0 0 co 0 = beB co 4:=by unfold nuB;rw [if_neg (by decide),if_neg (by decide),if_pos rfl,zcE (zdt hc)];rfl
    rw [hn] at hb ⊢
    obtain ⟨k1,k2,k3⟩:=zuH hb hc
    unfold zY
    rw [if_neg (by decide),if_neg (by decide),if_pos rfl,k1,k2,k3,if_neg (by decide),zN]
    rfl
  by_cases t5 : t = 5
  · subst t5
    have z2 : la = 0:=by omega
    have z3 : co = 0:=by omega
    have z4 : sp = 0:=by omega
    have hc : 0 ≤ pr ∧ pr < 2147483648:=by omega
    subst z2 z3 z4
    have hn : nuB 5 g e 0 0 false pr 0 0 0 = loB pr false:=by unfold nuB;rw [if_neg (by decide),if_neg (by decide),if_neg (by decide),if_pos rfl]
    rw [hn] at hb ⊢
    obtain ⟨_,k1,_,k2,k3⟩:=zsy hb hc
    unfold zY
    rw [if_neg (by decide),if_neg (by decide),if_neg (by decide),if_pos rfl,k1,k2,k3,if_neg (by decide),z7]
    rfl
  by_cases t7 : t = 7
  · subst t7
    have z1 : pr = 0:=by omega
    have z4 : sp = 0:=by omega
    have hc : 0 ≤ co ∧ co ≤ 4294967295:=by omega
    have hl : 0 ≤ la ∧ la < 2147483648:=by omega
    subst z1 z4
    have hn : nuB 7 g e 0 0 false 0 la co 0 = loB la false ++ beB co 4:=by unfold nuB;rw [if_neg (by decide),if_neg (by decide),if_neg (by decide),if_neg (by decide),if_pos rfl,zcE (zdt hc)];rfl
    rw [hn,List.append_assoc] at hb
    rw [hn]
    obtain ⟨_,k1,_,k2,k3⟩:=zsy hb hl
    have hb2 : b = (P ++ loB la false) ++ (beB co 4 ++ R):=by rw [hb];simp
    have hl2 : ((P ++ loB la false).length : Int) = P.length + 4:=by rw [List.length_append,z7];rfl
    obtain ⟨c1,_,c3⟩:=zuH hb2 hc
    rw [hl2] at c1 c3
    have hbl : b.length = P.length + (4 + (4 + R.length)):=by rw [hb];simp [z7,zN]
    have k8 : shB b P.length 8 = false:=decide_eq_false (by omega)
    unfold zY
    rw [if_neg (by decide),if_neg (by decide),if_neg (by decide),if_neg (by decide),if_pos rfl,k1,k3,c1,c3,k8,if_neg (by decide),List.length_append,z7,zN]
    congr 1
  by_cases t8 : t = 8
  · subst t8
    have z1 : pr = 0:=by omega
    have z2 : la = 0:=by omega
    have z3 : co = 0:=by omega
    have hc : 0 ≤ sp ∧ sp < 2147483648:=by omega
    subst z1 z2 z3
    have hn : nuB 8 g e 0 0 false 0 0 0 sp = loB sp false:=by unfold nuB;rw [if_neg (by decide),if_neg (by decide),if_neg (by decide),if_neg (by decide),if_neg (by decide),if_pos rfl]
    rw [hn] at hb ⊢
    obtain ⟨_,k1,_,k2,k3⟩:=zsy hb hc
    unfold zY
    rw [if_neg (by decide),if_neg (by decide),if_neg (by decide),if_neg (by decide),if_neg (by decide),if_pos rfl,k1,k2,k3,if_neg (by decide),z7]
    rfl
  have z1 : pr = 0:=by omega
  have z2 : la = 0:=by omega
  have z3 : co = 0:=by omega
  have z4 : sp = 0:=by omega
  subst z1 z2 z3 z4
  unfold zY
  rw [if_neg t1,if_neg t2,if_neg t3,if_neg t5,if_neg t7,if_neg t8]
  by_cases t4 : t = 4
  · rw [if_pos t4]
  · have hn : nuB t g e 0 0 false 0 0 0 0 = [] := by unfold nuB; rw [if_neg t1, if_neg t2, if_neg t3, if_neg t5, if_neg t7, if_neg t8, if_neg t4]
    rw [hn,if_neg t4]
    simp
theorem znU {t g s p : Int} {d : List UInt8} {e : List (Int × Int)} {wt pa : Int} {al : Bool} {pr la co sp : Int} (h : Can t g s p d e wt pa al pr la co sp) : nuW t g e wt pa pr la co sp = false:=by
 obtain ⟨g0,g1,hst,hpad,hde,hwg,hpr,hla,hco,hsp⟩:=h
 have lk : ∀ n : Int,0 ≤ n ∧ n < 2147483648 → loK n = true:=fun n h=>zah h
 have hwk : wgW pa wt = false:=by
  unfold wgW
  rcases hwg with ⟨_,a,b⟩|⟨_,a,b,_⟩
  ·rw [zah a,zcF b];rfl
  ·rw [a,b,zah (by decide),zcF (by decide)];rfl
 have k1 : loK pr = true:=lk _ (by omega)
 have k2 : loK la = true:=lk _ (by omega)
 have k3 : loK sp = true:=lk _ (by omega)
 have k4 : okN co 4 = true:=zew (by omega)
 unfold nuW
 rw [hwk,k1,k2,k3,k4]
 by_cases t4 : t = 4
 ·rcases hde with ⟨_, _, hs⟩ | ⟨n, _⟩
  ·rw [hs,t4];simp
  ·exact absurd t4 n
 ·repeat' split
  all_goals first|rfl|(exact absurd (by assumption) t4)
theorem rt {t g s p : Int} {d : List UInt8} {e : List (Int × Int)} {wt pa : Int} {al : Bool} {pr la co sp : Int} (h : Can t g s p d e wt pa al pr la co sp) (hl : vP t g (wrB t g p d e wt pa al pr la co sp).length = true) :
    wrW t g p e wt pa pr la co sp = false ∧ (ym t g s (wrB t g p d e wt pa al pr la co sp)).2 = (0,0) ∧ gm (ym t g s (wrB t g p d e wt pa al pr la co sp)).1 = ⟨t,g,s,p,d,e,wt,pa,al,pr,la,co,sp⟩:=by
  have hW:=znU h
  have h':=h
  obtain ⟨g0,g1,hst,hpad,hde,hwg,hpr,hla,hco,hsp⟩:=h'
  generalize hB : wrB t g p d e wt pa al pr la co sp = B at hl ⊢
  have e0 : ym t g s B = zbc t g s B:=by
    unfold ym;rw [if_neg (by rw [hst];simp),if_neg (by rw [hl];simp)]
  rw [e0]
  rcases hpad with ⟨h8,hp⟩|⟨h8,rfl⟩
  · have hz8 : vp t g 8 = true := by rw [zag g0]; exact h8
    have ht4 : ¬ t = 4:=by have:=zim hz8;omega
    have hB2 : B = beB p 1 ++ (nuB t g e wt pa al pr la co sp ++ (d ++ List.replicate p.toNat 0)):=by
      rw [← hB];unfold wrB;rw [if_pos hz8];unfold eB;simp
    have hlp : ((beB p 1).length : Int) = 1:=by rw [zN];rfl
    have hN:=zlJ h hB2
    rw [hlp,if_neg ht4] at hN
    have hBl : B.length = 1 + ((nuB t g e wt pa al pr la co sp).length + (d.length + p.toNat)):=by rw [hB2];simp [zN]
    have hg1 : zM B 1 = p:=by rw [hB2];exact vJ p 1 _ (by decide) (by decide) (znR hp)
    have hA : yW t g B = 1:=by unfold yW;rw [if_pos h8];exact if_pos (by omega)
    have hP : v3 t g B = p:=by unfold v3;rw [if_pos h8];exact hg1
    have hS : (zF t g 8 && shB B 0 1) = false:=by rw [h8,Bool.true_and];exact decide_eq_false (by omega)
    rw [v4 hP ((congrArg (zY t g B) hA).trans hN) hS rfl (by dsimp only;omega)]
    refine ⟨by unfold wrW;rw [hW,hz8,zcF hp];rfl,rfl,?_⟩
    dsimp only
    rw [if_neg ht4]
    unfold gm
    dsimp only
    have hby : byL B (1 + (nuB t g e wt pa al pr la co sp).length) ((B.length : Int) - (1 + (nuB t g e wt pa al pr la co sp).length) - max p 0) = d:=by
      have hE : byE B (1 + (nuB t g e wt pa al pr la co sp).length) ((B.length : Int) - (1 + (nuB t g e wt pa al pr la co sp).length) - max p 0) = 0:=by
        unfold byE;rw [if_neg (by omega),if_neg (by omega)]
      unfold byL
      rw [if_pos hE]
      have hB3 : B = (beB p 1 ++ nuB t g e wt pa al pr la co sp) ++ (d ++ List.replicate p.toNat 0):=by rw [hB2];simp
      have hd : B.drop ((1 : Int) + (nuB t g e wt pa al pr la co sp).length).toNat = d ++ List.replicate p.toNat 0:=by
        rw [hB3,List.drop_left' (by rw [List.length_append,zN];omega)]
      rw [hd,List.take_left' (by omega)]
    rw [hby]
    rcases hde with ⟨c,_⟩|⟨_,rfl⟩
    · exact absurd c ht4
    · rfl
  · have hz8 : ¬ vp t g 8 = true := by rw [zag g0, h8]; simp
    have hB2 : B = [] ++ (nuB t g e wt pa al pr la co sp ++ d):=by
      rw [← hB];unfold wrB;rw [if_neg hz8];unfold eB;simp
    have hN:=zlJ h hB2
    rw [show ((([] : List UInt8).length : Nat) : Int) = 0 from rfl] at hN
    have hBl : B.length = (nuB t g e wt pa al pr la co sp).length + d.length:=by rw [hB2];simp
    have hA : yW t g B = 0:=by unfold yW;rw [if_neg (by rw [h8];simp)]
    have hP : v3 t g B = -1:=by unfold v3;rw [if_neg (by rw [h8];simp)]
    have hS : (zF t g 8 && shB B 0 1) = false:=by rw [h8];rfl
    have hWf : wrW t g (-1) e wt pa pr la co sp = false:=by unfold wrW;rw [hW,zag g0,h8];rfl
    rw [v4 hP ((congrArg (zY t g B) hA).trans hN) hS rfl (by dsimp only;split<;>omega)]
    refine ⟨hWf,rfl,?_⟩
    dsimp only
    rcases hde with ⟨ht4,rfl,hs⟩|⟨ht4,rfl⟩
    · subst ht4
      have hn : nuB 4 g e wt pa al pr la co sp = spB e:=by unfold nuB;rw [if_neg (by decide),if_neg (by decide),if_neg (by decide),if_neg (by decide),if_neg (by decide),if_neg (by decide),if_pos rfl]
      rw [hn] at hB2
      have hB3 : B = spB e:=by rw [hB2];simp
      rw [if_pos rfl,hB3]
      unfold gm
      dsimp only
      rw [(zkM e hs).1]
    · rw [if_neg ht4, if_neg ht4]
      unfold gm
      dsimp only
      have hby : byL B (0 + (nuB t g [] wt pa al pr la co sp).length) ((B.length : Int) - (0 + (nuB t g [] wt pa al pr la co sp).length) - max (-1) 0) = d:=by
        have hE : byE B (0 + (nuB t g [] wt pa al pr la co sp).length) ((B.length : Int) - (0 + (nuB t g [] wt pa al pr la co sp).length) - max (-1) 0) = 0:=by
          unfold byE;rw [if_neg (by omega),if_neg (by omega)]
        unfold byL
        rw [if_pos hE]
        have hd : B.drop ((0 : Int) + (nuB t g [] wt pa al pr la co sp).length).toNat = d:=by
          rw [hB2,List.nil_append,List.drop_left' (by omega)]
        rw [hd,List.take_of_length_le (by omega)]
      rw [hby]
theorem zio {w t g s p : Int} {d : List UInt8} {e : List (Int × Int)} {wt pa : Int} {al : Bool} {pr la co sp : Int} (h : Can t g s p d e wt pa al pr la co sp) (hl : vP t g (wrB t g p d e wt pa al pr la co sp).length = true) (hw : w = 0 ∨ w = 1) (hk : km ⟨(wrB t g p d e wt pa al pr la co sp).length, t, g, s, false⟩) :
    kJ w t g s p d e wt pa al pr la co sp:=by
  obtain ⟨a,b,c⟩:=rt h hl
  have hf : yX t g s (wrB t g p d e wt pa al pr la co sp) = (0,0):=by rw [← (zcB t g s _).1];exact b
  exact ⟨a,hw,hk,hf,by rw [← (jL hf).2];exact c.symm⟩
end Go.Proofs.YtdalcgfnlbofdaaGreatDoor
