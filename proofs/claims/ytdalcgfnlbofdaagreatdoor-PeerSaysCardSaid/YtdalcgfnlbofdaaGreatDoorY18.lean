import Derived.Test.YtdalcgfnlbofdaaGreatDoorPg
import Derived.Test.YtdalcgfnlbofdaaGreatDoorY17
import Derived.Test.YtdalcgfnlbofdaaGreatDoorY06
import Derived.Test.YtdalcgfnlbofdaaGreatDoorPc
set_option linter.unusedVariables false
set_option linter.unusedSimpArgs false
namespace Go.Proofs.YtdalcgfnlbofdaaGreatDoor
open Go Go.Lf Go.Proofs
attribute [local irreducible] Lf.rg Lf.ro Lf.PWp Lf.SOp Lf.ACall Lf.Scoped Lf.dg Lf.dw
set_option maxRecDepth 20000
set_option maxHeartbeats 4000000
theorem znI (u g : Int) (h0 : 0 ≤ u) (h1 : u < 256) (hg : 0 ≤ g) : (BitVec.ofInt 64 u &&& BitVec.ofInt 64 g) = (BitVec.ofInt 64 u &&& BitVec.ofInt 64 (g % 256)):=by
 obtain ⟨v,rfl⟩ : ∃ v : Nat,u = v:=⟨u.toNat,by omega⟩
 obtain ⟨m,rfl⟩ : ∃ m : Nat,g = m:=⟨g.toNat,by omega⟩
 rw [show ((m : Int) % 256) = ((m % 256 : Nat) : Int) from by omega]
 apply BitVec.eq_of_toNat_eq
 simp only [BitVec.toNat_and,BitVec.ofInt_natCast,BitVec.toNat_ofNat]
 rw [Nat.mod_eq_of_lt (show v < 2 ^ 64 by omega),Nat.mod_eq_of_lt (show m % 256 < 2 ^ 64 by omega)]
 apply Nat.eq_of_testBit_eq
 intro i
 rw [Nat.testBit_and,Nat.testBit_and]
 by_cases hi : i < 8
 ·congr 1
  rw [show (256 : Nat) = 2 ^ 8 from rfl,Nat.testBit_mod_two_pow,Nat.testBit_mod_two_pow]
  simp [hi,show i < 64 by omega]
 ·rw [Nat.testBit_lt_two_pow (show v < 2 ^ i from Nat.lt_of_lt_of_le (show v < 2 ^ 8 by omega) (Nat.pow_le_pow_right (by decide) (by omega)))]
  simp
theorem zkC (u g : Int) (h0 : 0 ≤ u) (h1 : u < 256) (hg : 0 ≤ g) : zbg .i64 u g = zbg .i64 u (g % 256):=by
 show IntKind.wrap _ _ = IntKind.wrap _ _
 congr 2
 exact congrArg BitVec.toNat (znI u g h0 h1 hg)
def vp (t g f : Int) : Bool:=decide (0 ≤ g) && zF t g f
theorem zcD {t g f : Int} (h : ¬ 0 ≤ g) : vp t g f = false:=by unfold vp;rw [decide_eq_false h];rfl
theorem zag {t g f : Int} (h : 0 ≤ g) : vp t g f = zF t g f:=by unfold vp;rw [decide_eq_true h];rfl
theorem zkD {t g f : Int} (hg : 0 ≤ g) (hf : f = 1 ∨ f = 4 ∨ f = 8 ∨ f = 32) : zF t (g % 256) f = zF t g f:=by
 unfold zF
 congr 1
 rw [decide_eq_decide]
 rcases hf with rfl|rfl|rfl|rfl<;>omega
theorem zdo {t g f : Int} (h0 : 0 ≤ g) (hf : f = 1 ∨ f = 4 ∨ f = 8 ∨ f = 32) : decide (zbg .i64 (zbg .i64 (yP t) g) f ≠ 0) = vp t g f:=by
 have hu : 0 ≤ yP t ∧ yP t < 64:=by rcases j5 t with e|e|e|e|e|e<;>rw [e]<;>decide
 rw [zkC _ _ hu.1 (by omega) h0,zay (by omega) (by omega) hf,zkD h0 hf,zag h0]
theorem zdp (t g f : Int) (hf : f = 8) : AEq Tryz.prog 94 [i64 t,i64 g,i64 f] [] (bl (vp t g f)) []:=by
 by_cases hg : 0 ≤ g
 ·have hI := zdo (t := t) hg (.inr (.inr (.inl hf)))
  subst hf
  refine zc Tryz.func94 rfl Tryz.ntmps94 (by simp) (fun hsc=>?_);simp only [Lf.enter,Nat.reduceAdd];clear hsc
  have hU:=True.intro
  repeat' (first|(refine goR ?_)|(refine za (fun K hK=>?_))|((refine zb (fun hcd=>?_) (fun hcd=>?_))<;>(try simp only [hcP] at hcd)<;>(try exact cdT))|(guard_target =~ rg _ _ _ (⟨_,_,_,_,_,some _⟩ :: _) _ _ _;(first|refine zH gT (fun hcd=>?_) (fun hcd=>?_)|refine zw gT (fun hcd=>?_) (fun hcd=>?_))<;>(try simp only [hcd])<;>(try (simp only [Bool.not_eq_true',Bool.not_eq_false'] at hcd;try simp only [hcd]))<;>(refine ku (Γ2:=_) ewT ?_)<;>(try simp only [hcP] at hcd)<;>(try exact cdT))|(refine zd (f:=142) rfl Tryz.call142 (h:=AEq.pure' agT (zh0 _) (hq:=?_)))|((refine zh [] (by rw [Tryz.results94,Lf.zy]) (zj ?_) ?_)<;>(try (first|exact zi|exact stT)))|(refine hK _ _ ?_;clear hK K))
  all_goals exact zt (by rw [← hI];first|(simp;done)|(simp;rfl))
 ·rw [zcD hg]
  subst hf
  refine zc Tryz.func94 rfl Tryz.ntmps94 (by simp) (fun hsc=>?_);simp only [Lf.enter,Nat.reduceAdd];clear hsc
  have hU:=True.intro
  repeat' (first|(refine goR ?_)|(refine za (fun K hK=>?_))|((refine zb (fun hcd=>?_) (fun hcd=>?_))<;>(try simp only [hcP] at hcd)<;>(try exact cdT))|(guard_target =~ rg _ _ _ (⟨_,_,_,_,_,some _⟩ :: _) _ _ _;(first|refine zH gT (fun hcd=>?_) (fun hcd=>?_)|refine zw gT (fun hcd=>?_) (fun hcd=>?_))<;>(try simp only [hcd])<;>(try (simp only [Bool.not_eq_true',Bool.not_eq_false'] at hcd;try simp only [hcd]))<;>(refine ku (Γ2:=_) ewT ?_)<;>(try simp only [hcP] at hcd)<;>(try exact cdT))|((refine zh [] (by rw [Tryz.results94,Lf.zy]) (zj ?_) ?_)<;>(try (first|exact zi|exact stT)))|(refine hK _ _ ?_;clear hK K))
theorem zig (t g f : Int) (hf : f = 32) : AEq Tryz.prog 94 [i64 t,i64 g,i64 f] [] (bl (vp t g f)) []:=by
 by_cases hg : 0 ≤ g
 ·have hI := zdo (t := t) hg (.inr (.inr (.inr hf)))
  subst hf
  refine zc Tryz.func94 rfl Tryz.ntmps94 (by simp) (fun hsc=>?_);simp only [Lf.enter,Nat.reduceAdd];clear hsc
  have hU:=True.intro
  repeat' (first|(refine goR ?_)|(refine za (fun K hK=>?_))|((refine zb (fun hcd=>?_) (fun hcd=>?_))<;>(try simp only [hcP] at hcd)<;>(try exact cdT))|(guard_target =~ rg _ _ _ (⟨_,_,_,_,_,some _⟩ :: _) _ _ _;(first|refine zH gT (fun hcd=>?_) (fun hcd=>?_)|refine zw gT (fun hcd=>?_) (fun hcd=>?_))<;>(try simp only [hcd])<;>(try (simp only [Bool.not_eq_true',Bool.not_eq_false'] at hcd;try simp only [hcd]))<;>(refine ku (Γ2:=_) ewT ?_)<;>(try simp only [hcP] at hcd)<;>(try exact cdT))|(refine zd (f:=142) rfl Tryz.call142 (h:=AEq.pure' agT (zh0 _) (hq:=?_)))|((refine zh [] (by rw [Tryz.results94,Lf.zy]) (zj ?_) ?_)<;>(try (first|exact zi|exact stT)))|(refine hK _ _ ?_;clear hK K))
  all_goals exact zt (by rw [← hI];first|(simp;done)|(simp;rfl))
 ·rw [zcD hg]
  subst hf
  refine zc Tryz.func94 rfl Tryz.ntmps94 (by simp) (fun hsc=>?_);simp only [Lf.enter,Nat.reduceAdd];clear hsc
  have hU:=True.intro
  repeat' (first|(refine goR ?_)|(refine za (fun K hK=>?_))|((refine zb (fun hcd=>?_) (fun hcd=>?_))<;>(try simp only [hcP] at hcd)<;>(try exact cdT))|(guard_target =~ rg _ _ _ (⟨_,_,_,_,_,some _⟩ :: _) _ _ _;(first|refine zH gT (fun hcd=>?_) (fun hcd=>?_)|refine zw gT (fun hcd=>?_) (fun hcd=>?_))<;>(try simp only [hcd])<;>(try (simp only [Bool.not_eq_true',Bool.not_eq_false'] at hcd;try simp only [hcd]))<;>(refine ku (Γ2:=_) ewT ?_)<;>(try simp only [hcP] at hcd)<;>(try exact cdT))|((refine zh [] (by rw [Tryz.results94,Lf.zy]) (zj ?_) ?_)<;>(try (first|exact zi|exact stT)))|(refine hK _ _ ?_;clear hK K))
theorem yV (t g f : Int) (hf : f = 8) (hg1 : g ≤ 9223372036854775807) : AEq Tryz.prog 107 [i64 t,i64 g,i64 f] [] (bl (vp t g f)) []:=by
 by_cases hg : 0 ≤ g
 ·rw [zag hg]
  subst hf
  refine zc Tryz.func107 rfl Tryz.ntmps107 (by simp) (fun hsc=>?_);simp only [Lf.enter,Nat.reduceAdd];clear hsc
  have hU:=True.intro
  repeat' (first|(refine goR ?_)|(refine za (fun K hK=>?_))|(refine zd (f:=158) rfl Tryz.call158 (h:=AEq.pure' agT (zeq _ _ (by omega)) (hq:=?_)))|((refine zh [] (by rw [Tryz.results107,Lf.zy]) (zj ?_) ?_)<;>(try (first|exact zi|exact stT)))|(refine hK _ _ ?_;clear hK K))
  all_goals exact zt (by simp [zF];grind)
 ·rw [zcD hg]
  subst hf
  refine zc Tryz.func107 rfl Tryz.ntmps107 (by simp) (fun hsc=>?_);simp only [Lf.enter,Nat.reduceAdd];clear hsc
  have hU:=True.intro
  repeat' (first|(refine goR ?_)|(refine za (fun K hK=>?_))|(refine zd (f:=158) rfl Tryz.call158 (h:=AEq.pure' agT (zeq _ _ (by omega)) (hq:=?_)))|((refine zh [] (by rw [Tryz.results107,Lf.zy]) (zj ?_) ?_)<;>(try (first|exact zi|exact stT)))|(refine hK _ _ ?_;clear hK K))
  all_goals exact zt (by simp;omega)
theorem yL (t g f : Int) (hf : f = 32) (hg1 : g ≤ 9223372036854775807) : AEq Tryz.prog 107 [i64 t,i64 g,i64 f] [] (bl (vp t g f)) []:=by
 by_cases hg : 0 ≤ g
 ·rw [zag hg]
  subst hf
  refine zc Tryz.func107 rfl Tryz.ntmps107 (by simp) (fun hsc=>?_);simp only [Lf.enter,Nat.reduceAdd];clear hsc
  have hU:=True.intro
  repeat' (first|(refine goR ?_)|(refine za (fun K hK=>?_))|(refine zd (f:=158) rfl Tryz.call158 (h:=AEq.pure' agT (zcA _ _ (by omega)) (hq:=?_)))|((refine zh [] (by rw [Tryz.results107,Lf.zy]) (zj ?_) ?_)<;>(try (first|exact zi|exact stT)))|(refine hK _ _ ?_;clear hK K))
  all_goals exact zt (by simp [zF];grind)
 ·rw [zcD hg]
  subst hf
  refine zc Tryz.func107 rfl Tryz.ntmps107 (by simp) (fun hsc=>?_);simp only [Lf.enter,Nat.reduceAdd];clear hsc
  have hU:=True.intro
  repeat' (first|(refine goR ?_)|(refine za (fun K hK=>?_))|(refine zd (f:=158) rfl Tryz.call158 (h:=AEq.pure' agT (zcA _ _ (by omega)) (hq:=?_)))|((refine zh [] (by rw [Tryz.results107,Lf.zy]) (zj ?_) ?_)<;>(try (first|exact zi|exact stT)))|(refine hK _ _ ?_;clear hK K))
  all_goals exact zt (by simp;omega)
def okN (n k : Int) : Bool:=decide (yw n k = 0)
def nbB (n k : Int) : List UInt8:=if yw n k = 0 then beB n k.toNat else []
def loK (n : Int) : Bool:=decide (0 ≤ n ∧ n < 2147483648)
def loB (n : Int) (h : Bool) : List UInt8:=if 0 ≤ n ∧ n < 2147483648 then beB (hdS n h) 4 else beB 0 4
theorem z7 (n : Int) (h : Bool) : (loB n h).length = 4:=by unfold loB;split<;>exact zN _ _
theorem zih (n k : Int) : (nbB n k).length ≤ k.toNat:=by
 unfold nbB;split
 ·rw [zN];exact Nat.le_refl _
 ·exact Nat.zero_le _
theorem jN {n size : Int} (h1 : 1 ≤ size) (h2 : size ≤ 4) (h : yw n size = 0) : 0 ≤ n ∧ n ≤ zct size:=by
 unfold yw at h
 rw [yr ⟨h1,h2⟩,if_neg (by simp)] at h
 split at h
 ·cases h
 ·omega
theorem znJ {n size : Int} (h1 : 1 ≤ size) (h2 : size ≤ 4) (h : ¬ yw n size = 0) : n < 0 ∨ zct size < n:=by
 unfold yw at h
 rw [yr ⟨h1,h2⟩,if_neg (by simp)] at h
 split at h
 ·assumption
 ·exact absurd rfl h
theorem jk (s : Nat) (x : List UInt8) (w : Bool) (n k : Int) (h1 : 1 ≤ k) (h2 : k ≤ 4) (hn : yw n k = 0) (hx : x.length ≤ 1000000000) : AEq Tryz.prog 132 [.ptr 0 0,i64 n,i64 k] [.box [.row 1 s,bl w],.row s 5 1 (x.map zf)] (.tu []) [.box [.row 2 k.toNat,bl w],.row s 5 1 (x.map zf),.row k.toNat 5 1 ((x ++ beB n k.toNat).map zf)]:=by
 obtain ⟨h0,hn⟩:=jN h1 h2 hn
 refine zc Tryz.func132 rfl Tryz.ntmps132 (by simp) (fun hsc=>?_);simp only [Lf.enter,Nat.reduceAdd];clear hsc
 have hU:=True.intro
 repeat' (first|(refine goR ?_)|(refine za (fun K hK=>?_))|((refine zb (fun hcd=>?_) (fun hcd=>?_))<;>(try simp only [hcP] at hcd)<;>(try exact cdT))|(refine zd (f:=171) rfl Tryz.call171 (h:=AEq.sub' [] (hc:=zhW _ _ _ _ _ (by assumption) (by assumption) (by assumption) (by assumption) (by assumption)) (hq:=?_)))|((refine zh [0,1,2] (by rw [Tryz.results132,Lf.vW]) yk ?_)<;>(try (first|exact zi|exact stT)))|(refine hK _ _ ?_;clear hK K))
theorem zaB (s : Nat) (x : List UInt8) (w : Bool) (n k : Int) (h1 : 1 ≤ k) (h2 : k ≤ 4) (hn : ¬ yw n k = 0) (hx : x.length ≤ 1000000000) : AEq Tryz.prog 132 [.ptr 0 0,i64 n,i64 k] [.box [.row 1 s,bl w],.row s 5 1 (x.map zf)] (.tu []) [.box [.row 1 s,bl true],.row s 5 1 (x.map zf)]:=by
 have hn:=znJ h1 h2 hn
 refine zc Tryz.func132 rfl Tryz.ntmps132 (by simp) (fun hsc=>?_);simp only [Lf.enter,Nat.reduceAdd];clear hsc
 have hU:=True.intro
 repeat' (first|(refine goR ?_)|(refine za (fun K hK=>?_))|((refine zb (fun hcd=>?_) (fun hcd=>?_))<;>(try simp only [hcP] at hcd)<;>(try exact cdT))|(refine zd (f:=171) rfl Tryz.call171 (h:=AEq.pure' agT (zfj _ _ _ _ _ (by assumption)) (hq:=?_)))|((refine zh [0,1] (by rw [Tryz.results132,Lf.vW]) yk ?_)<;>(try (first|exact zi|exact stT)))|(refine hK _ _ ?_;clear hK K))
theorem zoO (s : Nat) (x : List UInt8) (w : Bool) (n : Int) (u : Bool) (hx : x.length ≤ 1000000000) : AEq Tryz.prog 178 [.ptr 0 0,i64 n,bl u] [.box [.row 1 s,bl w],.row s 5 1 (x.map zf)] (.tu []) [.box [.row 2 4,bl (w || !loK n)],.row s 5 1 (x.map zf),.row 4 5 1 ((x ++ loB n u).map zf)]:=by
 by_cases hl : 0 ≤ n ∧ n < 2147483648
 ·have hk : loK n = true := decide_eq_true hl
  obtain ⟨h0,h1⟩:=hl
  have hp0 : yw n 4 = 0:=vk n 4 (by decide) (by decide) h0 (by rw [zhV];omega)
  have hp1 : yw (n + 2147483648) 4 = 0:=vk _ 4 (by decide) (by decide) (by omega) (by rw [zhV];omega)
  rw [hk,show loB n u = beB (hdS n u) 4 from if_pos ⟨h0,h1⟩]
  simp only [Bool.not_true,Bool.or_false]
  cases u
  all_goals simp only [zkr,zks]
  all_goals (refine zc Tryz.func178 rfl Tryz.ntmps178 (by simp) (fun hsc=>?_);simp only [Lf.enter,Nat.reduceAdd];clear hsc)
  all_goals (have hU:=@Bool.or_false)
  all_goals (repeat' (first|(refine goR ?_)|(refine za (fun K hK=>?_))|(refine zd (f:=132) rfl Tryz.call132 (h:=AEq.sub' [_,_] (hc:=jk _ _ _ _ _ aoT aoT aoT aoT) (hq:=?_)))|(refine zd (f:=205) rfl Tryz.call205 (h:=AEq.pure' agT (zko _ aoT aoT) (hq:=?_)))|(refine zd (f:=205) rfl Tryz.call205 (h:=AEq.pure' agT (zkp _ aoT aoT) (hq:=?_)))|((refine zh [0,1,2] (by rw [Tryz.results178,Lf.vW]) yk ?_)<;>(try (first|exact zi|exact stT)))|(refine hK _ _ ?_;clear hK K)))
 ·have hk : loK n = false := decide_eq_false hl
  have hb : n < 0 ∨ 2147483648 ≤ n:=by omega
  have hp0 : yw 0 4 = 0:=vk 0 4 (by decide) (by decide) (by decide) (by rw [zhV];decide)
  rw [hk,show loB n u = beB 0 4 from if_neg hl]
  simp only [Bool.not_false,Bool.or_true]
  refine zc Tryz.func178 rfl Tryz.ntmps178 (by simp) (fun hsc=>?_);simp only [Lf.enter,Nat.reduceAdd];clear hsc
  have hU:=@Bool.or_true
  repeat' (first|(refine goR ?_)|(refine za (fun K hK=>?_))|(refine zd (f:=132) rfl Tryz.call132 (h:=AEq.sub' [_,_] (hc:=jk _ _ _ _ _ aoT aoT aoT aoT) (hq:=?_)))|(refine zd (f:=205) rfl Tryz.call205 (h:=AEq.pure' agT (znr _ _ aoT) (hq:=?_)))|((refine zh [0,1,2] (by rw [Tryz.results178,Lf.vW]) yk ?_)<;>(try (first|exact zi|exact stT)))|(refine hK _ _ ?_;clear hK K))
end Go.Proofs.YtdalcgfnlbofdaaGreatDoor
