import Derived.Test.YtdalcgfnlbofdaaGreatDoorTg
import Derived.Test.YtdalcgfnlbofdaaGreatDoorZ15
set_option linter.unusedVariables false
set_option linter.unusedSimpArgs false
namespace Go.Proofs.YtdalcgfnlbofdaaGreatDoor
open Go Go.Lf Go.Proofs
attribute [local irreducible] Lf.rg Lf.ro Lf.PWp Lf.SOp Lf.ACall Lf.Scoped Lf.dg
set_option maxRecDepth 20000
set_option maxHeartbeats 4000000
def zX : Nat → Int
 | 0=>1
 | k + 1=>256 * zX k
theorem vI (k : Nat) (h : k ≤ 4) : 1 ≤ zX k ∧ zX k ≤ 4294967296:=by
 rcases (show k = 0 ∨ k = 1 ∨ k = 2 ∨ k = 3 ∨ k = 4 by omega) with h|h|h|h|h<;>subst h<;>decide
theorem zkM (k : Nat) (n : Int) (h : n = k) (hk : k ≤ 4) : AEq Tryz.prog 179 [i64 n] [] (i64 (zX k)) []:=by
 refine zc Tryz.func179 rfl Tryz.ntmps179 (by simp) (fun hsc=>?_);simp only [Lf.enter,Nat.reduceAdd];clear hsc
 have hU:=True.intro
 repeat' (first|(refine goR ?_)|(refine za (fun K hK=>?_))|(refine hK _ _ ?_;clear hK K))
 refine zo [3,4,5,6,7,8,9,10,11] (fun i : Nat=>[(3,i64 (zX i)),(4,i64 i)]) (fun _=>[]) (fun i=>i ≤ k) (fun i=>k - i) 0 (Nat.zero_le _) ?_ rfl ?_
 ·(refine ⟨⟨_,sT,?_⟩,⟨_,sT,?_⟩,trivial⟩<;>(try (first|exact zh)))
 ·intro i hi
  simp only [yn,List.map_cons,List.map_nil,List.cons_append,List.nil_append]
  have hb:=vI i (by omega)
  by_cases hlt : i < k
  ·have hb' := vI (i + 1) (by omega)
   have hs : zX (i + 1) = 256 * zX i:=rfl
   repeat' (first|(refine goR ?_)|(refine za (fun K hK=>?_))|((refine zb (fun hcd=>?_) (fun hcd=>?_))<;>(try simp only [hcP] at hcd)<;>(try exact cdT))|(refine hK _ _ ?_;clear hK K))
   refine ⟨i + 1,by omega,by omega,?_,arT,rfl⟩
   (refine ⟨⟨_,sT,?_⟩,⟨_,sT,?_⟩,trivial⟩<;>(try (first|exact zh)))
  ·have he : i = k := by omega
   subst he
   repeat' (first|(refine goR ?_)|(refine za (fun K hK=>?_))|((refine zb (fun hcd=>?_) (fun hcd=>?_))<;>(try simp only [hcP] at hcd)<;>(try exact cdT))|((refine ze [] (by rw [Tryz.results179,Lf.zt]) (zj ?_) ?_)<;>(try (first|exact zh|exact stT)))|(refine hK _ _ ?_;clear hK K)|(apply_assumption (exfalso:=false) (symm:=false)))
theorem jA (n : Int) (h0 : 0 ≤ n) (h4 : n ≤ 4) : AEq Tryz.prog 179 [i64 n] [] (i64 (zX n.toNat)) []:=zkM n.toNat n (by omega) (by omega)
theorem zkN (l : List UInt8) (k : Nat) : yO (l ++ List.replicate k 0) = yO l * zX k:=by
 induction k with
 | zero=>simp [zX]
 | succ k ih=>
  rw [List.replicate_succ',← List.append_assoc,za9,ih]
  show yO l * zX k * 256 + 0 = yO l * (256 * zX k)
  rw [Int.mul_comm 256,← Int.mul_assoc,Int.add_zero]
theorem je (l : List UInt8) (k : Nat) (h : l.length + k ≤ 4) : 0 ≤ yO l * zX k ∧ yO l * zX k < 4294967296:=by
 rw [← zkN];exact zkL (by simp;omega)
theorem zem (x : UInt8) (k : Nat) (h : k ≤ 3) : 0 ≤ (x.toNat : Int) * zX k ∧ (x.toNat : Int) * zX k < 4294967296:=by
 have:=je [x] k (by simp;omega)
 simpa [yO] using this
theorem zkO (f q : Bool) (b : List UInt8) (n : Int) (h1 : 1 ≤ n) (h2 : n ≤ 4) (hn : n ≤ b.length) (hb : b.length ≤ 4000000000000000000) : AEq Tryz.prog 159 [.sl f q (b.map zf),i64 n] [] (.tu [i64 (yO (b.take n.toNat)),i64 0]) []:=by
 refine zc Tryz.func159 rfl Tryz.ntmps159 (by simp) (fun hsc=>?_);simp only [Lf.enter,Nat.reduceAdd];clear hsc
 have hU:=True.intro
 repeat' (first|(refine goR ?_)|(refine za (fun K hK=>?_))|((refine zb (fun hcd=>?_) (fun hcd=>?_))<;>(try simp only [hcP] at hcd)<;>(try exact cdT))|(refine hK _ _ ?_;clear hK K))
 refine zo [6,7,18,19,20,21,22,23,24,25,26,27,28,29,30,31,32,33,34,35] (fun i : Nat=>[(6,i64 (yO (b.take i) * zX (n.toNat - i))),(7,i64 i)]) (fun _=>[]) (fun i=>i ≤ n.toNat) (fun i=>n.toNat - i) 0 (Nat.zero_le _) ?_ rfl ?_
 ·(refine ⟨⟨_, sT, ?_⟩, ⟨_, sT, ?_⟩, trivial⟩ <;> (try (first | exact zh)))
  exact zA (by simp [yO])
 ·intro i hi
  simp only [yn,List.map_cons,List.map_nil,List.cons_append,List.nil_append]
  have hbd:=je (b.take i) (n.toNat - i) (by simp;omega)
  by_cases hlt : i < n.toNat
  ·obtain ⟨x, hx⟩ : ∃ x, b[i]? = some x := ⟨b[i], List.getElem?_eq_getElem (by omega)⟩
   have hxb:=zem x (n.toNat - 1 - i) (by omega)
   have hxc : x.toNat < 256:=x.toNat_lt
   have hp:=vI (n.toNat - 1 - i) (by omega)
   have hs : yO (b.take (i + 1)) * zX (n.toNat - (i + 1)) = yO (b.take i) * zX (n.toNat - i) + (x.toNat : Int) * zX (n.toNat - 1 - i):=by
    rw [z9 hx,za9,show n.toNat - i = (n.toNat - 1 - i) + 1 by omega,show n.toNat - (i + 1) = n.toNat - 1 - i by omega]
    show _ = yO (b.take i) * (256 * zX (n.toNat - 1 - i)) + _
    rw [Int.add_mul,Int.mul_assoc]
   have hbd':=je (b.take (i + 1)) (n.toNat - (i + 1)) (by simp;omega)
   have hpn : (n - 1 - (i : Int)).toNat = n.toNat - 1 - i:=by omega
   have hU:=@hpn
   repeat' (first|(refine goR ?_)|(refine za (fun K hK=>?_))|(guard_target =~ PWp _ _ _ _ _ _ _;refine zda mixed (by kernel_rfl) ?_)|((refine zb (fun hcd=>?_) (fun hcd=>?_))<;>(try simp only [hcP] at hcd)<;>(try exact cdT))|(guard_target =~ dg _ _ _ _ _ _ _;first|(guard_target =~ dg _ _ _ (⟨_,.indexAddr _ _ _,_,_,_,none⟩ :: _) _ _ _;(refine yY (x:=_) (h:=zQ (h:=yP rfl (hK:=zi ⟨rfl,rfl⟩))) (hk:=?_)))|(guard_target =~ dg _ _ _ (⟨_,.call ⟨.value (.func 179),_,_⟩,_,_,_,none⟩ :: _) _ _ _;(refine yY (x:=_) (h:=zQ (h:=zd (f:=179) rfl Tryz.call179 (h:=AEq.pure' (hc:=jA _ (by omega) (by omega)) (hq:=zi ⟨rfl,rfl⟩)))) (hk:=?_))))|(refine hK _ _ ?_;clear hK K))
   refine ⟨i + 1,by omega,by omega,?_,arT,rfl⟩
   have hU:=True.intro
   (refine ⟨⟨_,sT,?_⟩,⟨_,sT,?_⟩,trivial⟩<;>(try (first|exact zh)))
   exact zA (by rw [hs])
  ·have he : i = n.toNat := by omega
   have h0 : yO (b.take i) * zX (n.toNat - i) = yO (b.take n.toNat):=by rw [he];simp [zX]
   repeat' (first|(refine goR ?_)|(refine za (fun K hK=>?_))|((refine zb (fun hcd=>?_) (fun hcd=>?_))<;>(try simp only [hcP] at hcd)<;>(try exact cdT))|((refine ze [] (by rw [Tryz.results159,Lf.yb]) (zu ?_ ?_) ?_)<;>(try (first|exact zh|exact stT)))|(refine hK _ _ ?_;clear hK K)|(apply_assumption (exfalso:=false) (symm:=false)))
   exact zA (by rw [h0])
theorem zkP (b : AV) (n : Int) (h : ¬ (1 ≤ n ∧ n ≤ 4)) : AEq Tryz.prog 159 [b,i64 n] [] (.tu [i64 0,i64 1]) []:=by
 refine zc Tryz.func159 rfl Tryz.ntmps159 (by simp) (fun hsc=>?_);simp only [Lf.enter,Nat.reduceAdd];clear hsc
 have hU:=True.intro
 repeat' (first|(refine goR ?_)|(refine za (fun K hK=>?_))|((refine zb (fun hcd=>?_) (fun hcd=>?_))<;>(try simp only [hcP] at hcd)<;>(try exact cdT))|((refine ze [] (by rw [Tryz.results159,Lf.yb]) (zu ?_ ?_) ?_)<;>(try (first|exact zh|exact stT)))|(refine hK _ _ ?_;clear hK K))
theorem zgh (f q : Bool) (b : List UInt8) (n : Int) (h1 : 1 ≤ n) (h2 : n ≤ 4) (hn : b.length < n) : AEq Tryz.prog 159 [.sl f q (b.map zf),i64 n] [] (.tu [i64 0,i64 3]) []:=by
 refine zc Tryz.func159 rfl Tryz.ntmps159 (by simp) (fun hsc=>?_);simp only [Lf.enter,Nat.reduceAdd];clear hsc
 have hU:=True.intro
 repeat' (first|(refine goR ?_)|(refine za (fun K hK=>?_))|((refine zb (fun hcd=>?_) (fun hcd=>?_))<;>(try simp only [hcP] at hcd)<;>(try exact cdT))|((refine ze [] (by rw [Tryz.results159,Lf.yb]) (zu ?_ ?_) ?_)<;>(try (first|exact zh|exact stT)))|(refine hK _ _ ?_;clear hK K))
theorem zen (f q : Bool) (b : List UInt8) (n : Int) (hb : b.length ≤ 4000000000000000000) : AEq Tryz.prog 159 [.sl f q (b.map zf),i64 n] [] (.tu [i64 (zJ b n),i64 (j9 b n)]) []:=by
 by_cases h : 1 ≤ n ∧ n ≤ 4
 ·by_cases h2 : n ≤ b.length
  ·have := zkO f q b n h.1 h.2 h2 hb
   rw [show zJ b n = yO (b.take n.toNat) from if_pos ⟨yg h,h2⟩,show j9 b n = 0 by simp only [j9,yg h];rw [if_neg (by simp),if_neg (by omega)]]
   exact this
  ·have := zgh f q b n h.1 h.2 (by omega)
   rw [show zJ b n = 0 from if_neg (fun x=>h2 x.2),show j9 b n = 3 by simp only [j9,yg h];rw [if_neg (by simp),if_pos (by omega)]]
   exact this
 ·have := zkP (.sl f q (b.map zf)) n h
  rw [show zJ b n = 0 from if_neg (fun x=>by rw [zbQ h] at x;cases x.1),show j9 b n = 1 by simp [j9,zbQ h]]
  exact this
end Go.Proofs.YtdalcgfnlbofdaaGreatDoor
namespace Go.Proofs.YtdalcgfnlbofdaaGreatDoor
open Go Go.Lf Go.Proofs
attribute [local irreducible] Lf.rg Lf.ro Lf.PWp Lf.SOp Lf.ACall Lf.Scoped Lf.dg
set_option maxRecDepth 20000
set_option maxHeartbeats 4000000
def byteAt (n : Int) (k : Nat) : UInt8:=UInt8.ofNat (n / zX k % 256).toNat
def beB (n : Int) : Nat → List UInt8
 | 0=>[]
 | k + 1=>byteAt n k :: beB n k
theorem zM (n : Int) : ∀ k, (beB n k).length = k
 | 0=>rfl
 | k + 1=>by simp [beB,zM n k]
theorem yS (n : Int) (k : Nat) : ((byteAt n k).toNat : Int) = n / zX k % 256:=by
 have h1:=Int.emod_nonneg (n / zX k) (b:=256) (by decide)
 have h2:=Int.emod_lt_of_pos (n / zX k) (b:=256) (by decide)
 unfold byteAt
 rw [UInt8.toNat_ofNat']
 omega
theorem zfs (n : Int) (h0 : 0 ≤ n) (k : Nat) (hk : k ≤ 3) (a : Int) (ha : a = 8 * k) : IntKind.u8.wrap (n.fdiv (2 ^ a.toNat)) = ((byteAt n k).toNat : Int):=by
 rw [yS]
 have e : ((2 : Int) ^ a.toNat) = zX k:=by
  rcases (show k = 0 ∨ k = 1 ∨ k = 2 ∨ k = 3 by omega) with h|h|h|h<;>subst h<;>subst ha<;>rfl
 rw [e,Int.fdiv_eq_ediv_of_nonneg _ (by have:=vI k (by omega);omega)]
 have h1:=Int.emod_nonneg (n / zX k) (b:=256) (by decide)
 have h2:=Int.emod_lt_of_pos (n / zX k) (b:=256) (by decide)
 unfold IntKind.wrap
 simp [IntKind.bits,IntKind.signed]
theorem jU (size : Int) (h1 : 1 ≤ size) (h2 : size ≤ 4) : zcC size = zX size.toNat - 1:=by
 rcases (show size = 1 ∨ size = 2 ∨ size = 3 ∨ size = 4 by omega) with h|h|h|h<;>subst h<;>rfl
def yl (n size : Int) : Int:=if okS size = false then 1 else if n < 0 ∨ zcC size < n then 5 else 0
def zay (b : List UInt8) (n size : Int) : List UInt8:=if yl n size = 0 then b ++ beB n size.toNat else []
theorem zoo (f q : Bool) (b : List UInt8) (n size : Int) (h : ¬ (1 ≤ size ∧ size ≤ 4)) : AEq Tryz.prog 171 [.sl f q (b.map zf),i64 n,i64 size] [] (.tu [.sl false false (List.map zf []),i64 1]) []:=by
 refine zc Tryz.func171 rfl Tryz.ntmps171 (by simp) (fun hsc=>?_);simp only [Lf.enter,Nat.reduceAdd];clear hsc
 have hU:=True.intro
 repeat' (first|(refine goR ?_)|(refine za (fun K hK=>?_))|((refine zb (fun hcd=>?_) (fun hcd=>?_))<;>(try simp only [hcP] at hcd)<;>(try exact cdT))|(refine zd (f:=194) rfl Tryz.call194 (h:=AEq.pure' (hc:=zmd _ (by assumption)) (hq:=?_)))|((refine ze [] (by rw [Tryz.results171,Lf.yb]) (zu ?_ ?_) ?_)<;>(try (first|exact zh|exact stT)))|(refine hK _ _ ?_;clear hK K))
theorem zim (f q : Bool) (b : List UInt8) (n size : Int) (h1 : 1 ≤ size) (h2 : size ≤ 4) (hn : n < 0 ∨ zcC size < n) : AEq Tryz.prog 171 [.sl f q (b.map zf),i64 n,i64 size] [] (.tu [.sl false false (List.map zf []),i64 5]) []:=by
 obtain ⟨m,hm⟩ : ∃ m,m = zcC size:=⟨_,rfl⟩
 have hm':=hm.symm
 rw [← hm] at hn
 refine zc Tryz.func171 rfl Tryz.ntmps171 (by simp) (fun hsc=>?_);simp only [Lf.enter,Nat.reduceAdd];clear hsc
 have hU:=@hm'
 repeat' (first|(refine goR ?_)|(refine za (fun K hK=>?_))|((refine zb (fun hcd=>?_) (fun hcd=>?_))<;>(try simp only [hcP] at hcd)<;>(try exact cdT))|(refine zd (f:=194) rfl Tryz.call194 (h:=AEq.pure' (hc:=za8 _ (by assumption) (by assumption)) (hq:=?_)))|((refine ze [] (by rw [Tryz.results171,Lf.yb]) (zu ?_ ?_) ?_)<;>(try (first|exact zh|exact stT)))|(refine hK _ _ ?_;clear hK K))
theorem zop (f q : Bool) (b : List UInt8) (n size : Int) (h1 : 1 ≤ size) (h2 : size ≤ 4) (h0 : 0 ≤ n) (hn : n ≤ zcC size) (hb : b.length ≤ 1000000000) : AEq Tryz.prog 171 [.sl f q (b.map zf),i64 n,i64 size] [] (.tu [.sl false false ((b ++ beB n size.toNat).map zf),i64 0]) []:=by
 have hpn : (zX size.toNat : Int) ≤ 4294967296:=(vI _ (by omega)).2
 have htl:=jU size h1 h2
 obtain ⟨m,hm⟩ : ∃ m,m = zcC size:=⟨_,rfl⟩
 have hm':=hm.symm
 rw [← hm] at hn htl
 refine zc Tryz.func171 rfl Tryz.ntmps171 (by simp) (fun hsc=>?_);simp only [Lf.enter,Nat.reduceAdd];clear hsc
 have hU:=@hm'
 repeat' (first|(refine goR ?_)|(refine za (fun K hK=>?_))|((refine zb (fun hcd=>?_) (fun hcd=>?_))<;>(try simp only [hcP] at hcd)<;>(try exact cdT))|(refine zd (f:=194) rfl Tryz.call194 (h:=AEq.pure' (hc:=za8 _ (by assumption) (by assumption)) (hq:=?_)))|(guard_target =~ SOp _ _ ⟨_,.makeSlice _ _ _,_,_,_,none⟩ _ _ _;refine zbD rfl (he:=eoT) (hK:=?_))|(guard_target =~ SOp _ _ ⟨_,.call ⟨.builtin .copy,_,_⟩,_,_,_,none⟩ _ _ _;refine zlD rfl (hK:=?_))|(refine hK _ _ ?_;clear hK K))
 refine zo [10, 11, 40, 41, 42, 43, 44, 45, 46, 47, 48, 49, 50, 51] (fun s : Int × List UInt8 × Nat => [(10, .row 0 s.2.2), (11, i64 s.1)]) (fun s => [.row s.2.2 5 1 ((b ++ s.2.1).map zf)])
  (fun s=>∃ k : Nat,s.1 = 8 * k ∧ k ≤ size.toNat ∧ s.2.1 ++ beB n k = beB n size.toNat) (fun s=>s.1.toNat) (8 * size,[],0) ⟨size.toNat,by simp;omega,Nat.le_refl _,rfl⟩ ?_ (by rw [List.append_nil]) ?_
 ·(refine ⟨⟨_,sT,?_⟩,⟨_,sT,?_⟩,trivial⟩<;>(try (first|exact zh)))
 ·rintro ⟨a, l, s⟩ ⟨k, ha, hk, hl⟩
  simp only [yn,List.map_cons,List.map_nil,List.cons_append,List.nil_append]
  dsimp only at ha hl ⊢
  have hll : l.length + k = size.toNat:=by have:=congrArg List.length hl;simpa [zM] using this
  by_cases h0k : k = 0
  ·subst h0k
   have hl' : l = beB n size.toNat:=by simpa [beB] using hl
   subst hl'
   have hU:=True.intro
   repeat' (first|(refine goR ?_)|(refine za (fun K hK=>?_))|((refine zb (fun hcd=>?_) (fun hcd=>?_))<;>(try simp only [hcP] at hcd)<;>(try exact cdT))|((refine ze [] (by rw [Tryz.results171,Lf.yb]) (zu ?_ ?_) ?_)<;>(try (first|exact zh|exact stT)))|(refine hK _ _ ?_;clear hK K)|(apply_assumption (exfalso:=false) (symm:=false)))
  ·obtain ⟨k', rfl⟩ : ∃ k', k = k' + 1 := ⟨k - 1, by omega⟩
   have hsb:=zfs n h0 k' (by omega) (a - 8) (by omega)
   have hU:=@hsb
   repeat' (first|(refine goS ?_)|(refine za (fun K hK=>?_))|((refine zb (fun hcd=>?_) (fun hcd=>?_))<;>(try simp only [hcP] at hcd)<;>(try exact cdT))|(refine hK _ _ ?_;clear hK K)|(dsimp only [Lf.yW,Lf.kf]))
   refine ⟨(a - 8,l ++ [byteAt n k'],s + 1),⟨k',by simp only [];omega,by omega,by simpa [beB] using hl⟩,by simp only [];omega,?_,arT,by simp [zf]⟩
   (refine ⟨⟨_,sT,?_⟩,⟨_,sT,?_⟩,trivial⟩<;>(try (first|exact zh)))
theorem zft (f q : Bool) (b : List UInt8) (n size : Int) (hb : b.length ≤ 1000000000) : AEq Tryz.prog 171 [.sl f q (b.map zf),i64 n,i64 size] [] (.tu [.sl false false ((zay b n size).map zf),i64 (yl n size)]) []:=by
 by_cases h : 1 ≤ size ∧ size ≤ 4
 ·by_cases h2 : n < 0 ∨ zcC size < n
  ·have e : yl n size = 5 := by simp only [yl, yg h]; rw [if_neg (by simp), if_pos h2]
   have e2 : zay b n size = []:=by simp [zay,e]
   rw [e,e2];exact zim f q b n size h.1 h.2 h2
  ·have e : yl n size = 0 := by simp only [yl, yg h]; rw [if_neg (by simp), if_neg h2]
   have e2 : zay b n size = b ++ beB n size.toNat:=by simp [zay,e]
   rw [e,e2];exact zop f q b n size h.1 h.2 (by omega) (by omega) hb
 ·have e : yl n size = 1 := by simp [yl, zbQ h]
  have e2 : zay b n size = []:=by simp [zay,e]
  rw [e,e2];exact zoo f q b n size h
theorem zeo (n : Int) (k : Nat) : IntKind.u8.wrap (n / zX k % 256) = ((byteAt n k).toNat : Int):=by
 rw [yS]
 have h1:=Int.emod_nonneg (n / zX k) (b:=256) (by decide)
 have h2:=Int.emod_lt_of_pos (n / zX k) (b:=256) (by decide)
 exact wu8 (by omega)
theorem zrP (n p : Int) (h : 0 ≤ n) (hp : 0 < p) : 0 ≤ n / p ∧ n / p ≤ n:=⟨Int.ediv_nonneg h (by omega),Int.ediv_le_self _ h⟩
theorem zin (n : Int) : ∀ (m i : Nat), i < m → (beB n m)[i]? = some (byteAt n (m - 1 - i))
 | 0,_,h=>by omega
 | m + 1,0,_=>rfl
 | m + 1,i + 1,h=>by
  have:=zin n m i (by omega)
  simp only [beB,List.getElem?_cons_succ,this]
  rw [show m + 1 - 1 - (i + 1) = m - 1 - i by omega]
theorem zkQ (f q : Bool) (b : List UInt8) (n size : Int) (h : ¬ (1 ≤ size ∧ size ≤ 4)) : AEq Tryz.prog 134 [.sl f q (b.map zf),i64 n,i64 size] [] (.tu [.sl false false (List.map zf []),i64 1]) []:=by
 refine zc Tryz.func134 rfl Tryz.ntmps134 (by simp) (fun hsc=>?_);simp only [Lf.enter,Nat.reduceAdd];clear hsc
 have hU:=True.intro
 repeat' (first|(refine goR ?_)|(refine za (fun K hK=>?_))|((refine zb (fun hcd=>?_) (fun hcd=>?_))<;>(try simp only [hcP] at hcd)<;>(try exact cdT))|((refine ze [] (by rw [Tryz.results134,Lf.yb]) (zu ?_ ?_) ?_)<;>(try (first|exact zh|exact stT)))|(refine hK _ _ ?_;clear hK K))
theorem zgi (f q : Bool) (b : List UInt8) (n size : Int) (h1 : 1 ≤ size) (h2 : size ≤ 4) (hn : n < 0 ∨ zcC size < n) : AEq Tryz.prog 134 [.sl f q (b.map zf),i64 n,i64 size] [] (.tu [.sl false false (List.map zf []),i64 5]) []:=by
 have htl:=jU size h1 h2
 rw [htl] at hn
 have hpd:=vI size.toNat (by omega)
 refine zc Tryz.func134 rfl Tryz.ntmps134 (by simp) (fun hsc=>?_);simp only [Lf.enter,Nat.reduceAdd];clear hsc
 have hU:=True.intro
 repeat' (first|(refine goR ?_)|(refine za (fun K hK=>?_))|((refine zb (fun hcd=>?_) (fun hcd=>?_))<;>(try simp only [hcP] at hcd)<;>(try exact cdT))|(guard_target =~ rg _ _ _ (⟨_,_,_,_,_,some _⟩ :: _) _ _ _;(first|refine zv gT (fun hcd=>?_) (fun hcd=>?_)|refine zp gT (fun hcd=>?_) (fun hcd=>?_))<;>(try simp only [hcd])<;>(try (simp only [Bool.not_eq_true',Bool.not_eq_false'] at hcd;try simp only [hcd]))<;>(refine vC (Γ2:=_) ewT ?_)<;>(try simp only [hcP] at hcd)<;>(try exact cdT))|(refine zd (f:=179) rfl Tryz.call179 (h:=AEq.pure' (hc:=jA _ aoT aoT) (hq:=?_)))|((refine ze [] (by rw [Tryz.results134,Lf.yb]) (zu ?_ ?_) ?_)<;>(try (first|exact zh|exact stT)))|(refine hK _ _ ?_;clear hK K))
theorem zkR (f q : Bool) (b : List UInt8) (n size : Int) (h1 : 1 ≤ size) (h2 : size ≤ 4) (h0 : 0 ≤ n) (hn : n ≤ zcC size) (hb : b.length ≤ 1000000000) : AEq Tryz.prog 134 [.sl f q (b.map zf),i64 n,i64 size] [] (.tu [.sl false false ((b ++ beB n size.toNat).map zf),i64 0]) []:=by
 have htl:=jU size h1 h2
 have hpd:=vI size.toNat (by omega)
 rw [htl] at hn
 refine zc Tryz.func134 rfl Tryz.ntmps134 (by simp) (fun hsc=>?_);simp only [Lf.enter,Nat.reduceAdd];clear hsc
 have hU:=True.intro
 repeat' (first|(refine goS ?_)|(refine za (fun K hK=>?_))|((refine zb (fun hcd=>?_) (fun hcd=>?_))<;>(try simp only [hcP] at hcd)<;>(try exact cdT))|(guard_target =~ rg _ _ _ (⟨_,_,_,_,_,some _⟩ :: _) _ _ _;(first|refine zv gT (fun hcd=>?_) (fun hcd=>?_)|refine zp gT (fun hcd=>?_) (fun hcd=>?_))<;>(try simp only [hcd])<;>(try (simp only [Bool.not_eq_true',Bool.not_eq_false'] at hcd;try simp only [hcd]))<;>(refine vC (Γ2:=_) ewT ?_)<;>(try simp only [hcP] at hcd)<;>(try exact cdT))|(refine zd (f:=179) rfl Tryz.call179 (h:=AEq.pure' (hc:=jA _ aoT aoT) (hq:=?_)))|(refine hK _ _ ?_;clear hK K))
 refine zo [8, 9, 27, 28, 29, 30, 31, 32, 33, 34, 35, 36, 37, 38, 39, 40, 41, 42, 43] (fun s : Nat × Nat => [(8, .row 0 s.2), (9, i64 s.1)]) (fun s => [.row s.2 5 1 ((b ++ (beB n size.toNat).take s.1).map zf)])
  (fun s=>s.1 ≤ size.toNat) (fun s=>size.toNat - s.1) (0,0) (Nat.zero_le _) ?_ (by simp) ?_
 ·(refine ⟨⟨_,sT,?_⟩,⟨_,sT,?_⟩,trivial⟩<;>(try (first|exact zh)))
 ·rintro ⟨i, s⟩ hi
  simp only [yn,List.map_cons,List.map_nil,List.cons_append,List.nil_append]
  dsimp only at hi ⊢
  have hbl:=zM n size.toNat
  by_cases hlt : i < size.toNat
  ·have hp := vI (size.toNat - 1 - i) (by omega)
   have hpn : (size - 1 - (i : Int)).toNat = size.toNat - 1 - i:=by omega
   have hw:=zeo n (size.toNat - 1 - i)
   have hd:=zrP n (zX (size.toNat - 1 - i)) h0 (by omega)
   have hg:=z9 (zin n size.toNat i hlt)
   have hU:=And.intro @hpn (@hw)
   repeat' (first|(refine goS ?_)|(refine za (fun K hK=>?_))|((refine zb (fun hcd=>?_) (fun hcd=>?_))<;>(try simp only [hcP] at hcd)<;>(try exact cdT))|(refine zd (f:=179) rfl Tryz.call179 (h:=AEq.pure' (hc:=jA _ (by omega) (by omega)) (hq:=?_)))|(refine hK _ _ ?_;clear hK K))
   refine ⟨(i + 1,s + 1),by simp only [];omega,by simp only [];omega,?_,arT,by simp [zf,hg]⟩
   (refine ⟨⟨_,sT,?_⟩,⟨_,sT,?_⟩,trivial⟩<;>(try (first|exact zh)))
  ·have he : i = size.toNat := by omega
   subst he
   repeat' (first|(refine goR ?_)|(refine za (fun K hK=>?_))|((refine zb (fun hcd=>?_) (fun hcd=>?_))<;>(try simp only [hcP] at hcd)<;>(try exact cdT))|((refine ze [] (by rw [Tryz.results134,Lf.yb]) (zu ?_ ?_) ?_)<;>(try (first|exact zh|exact stT)))|(refine hK _ _ ?_;clear hK K)|(apply_assumption (exfalso:=false) (symm:=false)))
   exact zA (by rw [List.take_of_length_le (by omega)])
theorem vr (f q : Bool) (b : List UInt8) (n size : Int) (hb : b.length ≤ 1000000000) : AEq Tryz.prog 134 [.sl f q (b.map zf),i64 n,i64 size] [] (.tu [.sl false false ((zay b n size).map zf),i64 (yl n size)]) []:=by
 by_cases h : 1 ≤ size ∧ size ≤ 4
 ·by_cases h2 : n < 0 ∨ zcC size < n
  ·have e : yl n size = 5 := by simp only [yl, yg h]; rw [if_neg (by simp), if_pos h2]
   have e2 : zay b n size = []:=by simp [zay,e]
   rw [e,e2];exact zgi f q b n size h.1 h.2 h2
  ·have e : yl n size = 0 := by simp only [yl, yg h]; rw [if_neg (by simp), if_neg h2]
   have e2 : zay b n size = b ++ beB n size.toNat:=by simp [zay,e]
   rw [e,e2];exact zkR f q b n size h.1 h.2 (by omega) (by omega) hb
 ·have e : yl n size = 1 := by simp [yl, zbQ h]
  have e2 : zay b n size = []:=by simp [zay,e]
  rw [e,e2];exact zkQ f q b n size h
end Go.Proofs.YtdalcgfnlbofdaaGreatDoor
namespace Go.Proofs.YtdalcgfnlbofdaaGreatDoor
open Go Go.Lf Go.Proofs
attribute [local irreducible] Lf.rg Lf.ro Lf.PWp Lf.SOp Lf.ACall Lf.Scoped Lf.dg
set_option maxRecDepth 20000
set_option maxHeartbeats 4000000
theorem zkS (b : List UInt8) (n size : Int) : (zay b n size).length ≤ b.length + 4:=by
 unfold zay
 split
 ·rename_i h
  have : okS size = true:=by
   cases ho : okS size with
   | true=>rfl
   | false=>rw [yl,if_pos ho] at h;omega
  simp only [okS,Bool.and_eq_true,decide_eq_true_eq] at this
  rw [List.length_append,zM];omega
 ·simp
end Go.Proofs.YtdalcgfnlbofdaaGreatDoor
