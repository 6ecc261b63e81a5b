import Derived.Test.YtdalcgfnlbofdaaGreatDoorTg
import Derived.Test.YtdalcgfnlbofdaaGreatDoorZ03
import Derived.Test.YtdalcgfnlbofdaaGreatDoorZ01
import Derived.Test.YtdalcgfnlbofdaaGreatDoorLc
import Derived.Test.YtdalcgfnlbofdaaGreatDoorTy
import Derived.ScopeJumps
set_option linter.unusedVariables false
set_option linter.unusedSimpArgs false
namespace Go.Proofs.YtdalcgfnlbofdaaGreatDoor
open Go Go.Lf Go.Proofs
attribute [local irreducible] Lf.rg Lf.ro Lf.PWp Lf.SOp Lf.ACall Lf.Scoped Lf.dg Lf.dw
set_option maxRecDepth 20000
set_option maxHeartbeats 4000000
def tR0 : List Int:=[13,23,28,28,28,28,28,28,28,24,30,28,28,30,28,28]
def tR1 : List Int:=[28,28,28,28,28,28,30,28,28,28,28,28,28,28,28,28]
def tR2 : List Int:=[6,10,10,12,13,6,8,11,10,10,8,11,8,6,6,6]
def tR3 : List Int:=[5,5,5,6,6,6,6,6,6,6,7,8,15,6,12,10]
def tR4 : List Int:=[13,6,7,7,7,7,7,7,7,7,7,7,7,7,7,7]
def tR5 : List Int:=[7,7,7,7,7,7,7,7,8,7,8,13,19,13,14,6]
def tR6 : List Int:=[15,5,6,5,6,5,6,6,6,5,7,7,6,6,6,5]
def tR7 : List Int:=[6,7,6,5,5,6,7,7,7,7,7,15,11,14,13,28]
def tR8 : List Int:=[20,22,20,20,22,22,22,23,22,23,23,23,23,23,24,23]
def tR9 : List Int:=[24,24,22,23,24,23,23,23,23,21,22,23,22,23,23,24]
def zvS : List Int:=[22,21,20,22,22,23,23,21,23,22,22,24,21,22,23,23]
def zvT : List Int:=[21,21,22,21,23,22,23,23,20,22,22,22,23,22,22,23]
def zvU : List Int:=[26,26,20,19,22,23,22,25,26,26,26,27,27,26,24,25]
def zvV : List Int:=[19,21,26,27,27,26,27,24,21,21,26,26,28,27,27,27]
def zvW : List Int:=[20,24,20,21,22,21,21,23,22,22,25,25,24,24,26,23]
def zvX : List Int:=[26,27,26,26,27,27,27,27,27,28,27,27,27,27,27,26]
def zvY : List Int:=[30]
def zjo : Nat → List Int
 | 0=>tR0
 | 1=>tR1
 | 2=>tR2
 | 3=>tR3
 | 4=>tR4
 | 5=>tR5
 | 6=>tR6
 | 7=>tR7
 | 8=>tR8
 | 9=>tR9
 | 10=>zvS
 | 11=>zvT
 | 12=>zvU
 | 13=>zvV
 | 14=>zvW
 | 15=>zvX
 | _=>zvY
def lensT : List Int:=(List.range 257).map fun s : Nat=>szI (s : Int)
theorem zhC : ∀ i : Fin 17,lensT.take (16 * i.val) ++ zjo i.val = lensT.take (16 * (i.val + 1)):=by decide +kernel
theorem zhD : lensT.take (16 * 17) = lensT:=by decide +kernel
theorem za2 : lensT.length = 257:=by simp [lensT]
theorem zcl {s : Nat} (h : s < 257) : lensT[s]? = some (szI (s : Int)):=by
 unfold lensT;rw [List.getElem?_map,List.getElem?_range h];rfl
theorem znC : ∀ s : Fin 257,(zjo (s.val / 16))[s.val % 16]? = some (szI (s.val : Int)):=by decide +kernel
theorem zkl : ∀ i : Fin 17,(zjo i.val).length ≤ 16 ∧ (zjo i.val).map y8 ≠ []:=by
 intro i;exact ⟨by revert i;decide +kernel,by intro h;have h2:=congrArg List.length h;rw [List.length_map] at h2;revert h2;revert i;decide +kernel⟩
theorem zlN (k : Nat) (hk : k ≤ 16) : AEq Tryz.prog 236 [i64 (k : Int)] [] (.sl true false ((zjo k).map y8)) []:=by
 obtain rfl|rfl|rfl|rfl|rfl|rfl|rfl|rfl|rfl|rfl|rfl|rfl|rfl|rfl|rfl|rfl|rfl : k = 0 ∨ k = 1 ∨ k = 2 ∨ k = 3 ∨ k = 4 ∨ k = 5 ∨ k = 6 ∨ k = 7 ∨ k = 8 ∨ k = 9 ∨ k = 10 ∨ k = 11 ∨ k = 12 ∨ k = 13 ∨ k = 14 ∨ k = 15 ∨ k = 16:=by omega
 all_goals (refine zc Tryz.func236 rfl Tryz.ntmps236 (by simp) (fun hsc=>?_);simp only [Lf.enter,Nat.reduceAdd];clear hsc)
 all_goals (have hU:=True.intro)
 all_goals (repeat' (first|(refine goR ?_)|(refine za (fun K hK=>?_))|((refine zb (fun hcd=>?_) (fun hcd=>?_))<;>(try simp only [hcP] at hcd)<;>(try exact cdT))|(guard_target =~ SOp _ _ ⟨_,.buildSlice _ _ _,_,_,_,none⟩ _ _ _;refine zF (xs:=List.map (y8) (tR0)) rfl (he:=eoT) (hc:=hcT) (hK:=?_))|(guard_target =~ SOp _ _ ⟨_,.buildSlice _ _ _,_,_,_,none⟩ _ _ _;refine zF (xs:=List.map (y8) (tR1)) rfl (he:=eoT) (hc:=hcT) (hK:=?_))|(guard_target =~ SOp _ _ ⟨_,.buildSlice _ _ _,_,_,_,none⟩ _ _ _;refine zF (xs:=List.map (y8) (tR2)) rfl (he:=eoT) (hc:=hcT) (hK:=?_))|(guard_target =~ SOp _ _ ⟨_,.buildSlice _ _ _,_,_,_,none⟩ _ _ _;refine zF (xs:=List.map (y8) (tR3)) rfl (he:=eoT) (hc:=hcT) (hK:=?_))|(guard_target =~ SOp _ _ ⟨_,.buildSlice _ _ _,_,_,_,none⟩ _ _ _;refine zF (xs:=List.map (y8) (tR4)) rfl (he:=eoT) (hc:=hcT) (hK:=?_))|(guard_target =~ SOp _ _ ⟨_,.buildSlice _ _ _,_,_,_,none⟩ _ _ _;refine zF (xs:=List.map (y8) (tR5)) rfl (he:=eoT) (hc:=hcT) (hK:=?_))|(guard_target =~ SOp _ _ ⟨_,.buildSlice _ _ _,_,_,_,none⟩ _ _ _;refine zF (xs:=List.map (y8) (tR6)) rfl (he:=eoT) (hc:=hcT) (hK:=?_))|(guard_target =~ SOp _ _ ⟨_,.buildSlice _ _ _,_,_,_,none⟩ _ _ _;refine zF (xs:=List.map (y8) (tR7)) rfl (he:=eoT) (hc:=hcT) (hK:=?_))|(guard_target =~ SOp _ _ ⟨_,.buildSlice _ _ _,_,_,_,none⟩ _ _ _;refine zF (xs:=List.map (y8) (tR8)) rfl (he:=eoT) (hc:=hcT) (hK:=?_))|(guard_target =~ SOp _ _ ⟨_,.buildSlice _ _ _,_,_,_,none⟩ _ _ _;refine zF (xs:=List.map (y8) (tR9)) rfl (he:=eoT) (hc:=hcT) (hK:=?_))|(guard_target =~ SOp _ _ ⟨_,.buildSlice _ _ _,_,_,_,none⟩ _ _ _;refine zF (xs:=List.map (y8) (zvS)) rfl (he:=eoT) (hc:=hcT) (hK:=?_))|(guard_target =~ SOp _ _ ⟨_,.buildSlice _ _ _,_,_,_,none⟩ _ _ _;refine zF (xs:=List.map (y8) (zvT)) rfl (he:=eoT) (hc:=hcT) (hK:=?_))|(guard_target =~ SOp _ _ ⟨_,.buildSlice _ _ _,_,_,_,none⟩ _ _ _;refine zF (xs:=List.map (y8) (zvU)) rfl (he:=eoT) (hc:=hcT) (hK:=?_))|(guard_target =~ SOp _ _ ⟨_,.buildSlice _ _ _,_,_,_,none⟩ _ _ _;refine zF (xs:=List.map (y8) (zvV)) rfl (he:=eoT) (hc:=hcT) (hK:=?_))|(guard_target =~ SOp _ _ ⟨_,.buildSlice _ _ _,_,_,_,none⟩ _ _ _;refine zF (xs:=List.map (y8) (zvW)) rfl (he:=eoT) (hc:=hcT) (hK:=?_))|(guard_target =~ SOp _ _ ⟨_,.buildSlice _ _ _,_,_,_,none⟩ _ _ _;refine zF (xs:=List.map (y8) (zvX)) rfl (he:=eoT) (hc:=hcT) (hK:=?_))|(guard_target =~ SOp _ _ ⟨_,.buildSlice _ _ _,_,_,_,none⟩ _ _ _;refine zF (xs:=List.map (y8) (zvY)) rfl (he:=eoT) (hc:=hcT) (hK:=?_))|((refine ze [] (by rw [Tryz.results236,Lf.zt]) (zj ?_) ?_)<;>(try (first|exact zh|exact stT)))|(refine hK _ _ ?_;clear hK K)))
theorem zAG (n : Int) (h0 : 0 ≤ n) (h1 : n ≤ 16) : AEq Tryz.prog 236 [i64 n] [] (.sl true false ((zjo n.toNat).map y8)) []:=by
 obtain ⟨k,rfl⟩ : ∃ k : Nat,n = k:=⟨n.toNat,by omega⟩
 rw [Int.toNat_natCast]
 exact zlN k (by omega)
attribute [local irreducible] zjo szI lensT kV ordN cntN codeN
theorem znD (s : Nat) (hs : s < 257) : AEq Tryz.prog 231 [i64 (s : Int)] [] (i64 (szI (s : Int))) []:=by
 have hr:=znC ⟨s,hs⟩
 dsimp only at hr
 have e1 : ((s : Int) / 16).toNat = s / 16:=by omega
 have e2 : ((s : Int) % 16).toNat = s % 16:=by omega
 have hrl : (zjo (s / 16))[s % 16]? = some (szI (s : Int)):=hr
 have hll : s % 16 < (zjo (s / 16)).length:=(List.getElem?_eq_some_iff.1 hr).1
 have hz1 : (s : Int) ≤ 9223372036854775807:=by omega
 have hs0 : ((s : Int) < 0) = False:=by simp
 have hs1 : decide ((256 : Int) < (s : Int)) = false:=decide_eq_false (by omega)
 refine zc Tryz.func231 rfl Tryz.ntmps231 (by simp) (fun hsc=>?_);simp only [Lf.enter,Nat.reduceAdd];clear hsc
 have hU:=And.intro @e1 ( And.intro @e2 ( And.intro @hs0 (@hs1)))
 repeat' (first|(refine goR ?_)|(refine za (fun K hK=>?_))|((refine zb (fun hcd=>?_) (fun hcd=>?_))<;>(try simp only [hcP] at hcd)<;>(try exact cdT))|(refine zd (f:=236) rfl Tryz.call236 (h:=AEq.pure' agT (zAG _ (by omega) (by omega)) (hq:=?_)))|((refine ze [] (by rw [Tryz.results231,Lf.zt]) (zj ?_) ?_)<;>(try (first|exact zh|exact stT)))|(refine hK _ _ ?_;clear hK K))
theorem ze3 : AEq Tryz.prog 217 [] [] (.sl false false (lensT.map y8)) []:=by
 refine zc Tryz.func217 rfl Tryz.ntmps217 (by simp) (fun hsc=>?_);simp only [Lf.enter,Nat.reduceAdd];clear hsc
 have hU:=True.intro
 repeat' (first|(refine goR ?_)|(refine za (fun K hK=>?_))|(refine hK _ _ ?_;clear hK K))
 refine yp 1 3 1 (by decide) (by rfl) rfl rfl ?_
 refine zU [1,2,3,4,5,6,7,8,9,10] [0] (fun i : Nat=>[(2,i64 i),(1,.row 0 i)]) (fun i=>[.row i 3 1 ((lensT.take (16 * i)).map y8)]) (fun i=>i ≤ 17) (fun i=>17 - i) 0 (fun _=>rfl) rfl rfl (by decide) ?_ (by rw [Nat.mul_zero,List.take_zero];rfl) (by intro s i x h;simp only [List.mem_cons,Prod.mk.injEq,List.not_mem_nil,or_false] at h;rcases h with ⟨rfl,_⟩|⟨rfl,_⟩<;>decide) ?_
 ·(refine ⟨⟨_,sT,?_⟩,⟨_,sT,?_⟩,trivial⟩<;>(try (first|exact zh)))
 ·rintro i hi
  simp only [yn,List.map_cons,List.map_nil,List.cons_append,List.nil_append]
  by_cases hlt : i < 17
  ·have hrow := zhC ⟨i, hlt⟩
   obtain ⟨hrl,hne⟩:=zkl ⟨i,hlt⟩
   dsimp only at hrow hrl hne
   have htl : (lensT.take (16 * i)).length ≤ 257:=by rw [List.length_take,za2];omega
   have hfm : List.map y8 (lensT.take (16 * i)) ++ List.map y8 (zjo i) = List.map y8 (lensT.take (16 * (i + 1))):=by rw [← List.map_append,hrow]
   have hU:=@hfm
   repeat' (first|(refine goS ?_)|(refine za (fun K hK=>?_))|((refine zb (fun hcd=>?_) (fun hcd=>?_))<;>(try simp only [hcP] at hcd)<;>(try exact cdT))|(refine zd (f:=236) rfl Tryz.call236 (h:=AEq.pure' agT (zlN _ (by omega)) (hq:=?_)))|(refine hK _ _ ?_;clear hK K))
   refine ⟨i + 1,by omega,by omega,?_,arT,srT⟩
   (refine ⟨⟨_,sT,?_⟩,⟨_,sT,?_⟩,trivial⟩<;>(try (first|exact zh)))
  ·have hi7 : i = 17 := by omega
   subst hi7
   have hall:=zhD
   have hU:=@hall
   repeat' (first|(refine goR ?_)|(refine za (fun K hK=>?_))|((refine zb (fun hcd=>?_) (fun hcd=>?_))<;>(try simp only [hcP] at hcd)<;>(try exact cdT))|((refine ze [] (by rw [Tryz.results217,Lf.zt]) (zj ?_) ?_)<;>(try (first|exact zh|exact stT)))|(refine hK _ _ ?_;clear hK K)|(apply_assumption (exfalso:=false) (symm:=false)))
theorem zq9 : AEq Tryz.prog 235 [] [] (.sl false false ((ordN 31).map j3)) []:=by
 have hll:=za2
 refine zc Tryz.func235 rfl Tryz.ntmps235 (by simp) (fun hsc=>?_);simp only [Lf.enter,Nat.reduceAdd];clear hsc
 have hU:=True.intro
 repeat' (first|(refine goR ?_)|(refine za (fun K hK=>?_))|(refine zd (f:=217) rfl Tryz.call217 (h:=AEq.pure' agT ze3 (hq:=?_)))|(refine hK _ _ ?_;clear hK K))
 refine yp 2 3 1 (by decide) (by rfl) rfl rfl ?_
 refine zU [2,3,4,6,7,8,9,10,11,12,13,14,15,16,17,18,19,20,21,22,23] [0] (fun n : Nat=>[(3,i64 n),(2,.row 0 (ordN n).length)]) (fun n=>[.row (ordN n).length 3 1 ((ordN n).map j3)]) (fun n=>1 ≤ n ∧ n ≤ 31) (fun n=>31 - n) 1 (fun _=>rfl) rfl rfl ⟨by decide,by decide⟩ ?_ (by rw [zas];rfl) (by intro s i x h;simp only [List.mem_cons,Prod.mk.injEq,List.not_mem_nil,or_false] at h;rcases h with ⟨rfl,_⟩|⟨rfl,_⟩<;>decide) ?_
 ·(refine ⟨⟨_, sT, ?_⟩, ⟨_, sT, ?_⟩, trivial⟩ <;> (try (first | exact zh)))
  all_goals exact zA (by rw [zas];rfl)
 ·rintro n ⟨h1, h31⟩
  simp only [yn,List.map_cons,List.map_nil,List.cons_append,List.nil_append]
  by_cases hlt : n < 31
  ·have hol := ze0 ⟨n, by omega⟩
   dsimp only at hol
   repeat' (first|(refine goR ?_)|(refine za (fun K hK=>?_))|((refine zb (fun hcd=>?_) (fun hcd=>?_))<;>(try simp only [hcP] at hcd)<;>(try exact cdT))|(refine hK _ _ ?_;clear hK K))
   refine zU [2,4,10,11,12,13,14,15,16,17,18,19,20,21,22,23] [0] (fun k : Nat=>[(4,i64 k),(2,.row 0 ((ordN n).length + (kV n k).length))]) (fun k=>[.row ((ordN n).length + (kV n k).length) 3 1 ((ordN n ++ kV n k).map j3)]) (fun k=>k ≤ 257) (fun k=>257 - k) 0 (fun _=>rfl) rfl rfl (Nat.zero_le _) ?_ (by rw [zhw,List.append_nil];rfl) (by intro s i x h;simp only [List.mem_cons,Prod.mk.injEq,List.not_mem_nil,or_false] at h;rcases h with ⟨rfl,_⟩|⟨rfl,_⟩<;>decide) ?_
   ·(refine ⟨⟨_, sT, ?_⟩, ⟨_, sT, ?_⟩, trivial⟩ <;> (try (first | exact zh)))
    all_goals exact zA (by rw [zhw];rfl)
   ·rintro k hk
    simp only [yn,List.map_cons,List.map_nil,List.cons_append,List.nil_append]
    by_cases hlt3 : k < 257
    ·have hsl := zhv n k
     have hat:=zcl hlt3
     by_cases hsz : szI (k : Int) = (n : Int)
     ·obtain ⟨st, hst⟩ : ∃ st, (ordN n).length + (kV n k).length = st := ⟨_, rfl⟩
      rw [hst]
      have hol2 : (ordN n ++ kV n k).length = st:=by rw [List.length_append];exact hst
      have hap : List.map j3 (ordN n ++ kV n k) ++ [[AV.lit (.int .i64 (k : Int))]] = List.map j3 (ordN n ++ kV n (k + 1)):=by
       rw [vq,if_pos hsz,← List.append_assoc,List.map_append (l₁:=ordN n ++ kV n k)];rfl
      have hst2 : (ordN n).length + (kV n (k + 1)).length = st + 1:=by rw [vq,if_pos hsz,List.length_append];simp;omega
      have hU:=And.intro @hap (@hsz)
      repeat' (first|(refine goS ?_)|(refine za (fun K hK=>?_))|((refine zb (fun hcd=>?_) (fun hcd=>?_))<;>(try simp only [hcP] at hcd)<;>(try exact cdT))|(refine hK _ _ ?_;clear hK K))
      refine ⟨k + 1,by omega,by omega,?_,arT,?_⟩
      ·rw [hst2]
       (refine ⟨⟨_,sT,?_⟩,⟨_,sT,?_⟩,trivial⟩<;>(try (first|exact zh)))
      ·rw [hst2]
       first|rfl|(simp only [hap,go_sem];done)|trace_state
     ·have hst2 : (ordN n).length + (kV n (k + 1)).length = (ordN n).length + (kV n k).length := by rw [vq, if_neg hsz, List.append_nil]
      have hsy : kV n (k + 1) = kV n k:=by rw [vq,if_neg hsz,List.append_nil]
      repeat' (first|(refine goR ?_)|(refine za (fun K hK=>?_))|((refine zb (fun hcd=>?_) (fun hcd=>?_))<;>(try simp only [hcP] at hcd)<;>(try exact cdT))|(refine hK _ _ ?_;clear hK K))
      refine ⟨k + 1,by omega,by omega,?_,arT,?_⟩
      ·rw [hsy]
       (refine ⟨⟨_,sT,?_⟩,⟨_,sT,?_⟩,trivial⟩<;>(try (first|exact zh)))
      ·rw [hsy]
       first|rfl|(simp only [go_sem];done)|trace_state
    ·have hk7 : k = 257 := by omega
     subst hk7
     have hon : (ordN (n + 1)).length = (ordN n).length + (kV n 257).length:=by rw [za1,List.length_append]
     repeat' (first|(refine goR ?_)|(refine za (fun K hK=>?_))|((refine zb (fun hcd=>?_) (fun hcd=>?_))<;>(try simp only [hcP] at hcd)<;>(try exact cdT))|(refine hK _ _ ?_;clear hK K)|(apply_assumption (exfalso:=false) (symm:=false)))
     refine ⟨n + 1,⟨by omega,by omega⟩,by omega,?_,arT,?_⟩
     ·rw [hon]
      (refine ⟨⟨_,sT,?_⟩,⟨_,sT,?_⟩,trivial⟩<;>(try (first|exact zh)))
     ·rw [hon, za1]
      first|rfl|(simp only [go_sem];done)|trace_state
  ·have hn31 : n = 31 := by omega
   subst hn31
   repeat' (first|(refine goR ?_)|(refine za (fun K hK=>?_))|((refine zb (fun hcd=>?_) (fun hcd=>?_))<;>(try simp only [hcP] at hcd)<;>(try exact cdT))|((refine ze [] (by rw [Tryz.results235,Lf.zt]) (zj ?_) ?_)<;>(try (first|exact zh|exact stT)))|(refine hK _ _ ?_;clear hK K)|(apply_assumption (exfalso:=false) (symm:=false)))
end Go.Proofs.YtdalcgfnlbofdaaGreatDoor
namespace Go.Proofs.YtdalcgfnlbofdaaGreatDoor
open Go Go.Lf Go.Proofs
attribute [local irreducible] Lf.rg Lf.ro Lf.PWp Lf.SOp Lf.ACall Lf.Scoped Lf.dg Lf.dw
set_option maxRecDepth 20000
set_option maxHeartbeats 4000000
def symT : List Nat:=[48,49,50,97,99,101,105,111,115,116,32,37,45,46,47,51,52,53,54,55,56,57,61,65,95,98,100,102,103,104,108,109,110,112,114,117,58,66,67,68,69,70,71,72,73,74,75,76,77,78,79,80,81,82,83,84,85,86,87,89,106,107,113,118,119,120,121,122,38,42,44,59,88,90,33,34,40,41,63,39,43,124,35,62,0,36,64,91,93,126,94,125,60,96,123,92,195,208,128,130,131,162,184,194,224,226,153,161,167,172,176,177,179,209,216,217,227,229,230,129,132,133,134,136,146,154,156,160,163,164,169,170,173,178,181,185,186,187,189,190,196,198,228,232,233,1,135,137,138,139,140,141,143,147,149,150,151,152,155,157,158,165,166,168,174,175,180,182,183,188,191,197,231,239,9,142,144,145,148,159,171,206,215,225,236,237,199,207,234,235,192,193,200,201,202,205,210,213,218,219,238,240,242,243,255,203,204,211,212,214,221,222,223,241,244,245,246,247,248,250,251,252,253,254,2,3,4,5,6,7,8,11,12,14,15,16,17,18,19,20,21,23,24,25,26,27,28,29,30,31,127,220,249,10,13,22,256]
def lenO : List Nat:=[5,5,5,5,5,5,5,5,5,5,6,6,6,6,6,6,6,6,6,6,6,6,6,6,6,6,6,6,6,6,6,6,6,6,6,6,7,7,7,7,7,7,7,7,7,7,7,7,7,7,7,7,7,7,7,7,7,7,7,7,7,7,7,7,7,7,7,7,8,8,8,8,8,8,10,10,10,10,10,11,11,11,12,12,13,13,13,13,13,13,14,14,15,15,15,19,19,19,20,20,20,20,20,20,20,20,21,21,21,21,21,21,21,21,21,21,21,21,21,22,22,22,22,22,22,22,22,22,22,22,22,22,22,22,22,22,22,22,22,22,22,22,22,22,22,23,23,23,23,23,23,23,23,23,23,23,23,23,23,23,23,23,23,23,23,23,23,23,23,23,23,23,23,23,24,24,24,24,24,24,24,24,24,24,24,24,25,25,25,25,26,26,26,26,26,26,26,26,26,26,26,26,26,26,26,27,27,27,27,27,27,27,27,27,27,27,27,27,27,27,27,27,27,27,28,28,28,28,28,28,28,28,28,28,28,28,28,28,28,28,28,28,28,28,28,28,28,28,28,28,28,28,28,30,30,30,30]
def codO : List Int:=[0,1,2,3,4,5,6,7,8,9,20,21,22,23,24,25,26,27,28,29,30,31,32,33,34,35,36,37,38,39,40,41,42,43,44,45,92,93,94,95,96,97,98,99,100,101,102,103,104,105,106,107,108,109,110,111,112,113,114,115,116,117,118,119,120,121,122,123,248,249,250,251,252,253,1016,1017,1018,1019,1020,2042,2043,2044,4090,4091,8184,8185,8186,8187,8188,8189,16380,16381,32764,32765,32766,524272,524273,524274,1048550,1048551,1048552,1048553,1048554,1048555,1048556,1048557,2097116,2097117,2097118,2097119,2097120,2097121,2097122,2097123,2097124,2097125,2097126,2097127,2097128,4194258,4194259,4194260,4194261,4194262,4194263,4194264,4194265,4194266,4194267,4194268,4194269,4194270,4194271,4194272,4194273,4194274,4194275,4194276,4194277,4194278,4194279,4194280,4194281,4194282,4194283,8388568,8388569,8388570,8388571,8388572,8388573,8388574,8388575,8388576,8388577,8388578,8388579,8388580,8388581,8388582,8388583,8388584,8388585,8388586,8388587,8388588,8388589,8388590,8388591,8388592,8388593,8388594,8388595,8388596,16777194,16777195,16777196,16777197,16777198,16777199,16777200,16777201,16777202,16777203,16777204,16777205,33554412,33554413,33554414,33554415,67108832,67108833,67108834,67108835,67108836,67108837,67108838,67108839,67108840,67108841,67108842,67108843,67108844,67108845,67108846,134217694,134217695,134217696,134217697,134217698,134217699,134217700,134217701,134217702,134217703,134217704,134217705,134217706,134217707,134217708,134217709,134217710,134217711,134217712,268435426,268435427,268435428,268435429,268435430,268435431,268435432,268435433,268435434,268435435,268435436,268435437,268435438,268435439,268435440,268435441,268435442,268435443,268435444,268435445,268435446,268435447,268435448,268435449,268435450,268435451,268435452,268435453,268435454,1073741820,1073741821,1073741822,1073741823]
theorem znE : ordN 31 = symT:=by decide +kernel
theorem ze4 : symT.length = 257:=by decide +kernel
theorem znF : ∀ s ∈ symT,s < 257:=by decide +kernel
theorem znG : symT.map (fun s : Nat=>szI (s : Int)) = lenO.map (fun n : Nat=>(n : Int)):=by decide +kernel
def ze5 : Nat → List Int
 | 0=>List.replicate 257 0
 | i + 1=>(ze5 i).set (symT.getD i 0) (codO.getD i 0)
def cdB : Nat → Int
 | 0=>0
 | i + 1=>codO.getD i 0
theorem cdB_0 : cdB 0 = 0:=rfl
theorem znH (i : Nat) : cdB (i + 1) = codO.getD i 0:=rfl
def codesT : List Int:=(List.range 257).map csI
theorem zkm : ze5 257 = codesT:=by decide +kernel
theorem ze6 : ∀ i, (ze5 i).length = 257
 | 0=>by simp [ze5]
 | i + 1=>by rw [ze5,List.length_set,ze6 i]
theorem znI : ∀ i : Fin 256,lenO.getD i.val 0 ≤ lenO.getD (i.val + 1) 0 ∧ lenO.getD (i.val + 1) 0 ≤ 30:=by decide +kernel
theorem znJ : ∀ i : Fin 256,codO.getD (i.val + 1) 0 = (codO.getD i.val 0 + 1) * 2 ^ (lenO.getD (i.val + 1) 0 - lenO.getD i.val 0):=by decide +kernel
theorem zhE : ∀ i : Fin 257,0 ≤ codO.getD i.val 0 ∧ codO.getD i.val 0 ≤ 1073741823:=by decide +kernel
theorem zra : codO.getD 0 0 = 0:=by decide +kernel
theorem zkn : lenO.length = 257:=by decide +kernel
theorem zlO {i : Nat} (h : i < 257) : ∃ s,symT[i]? = some s ∧ s < 257 ∧ symT.getD i 0 = s ∧ szI (s : Int) = (lenO.getD i 0 : Nat):=by
 have hl : i < symT.length:=by rw [ze4];exact h
 refine ⟨symT[i],List.getElem?_eq_getElem hl,znF _ (List.getElem_mem hl),?_,?_⟩
 ·rw [List.getD_eq_getElem?_getD,List.getElem?_eq_getElem hl];rfl
 ·have e := congrArg (fun l : List Int => l[i]?) znG
  have hl2 : i < lenO.length:=by rw [zkn];exact h
  rw [List.getElem?_map,List.getElem?_map,List.getElem?_eq_getElem hl,List.getElem?_eq_getElem hl2] at e
  rw [List.getD_eq_getElem?_getD,List.getElem?_eq_getElem hl2]
  exact Option.some.inj e
theorem zrb : ∀ k : Fin 32,(1 : Int) ≤ 2 ^ k.val ∧ (2 : Int) ^ k.val ≤ 2147483648:=by decide +kernel
theorem zuB {x y z : Int} {c a n : Nat} (h : (x + 1) * 2 ^ (n - a) = z) (hup : y = (x + 1) * 2 ^ (c - a)) (hy : 0 ≤ y ∧ y ≤ 1073741823) (hx : 0 ≤ x) (h1 : a ≤ n) (h2 : n ≤ c) : 0 ≤ z ∧ z ≤ 2147483648:=by
 have p1 : (1 : Int) ≤ 2 ^ (n - a):=Int.pow_pos (by decide)
 have p2 : (1 : Int) ≤ 2 ^ (c - n):=Int.pow_pos (by decide)
 have e : (2 : Int) ^ (c - a) = 2 ^ (n - a) * 2 ^ (c - n):=by rw [← Int.pow_add];congr 1;omega
 have hz0 : 0 ≤ z:=by rw [← h];exact Int.mul_nonneg (by omega) (by omega)
 rw [e,← Int.mul_assoc,h] at hup
 have : z * 1 ≤ z * 2 ^ (c - n):=Int.mul_le_mul_of_nonneg_left p2 hz0
 omega
theorem znK : AEq Tryz.prog 235 [] [] (.sl false false (symT.map j3)) []:=by
 have h:=zq9
 rw [znE] at h
 exact h
attribute [local irreducible] szI lensT symT codO lenO ze5 codesT csI cdB
theorem zrc : AEq Tryz.prog 216 [] [] (.sl false false (codesT.map y8)) []:=by
 have hsl:=ze4
 have hll:=za2
 have hz : List.replicate 257 [AV.lit (.int .i64 0)] = List.map y8 (ze5 0):=by with_unfolding_all rfl
 refine zc Tryz.func216 rfl Tryz.ntmps216 (by simp) (fun hsc=>?_);simp only [Lf.enter,Nat.reduceAdd];clear hsc
 have hU:=@hz
 repeat' (first|(refine goR ?_)|(refine za (fun K hK=>?_))|(refine zd (f:=235) rfl Tryz.call235 (h:=AEq.pure' agT znK (hq:=?_)))|(guard_target =~ SOp _ _ ⟨_,.makeSlice _ _ _,_,_,_,none⟩ _ _ _;refine zbD rfl (he:=eoT) (hK:=?_))|(refine zd (f:=217) rfl Tryz.call217 (h:=AEq.pure' agT ze3 (hq:=?_)))|(refine hK _ _ ?_;clear hK K))
 refine zo [4,5,6,10,11,12,13,14,15,16,17,18,19,20,21,22,23,24,25,26,27,28,29,30,31,32,33,34,35,36,37,38,39,40,41,42,43,44,45,46,47] (fun i : Nat=>[(5,i64 i),(4,i64 (cdB i))]) (fun i=>[.row 0 3 1 ((ze5 i).map y8)]) (fun i=>i ≤ 257) (fun i=>257 - i) 0 (Nat.zero_le _) ?_ ?_ ?_
 ·have hU := True.intro
  (refine ⟨⟨_,sT,?_⟩,⟨_,sT,?_⟩,trivial⟩<;>(try (first|exact zh)))
  all_goals exact zT cdB_0.symm
 ·first|rfl|(rw [← hz];rfl)|trace_state
 ·rintro i hi
  simp only [yn,List.map_cons,List.map_nil,List.cons_append,List.nil_append]
  by_cases hlt : i < 257
  ·obtain ⟨s, hs, hs1, hs2, hs3⟩ := zlO hlt
   have hsz:=zcl hs1
   have hol:=ze6 i
   have hob:=zhE ⟨i,hlt⟩
   dsimp only at hob
   obtain ⟨v0,hv0⟩ : ∃ v0,(ze5 i)[s]? = some v0:=⟨(ze5 i)[s],List.getElem?_eq_getElem (by omega)⟩
   have hset : (List.map y8 (ze5 i)).set s [AV.lit (.int .i64 (codO.getD i 0))] = List.map y8 (ze5 (i + 1)):=by
    rw [ze5,hs2,List.map_set];rfl
   cases i with
   | zero=>
    have hc0:=zra
    rw [hc0] at hset
    have hcd0:=cdB_0
    have hU:=And.intro @hset ( And.intro @hv0 (@hcd0))
    repeat' (first|(refine goR ?_)|(refine za (fun K hK=>?_))|((refine zb (fun hcd=>?_) (fun hcd=>?_))<;>(try simp only [hcP] at hcd)<;>(try exact cdT))|(refine hK _ _ ?_;clear hK K))
    refine ⟨1,by omega,by omega,?_,arT,srT⟩
    (refine ⟨⟨_,sT,?_⟩,⟨_,sT,?_⟩,trivial⟩<;>(try (first|exact zh)))
    all_goals exact zT (by rw [show cdB 1 = codO.getD 0 0 from znH 0,hc0])
   | succ j=>
    have he : (((j + 1 : Nat) : Int) - 1) = (j : Int):=by omega
    obtain ⟨s',hs',hs1',hs2',hs3'⟩:=zlO (i:=j) (by omega)
    have hsz':=zcl hs1'
    have hcd0:=znH j
    obtain ⟨u1,u2⟩:=znI ⟨j,by omega⟩
    have hup:=znJ ⟨j,by omega⟩
    have hobj:=zhE ⟨j,by omega⟩
    dsimp only at u1 u2 hup hobj
    obtain ⟨a,ha⟩ : ∃ a,lenO.getD j 0 = a:=⟨_,rfl⟩
    obtain ⟨c,hc⟩ : ∃ c,lenO.getD (j + 1) 0 = c:=⟨_,rfl⟩
    rw [ha,hc] at hup
    rw [ha] at u1 hs3'
    rw [hc] at u1 u2 hs3
    have hU:=And.intro @he ( And.intro @hs3 ( And.intro @hs3' (@hcd0)))
    repeat' (first|(refine goR ?_)|(refine za (fun K hK=>?_))|((refine zb (fun hcd=>?_) (fun hcd=>?_))<;>(try simp only [hcP] at hcd)<;>(try exact cdT))|(refine hK _ _ ?_;clear hK K))
    refine zo [4,6,28,29,30,31,32,33,34,35,36,37,38,39,40] (fun n : Nat=>[(6,i64 n),(4,i64 ((codO.getD j 0 + 1) * 2 ^ (n - a)))]) (fun _=>[.row 0 3 1 ((ze5 (j + 1)).map y8)]) (fun n=>a ≤ n ∧ n ≤ c) (fun n=>c - n) a ⟨Nat.le_refl _,u1⟩ ?_ rfl ?_
    ·(refine ⟨⟨_, sT, ?_⟩, ⟨_, sT, ?_⟩, trivial⟩ <;> (try (first | exact zh)))
     all_goals exact zT (by rw [Nat.sub_self];simp)
    ·rintro n ⟨hn1, hn2⟩
     simp only [yn,List.map_cons,List.map_nil,List.cons_append,List.nil_append]
     have hpn:=zrb ⟨n - a,by omega⟩
     dsimp only at hpn
     by_cases hlt2 : n < c
     ·have hpw : (2 : Int) ^ (n + 1 - a) = 2 ^ (n - a) * 2 := by rw [show n + 1 - a = (n - a) + 1 from by omega, Int.pow_succ]
      have hpc : (2 : Int) ^ (c - a) = 2 ^ (n - a) * 2 ^ (c - n):=by rw [← Int.pow_add];congr 1;omega
      obtain ⟨z,hz2⟩ : ∃ z,(codO.getD j 0 + 1) * 2 ^ (n - a) = z:=⟨_,rfl⟩
      have hzb : 0 ≤ z ∧ z ≤ 2147483648:=zuB (c:=c) (a:=a) (n:=n) hz2 hup hob hobj.1 hn1 hn2
      have hU:=And.intro @hz2 ( And.intro @hs3 (@he))
      repeat' (first|(refine goR ?_)|(refine za (fun K hK=>?_))|((refine zb (fun hcd=>?_) (fun hcd=>?_))<;>(try simp only [hcP] at hcd)<;>(try exact cdT))|(refine hK _ _ ?_;clear hK K))
      refine ⟨n + 1,⟨by omega,by omega⟩,by omega,?_,arT,srT⟩
      (refine ⟨⟨_,sT,?_⟩,⟨_,sT,?_⟩,trivial⟩<;>(try (first|exact zh)))
      all_goals exact zT (by rw [hpw,← Int.mul_assoc,hz2];omega)
     ·have hnc : n = c := by omega
      subst hnc
      have hco : (codO.getD j 0 + 1) * 2 ^ (n - a) = codO.getD (j + 1) 0:=hup.symm
      have hU:=And.intro @hco ( And.intro @hs3 ( And.intro @he ( And.intro @hset (@hv0))))
      repeat' (first|(refine goR ?_)|(refine za (fun K hK=>?_))|((refine zb (fun hcd=>?_) (fun hcd=>?_))<;>(try simp only [hcP] at hcd)<;>(try exact cdT))|(refine hK _ _ ?_;clear hK K)|(apply_assumption (exfalso:=false) (symm:=false)))
      refine ⟨j + 1 + 1,by omega,by omega,?_,arT,srT⟩
      (refine ⟨⟨_,sT,?_⟩,⟨_,sT,?_⟩,trivial⟩<;>(try (first|exact zh)))
      all_goals exact zT (znH (j + 1)).symm
  ·have hi7 : i = 257 := by omega
   subst hi7
   have hall:=zkm
   have hU:=@hall
   repeat' (first|(refine goR ?_)|(refine za (fun K hK=>?_))|((refine zb (fun hcd=>?_) (fun hcd=>?_))<;>(try simp only [hcP] at hcd)<;>(try exact cdT))|((refine ze [] (by rw [Tryz.results216,Lf.zt]) (zj ?_) ?_)<;>(try (first|exact zh|exact stT)))|(refine hK _ _ ?_;clear hK K)|(apply_assumption (exfalso:=false) (symm:=false)))
end Go.Proofs.YtdalcgfnlbofdaaGreatDoor
namespace Go.Proofs.YtdalcgfnlbofdaaGreatDoor
open Go Go.Lf Go.Proofs
attribute [local irreducible] Lf.rg Lf.ro Lf.PWp Lf.SOp Lf.ACall Lf.Scoped Lf.dg Lf.dw
set_option maxRecDepth 20000
set_option maxHeartbeats 4000000
attribute [go_sem] zhB
@[go_sem] theorem znL : rnl (ix [] 0) bkB = bkB:=by
 rw [zd4]
 unfold bkB bkA b2
 have h : ∀ l : List Int,(l.map nA).map (rn (ix [] 0)) = l.map nA:=by
  intro l;rw [List.map_map];exact List.map_congr_left (fun _ _=>rfl)
 simp only [List.map_cons,List.map_append,h]
 rfl
def encS (L : List Int) (x : UInt8) : List Int:=rpL L (csI x.toNat) (szI (x.toNat : Int))
def encL (b : List UInt8) : List Int:=b.foldl encS []
theorem zhF (b : List UInt8) (x : UInt8) : encL (b ++ [x]) = encS (encL b) x:=by unfold encL;rw [List.foldl_append];rfl
theorem znM (L : List Int) (v n : Int) : L.length ≤ (rpL L v n).length ∧ (rpL L v n).length ≤ L.length + 32:=by
 unfold rpL
 split
 ·rename_i h
  rw [List.length_append,znt]
  unfold rpE at h
  split at h
  ·cases h
  ·omega
 ·omega
theorem ju (b : List UInt8) : (encL b).length ≤ 32 * b.length:=by
 have key : ∀ (b : List UInt8) (L : List Int),(b.foldl encS L).length ≤ L.length + 32 * b.length:=by
  intro b
  induction b with
  | nil=>intro L;simp
  | cons x b ih=>
   intro L
   have h1:=ih (encS L x)
   have h2:=(znM L (csI x.toNat) (szI (x.toNat : Int))).2
   rw [List.foldl_cons,List.length_cons]
   unfold encS at h1 ⊢
   omega
 have:=key b []
 unfold encL
 simpa using this
theorem zrd {b : List UInt8} {i : Nat} {x : UInt8} (h : b[i]? = some x) : encL (b.take (i + 1)) = encS (encL (b.take i)) x:=by
 rw [z9 h];exact zhF _ _
def zAH (b : List UInt8) : Int:=b.foldl (fun n x=>n + szI (x.toNat : Int)) 0
theorem zlP : encL [] = []:=rfl
theorem zre : yu [] = []:=rfl
attribute [local irreducible] bkB cntN ordB znA zq8 csI szI rpL yu encL zAH
theorem znN (f q : Bool) (b : List UInt8) (hb : b.length ≤ 100000) : AEq Tryz.prog 222 [.sl f q (b.map zf)] [] (.sl false false ((yu (encL b)).map zf)) []:=by
 have hr0:=znL
 refine zc Tryz.func222 rfl Tryz.ntmps222 (by simp) (fun hsc=>?_);simp only [Lf.enter,Nat.reduceAdd];clear hsc
 have hU:=@hr0
 repeat' (first|(refine goR ?_)|(refine za (fun K hK=>?_))|(refine zd (f:=237) rfl Tryz.call237 (h:=AEq.sub' [] (hc:=zuy) (hq:=?_)))|(refine hK _ _ ?_;clear hK K))
 refine js (σ2:=[.box bkB,.row 257 3 1 (ordB.map j3),.box [.row 3 0,i64 0],.row 0 5 1 []]) 2 0 5 1 (by decide) rfl rfl rfl ?_
 refine zo [6,10,11,12,13,14,15,16,17,18,19,20,21] (fun i : Nat=>[(10,i64 i)]) (fun i=>[.box bkB,.row 257 3 1 (ordB.map j3),.box [.row 3 (yu (encL (b.take i))).length,i64 (encL (b.take i)).length],.row (yu (encL (b.take i))).length 5 1 ((yu (encL (b.take i))).map zf)]) (fun i=>i ≤ b.length) (fun i=>b.length - i) 0 (Nat.zero_le _) ?_ (by rw [List.take_zero,zlP,zre];rfl) ?_
 ·have hU := True.intro
  (refine ⟨⟨_,sT,?_⟩,trivial⟩<;>(try (first|exact zh)))
 ·rintro i hi
  simp only [yn,List.map_cons,List.map_nil,List.cons_append,List.nil_append]
  by_cases hlt : i < b.length
  ·obtain ⟨x, hx⟩ := yy hlt
   have hbs : rpL (encL (b.take i)) (csI x.toNat) (szI (x.toNat : Int)) = encL (b.take (i + 1)):=(zrd hx).symm
   have hel:=ju (b.take i)
   have htl : (b.take i).length = i:=by rw [List.length_take];omega
   have hxl:=x.toNat_lt
   have hU:=@hbs
   repeat' (first|(refine goR ?_)|(refine za (fun K hK=>?_))|((refine zb (fun hcd=>?_) (fun hcd=>?_))<;>(try simp only [hcP] at hcd)<;>(try exact cdT))|(refine zd (f:=238) rfl Tryz.call238 (h:=AEq.sub' [_,_] (hc:=zq3 _ _ _ (by omega)) (hq:=?_)))|(refine zd (f:=239) rfl Tryz.call239 (h:=AEq.sub' [0,1] (by refine ⟨?_,?_,trivial⟩<;>(first|exact yf|exact yZ (by rfl) (by rfl))) (by exact zlL _) (zuz _ (by omega)) (ho:=by exact zlM) (hq:=?_)))|(refine hK _ _ ?_;clear hK K))
   refine ⟨i + 1,by omega,by omega,?_,arT,srT⟩
   (refine ⟨⟨_,sT,?_⟩,trivial⟩<;>(try (first|exact zh)))
  ·have hib : i = b.length := by omega
   subst hib
   have hel:=ju b
   have hrl:=kF (encL b)
   have htk : b.take b.length = b:=List.take_length
   rw [htk]
   have hU:=True.intro
   repeat' (first|(refine goR ?_)|(refine za (fun K hK=>?_))|((refine zb (fun hcd=>?_) (fun hcd=>?_))<;>(try simp only [hcP] at hcd)<;>(try exact cdT))|(refine zd (f:=240) rfl Tryz.call240 (h:=AEq.sub' [_,_] (hc:=zka _ _ (by omega)) (hq:=?_)))|((refine ze [] (by rw [Tryz.results222,Lf.zt]) (zj ?_) ?_)<;>(try (first|exact zh|exact stT)))|(refine hK _ _ ?_;clear hK K)|(apply_assumption (exfalso:=false) (symm:=false)))
end Go.Proofs.YtdalcgfnlbofdaaGreatDoor
namespace Go.Proofs.YtdalcgfnlbofdaaGreatDoor
open Go Go.Lf Go.Proofs
attribute [local irreducible] Lf.rg Lf.ro Lf.PWp Lf.SOp Lf.ACall Lf.Scoped Lf.dg Lf.dw
set_option maxRecDepth 20000
set_option maxHeartbeats 4000000
structure Way (c : Int) (n : Nat) : Prop where
 l : codeN (n + 1) ≤ c
 u : c < 2 ^ n
 n : n ≤ 29
 z : 0 ≤ c
def huM : List Int → Int → Nat → List UInt8 → List UInt8 × Int
 | [],c,n,o=>if 7 < n ∨ c ≠ 2 ^ n - 1 then ([],10) else (o,0)
 | x :: l,c,n,o=>if zhz (2 * c + x) ((n : Int) + 1) = true then (if zf5 (2 * c + x) ((n : Int) + 1) = 256 then ([],11) else huM l 0 0 (o ++ [UInt8.ofNat (zf5 (2 * c + x) ((n : Int) + 1)).toNat])) else huM l (2 * c + x) (n + 1) o
structure HS where
 (k : Fin 3) (a : Nat) (c : Int) (n : Nat) (o : List UInt8)
def HOk (b : List UInt8) (d : List UInt8) (e : Int) (q : HS) : Prop:=
 q.a ≤ 8 * b.length ∧ q.o.length ≤ q.a ∧ (q.k = 0 → huM ((y7 b).drop q.a) 0 0 q.o = (d,e)) ∧ (q.k = 1 → Way q.c q.n ∧ huM ((y7 b).drop q.a) q.c q.n q.o = (d,e)) ∧ (q.k = 2 → Way q.c q.n ∧ huM [] q.c q.n q.o = (d,e))
theorem hok1 {b d : List UInt8} {e : Int} {a n : Nat} {c : Int} {o : List UInt8} (h1 : a ≤ 8 * b.length) (h2 : o.length ≤ a) (hw : Way c n) (h3 : huM ((y7 b).drop a) c n o = (d,e)) : HOk b d e ⟨1,a,c,n,o⟩:=
 ⟨h1,h2,fun h=>absurd (show (1 : Fin 3) = 0 from h) (by decide),fun _=>⟨hw,h3⟩,fun h=>absurd (show (1 : Fin 3) = 2 from h) (by decide)⟩
theorem hok2 {b d : List UInt8} {e : Int} {a n : Nat} {c : Int} {o : List UInt8} (h1 : a ≤ 8 * b.length) (h2 : o.length ≤ a) (hw : Way c n) (h3 : huM [] c n o = (d,e)) : HOk b d e ⟨2,a,c,n,o⟩:=
 ⟨h1,h2,fun h=>absurd (show (2 : Fin 3) = 0 from h) (by decide),fun h=>absurd (show (2 : Fin 3) = 1 from h) (by decide),fun _=>⟨hw,h3⟩⟩
@[go_sem] theorem zvZ {σ : Sto} : fzl [0,1,2,3] σ bkB = bkB:=by
 rw [kZ]
 unfold bkB bkA b2
 have h : ∀ l : List Int,(l.map nA).map (fz [0,1,2,3] σ) = l.map nA:=by
  intro l;rw [List.map_map];exact List.map_congr_left (fun _ _=>rfl)
 simp only [List.map_cons,List.map_append,h]
 rfl
attribute [local irreducible] bkB cntN ordB znA zq8 csI szI zhz zf5 zuA y7 codeN huM
end Go.Proofs.YtdalcgfnlbofdaaGreatDoor
namespace Go.Proofs.YtdalcgfnlbofdaaGreatDoor
open Go Go.Lf Go.Proofs
attribute [local irreducible] Lf.rg Lf.ro Lf.PWp Lf.SOp Lf.ACall Lf.Scoped Lf.dg Lf.dw
set_option maxRecDepth 20000
set_option maxHeartbeats 4000000
theorem zrf (b : List UInt8) : ∀ x ∈ encL b,x = 0 ∨ x = 1:=by
 have key : ∀ (b : List UInt8) (L : List Int),(∀ x ∈ L,x = 0 ∨ x = 1) → ∀ x ∈ b.foldl encS L,x = 0 ∨ x = 1:=by
  intro b
  induction b with
  | nil=>intro L h;exact h
  | cons y b ih=>
   intro L h
   rw [List.foldl_cons]
   refine ih _ ?_
   unfold encS rpL
   split
   ·intro x hx
    rw [List.mem_append] at hx
    rcases hx with hx|hx
    ·exact h x hx
    ·exact zus _ _ x hx
   ·exact h
 exact key b [] (by simp)
theorem zhG {s : Nat} (h : s < 257) : codesT[s]? = some (csI s):=by
 unfold codesT;rw [List.getElem?_map,List.getElem?_range h];rfl
theorem zf6 : codesT.length = 257:=by simp [codesT]
attribute [local irreducible] codesT csI szI rpL yu encL zfX lensT
theorem znO (f q : Bool) (b : List UInt8) (hb : b.length ≤ 100000) : AEq Tryz.prog 207 [.sl f q (b.map zf)] [] (.sl false false ((yu (encL b)).map zf)) []:=by
 have hcl:=zf6
 refine zc Tryz.func207 rfl Tryz.ntmps207 (by simp) (fun hsc=>?_);simp only [Lf.enter,Nat.reduceAdd];clear hsc
 have hU:=True.intro
 repeat' (first|(refine goR ?_)|(refine za (fun K hK=>?_))|(refine zd (f:=216) rfl Tryz.call216 (h:=AEq.pure' agT zrc (hq:=?_)))|(refine hK _ _ ?_;clear hK K))
 refine zo [3,5,6,8,9,10,11,12,13,14,15,16,17,18,19,20,21,22,23,24,25,26,27,28,29] (fun i : Nat=>[(5,i64 i),(3,.sl false false ((encL (b.take i)).map y8))]) (fun i=>[]) (fun i=>i ≤ b.length) (fun i=>b.length - i) 0 (Nat.zero_le _) ?_ rfl ?_
 ·rw [List.take_zero, zlP]
  (refine ⟨⟨_,sT,?_⟩,⟨_,sT,?_⟩,trivial⟩<;>(try (first|exact zh)))
 ·rintro i hi
  simp only [yn,List.map_cons,List.map_nil,List.cons_append,List.nil_append]
  by_cases hlt : i < b.length
  ·obtain ⟨x, hx⟩ := yy hlt
   have hbs : rpL (encL (b.take i)) (csI x.toNat) (szI (x.toNat : Int)) = encL (b.take (i + 1)):=(zrd hx).symm
   have hel:=ju (b.take i)
   have htl : (b.take i).length = i:=by rw [List.length_take];omega
   have hxl:=x.toNat_lt
   have hat:=zhG (s:=x.toNat) (by omega)
   have hU:=@hbs
   repeat' (first|(refine goR ?_)|(guard_target =~ PWp _ _ _ _ _ _ _;refine yw (id:=7) [0,1,2,3,4,5,6,7,8,9,10,11] [] mixed (by kernel_rfl) (by kernel_rfl) ?_)|(refine za (fun K hK=>?_))|((refine zb (fun hcd=>?_) (fun hcd=>?_))<;>(try simp only [hcP] at hcd)<;>(try exact cdT))|(guard_target =~ dw _ _ _ _ _ _ _ _ _ _;first|(guard_target =~ dw _ _ _ _ _ (3 :: _) _ _ _ _;(refine vK rfl rfl (h:=(fun τ=>zQ (h:=yP rfl (hK:=zi ⟨rfl,rfl⟩)))) (hk:=?_)))|(guard_target =~ dw _ _ _ _ _ (6 :: _) _ _ _ _;(refine vK rfl rfl (h:=(fun τ=>zQ (h:=zd (f:=231) rfl Tryz.call231 (h:=AEq.pure' agT (znD _ (by omega)) (hq:=zi ⟨rfl,rfl⟩))))) (hk:=?_)))|(guard_target =~ dw _ _ _ _ _ (7 :: _) _ _ _ _;(refine vK rfl rfl (h:=(fun τ=>zQ (h:=zd (f:=230) rfl Tryz.call230 (h:=AEq.pure' agT (zq4 _ _ _ _ (by omega)) (hq:=zi ⟨rfl,rfl⟩))))) (hk:=?_))))|(refine hK _ _ ?_;clear hK K))
   refine ⟨i + 1,by omega,by omega,?_,arT,srT⟩
   (refine ⟨⟨_,sT,?_⟩,⟨_,sT,?_⟩,trivial⟩<;>(try (first|exact zh)))
  ·have hib : i = b.length := by omega
   subst hib
   have hel:=ju b
   have h01:=zrf b
   have hpr : zfX (encL b) = yu (encL b):=zkc _ h01
   have htk : b.take b.length = b:=List.take_length
   rw [htk]
   have hU:=@hpr
   repeat' (first|(refine goR ?_)|(refine za (fun K hK=>?_))|((refine zb (fun hcd=>?_) (fun hcd=>?_))<;>(try simp only [hcP] at hcd)<;>(try exact cdT))|(refine zd (f:=232) rfl Tryz.call232 (h:=AEq.pure' agT (zq5 _ _ _ aoT aoT) (hq:=?_)))|((refine ze [] (by rw [Tryz.results207,Lf.zt]) (zj ?_) ?_)<;>(try (first|exact zh|exact stT)))|(refine hK _ _ ?_;clear hK K)|(apply_assumption (exfalso:=false) (symm:=false)))
end Go.Proofs.YtdalcgfnlbofdaaGreatDoor
namespace Go.Proofs.YtdalcgfnlbofdaaGreatDoor
open Go Go.Lf Go.Proofs
attribute [local irreducible] Lf.rg Lf.ro Lf.PWp Lf.SOp Lf.ACall Lf.Scoped Lf.dg Lf.dw
set_option maxRecDepth 20000
set_option maxHeartbeats 4000000
def zv0 (l : List Int) : Nat → Nat → Int × Int
 | 0,_=>(-1,0)
 | m + 1,p=>if zhz (ye (l.take (p + 1))) ((p : Int) + 1) = true then (zf5 (ye (l.take (p + 1))) ((p : Int) + 1),(p : Int) + 1) else zv0 l m (p + 1)
def zAI (l : List Int) : Int × Int:=zv0 l (min 30 l.length) 0
attribute [local irreducible] codesT csI szI lensT zhz zf5 ye zAI
attribute [local irreducible] huM y7
end Go.Proofs.YtdalcgfnlbofdaaGreatDoor
