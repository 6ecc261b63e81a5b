import Derived.Test.YtdalcgfnlbofdaaGreatDoorPg
import Derived.Test.YtdalcgfnlbofdaaGreatDoorY11
set_option linter.unusedVariables false
set_option linter.unusedSimpArgs false
namespace Go.Proofs.YtdalcgfnlbofdaaGreatDoor
open Go Go.Lf Go.Proofs
attribute [local irreducible] Lf.rg Lf.ro Lf.PWp Lf.SOp Lf.ACall Lf.Scoped Lf.dg
set_option maxRecDepth 20000
set_option maxHeartbeats 4000000
@[go_sem] theorem zrc {κ : List Nat} {σ : Sto} (l : List (Int × Int)) : List.map (fzl κ σ) (l.map yq) = l.map yq:=vG (fun _=>rfl) l
def zns (b : List UInt8) : Int × Int:=(zM b 2,zM (b.drop 2) 4)
def zgn (b : List UInt8) : Nat → List (Int × Int)
 | 0=>[]
 | k + 1=>zgn b k ++ [zns (b.drop (6 * k))]
def zlz (b : List UInt8) : Int:=if b.length % 6 = 0 then 0 else 4
def zep (b : List UInt8) : List (Int × Int):=if b.length % 6 = 0 then zgn b (b.length / 6) else []
theorem zcx (b : List UInt8) (k : Nat) : (zgn b k).length = k:=by induction k with|zero=>rfl|succ k ih=>simp [zgn,ih]
theorem zdk (f q : Bool) (b : List UInt8) (hb : b.length ≤ 100000000000) : AEq Tryz.prog 99 [.sl f q (b.map zf)] [] (.tu [.sl false false ((zep b).map yq),i64 (zlz b)]) []:=by
 by_cases h6 : b.length % 6 = 0
 ·have h1 : zlz b = 0 := if_pos h6
  have h2 : zep b = zgn b (b.length / 6):=if_pos h6
  rw [h1,h2]
  refine zc Tryz.func99 rfl Tryz.ntmps99 (by simp) (fun hsc=>?_);simp only [Lf.enter,Nat.reduceAdd];clear hsc
  have hU:=True.intro
  repeat' (first|(refine goR ?_)|(refine za (fun K hK=>?_))|((refine zb (fun hcd=>?_) (fun hcd=>?_))<;>(try simp only [hcP] at hcd)<;>(try exact cdT))|(refine zd (f:=95) rfl Tryz.call95 (h:=AEq.sub' [] (by first|((repeat' (first|exact trivial|(first|exact z0|exact zB id id|exact yy|exact zB (by simp) id|exact zB (by simp) (fun _=>rfl)|exact zT (by rfl) (by rfl) (fun _=>rfl)|exact yi (by rfl) (by rfl) (fun _=>rfl)|exact yT (by rfl) (by rfl)|exact yh)|refine ⟨?_,?_⟩));done)|fail) (hc:=zeo _ _ _ (by omega)) (hq:=?_)))|(refine hK _ _ ?_;clear hK K))
  refine vi 5 92 2 (by decide) (by rfl) rfl rfl ?_
  refine zz [5,6,7,8,9,16,17,18,19,20,21,22,23,24,25,26,27,28,29,30,31,32,33,34] (fun s : Nat × Nat=>[(5,.row 1 s.2)]) (fun s=>[.box [.sl false false (b.map zf),i64 (6 * s.1)],.row s.2 92 2 ((zgn b s.1).map yq)]) (fun s=>s.1 ≤ b.length / 6) (fun s=>b.length / 6 - s.1) (0,0) (Nat.zero_le _) ?_ rfl ?_
  ·(refine ⟨⟨_,sT,?_⟩,trivial⟩<;>(try (first|exact zi)))
  ·rintro ⟨k, s⟩ hk
   simp only [vf,List.map_cons,List.map_nil,List.cons_append,List.nil_append]
   dsimp only at hk ⊢
   have hpl:=zcx b k
   by_cases hlt : k < b.length / 6
   ·have e1 : (6 * (k : Int)).toNat = 6 * k := by omega
    have e2 : (6 * (k : Int) + 2).toNat = 6 * k + 2:=by omega
    have hE1 : zaf (b.drop (6 * (k : Int)).toNat) 2 = 0:=by
     unfold zaf
     rw [if_neg (by rw [yr (by omega)];simp),if_neg (by rw [e1,List.length_drop];omega)]
    have hE2 : zaf (b.drop (6 * (k : Int) + 2).toNat) 4 = 0:=by
     unfold zaf
     rw [if_neg (by rw [yr (by omega)];simp),if_neg (by rw [e2,List.length_drop];omega)]
    have hc1 : zkq b (6 * (k : Int)) 2 = 6 * (k : Int) + 2:=by unfold zkq;rw [if_pos hE1]
    have hc2 : zkq b (6 * (k : Int) + 2) 4 = 6 * ((k + 1 : Nat) : Int):=by unfold zkq;rw [if_pos hE2];omega
    have hd : zns (b.drop (6 * k)) = (zM (b.drop (6 * (k : Int)).toNat) 2,zM (b.drop (6 * (k : Int) + 2).toNat) 4):=by
     unfold zns;rw [e1,e2,List.drop_drop]
    have hU:=And.intro @hc1 (@hc2)
    repeat' (first|(refine goS ?_)|(refine za (fun K hK=>?_))|((refine zb (fun hcd=>?_) (fun hcd=>?_))<;>(try simp only [hcP] at hcd)<;>(try exact cdT))|(refine zd (f:=144) rfl Tryz.call144 (h:=AEq.sub' [_] (by first|((repeat' (first|exact trivial|(first|exact z0|exact zB id id|exact yy|exact zB (by simp) id|exact zB (by simp) (fun _=>rfl)|exact zT (by rfl) (by rfl) (fun _=>rfl)|exact yi (by rfl) (by rfl) (fun _=>rfl)|exact yT (by rfl) (by rfl)|exact yh)|refine ⟨?_,?_⟩));done)|fail) (hc:=za7 _ _ _ _ (by omega) (by omega) (by omega)) (hq:=?_)))|(refine zd (f:=98) rfl Tryz.call98 (h:=AEq.sub' [_] (by first|((repeat' (first|exact trivial|(first|exact z0|exact zB id id|exact yy|exact zB (by simp) id|exact zB (by simp) (fun _=>rfl)|exact zT (by rfl) (by rfl) (fun _=>rfl)|exact yi (by rfl) (by rfl) (fun _=>rfl)|exact yT (by rfl) (by rfl)|exact yh)|refine ⟨?_,?_⟩));done)|fail) (hc:=kj _ _ _ (by omega) (by omega)) (hq:=?_)))|(refine hK _ _ ?_;clear hK K)|(dsimp only [Lf.y6,Lf.vL]))
    refine ⟨(k + 1,s + 1),by dsimp only;omega,by dsimp only;omega,?_,arT,by first|(dsimp only;simp only [zgn,hd,List.map_append,List.map_cons,List.map_nil,yq];done)|fail⟩
    (refine ⟨⟨_,sT,?_⟩,trivial⟩<;>(try (first|exact zi)))
   ·have he : k = b.length / 6 := by omega
    subst he
    repeat' (first|(refine goR ?_)|(refine za (fun K hK=>?_))|((refine zb (fun hcd=>?_) (fun hcd=>?_))<;>(try simp only [hcP] at hcd)<;>(try exact cdT))|(refine zd (f:=98) rfl Tryz.call98 (h:=AEq.sub' [_] (by first|((repeat' (first|exact trivial|(first|exact z0|exact zB id id|exact yy|exact zB (by simp) id|exact zB (by simp) (fun _=>rfl)|exact zT (by rfl) (by rfl) (fun _=>rfl)|exact yi (by rfl) (by rfl) (fun _=>rfl)|exact yT (by rfl) (by rfl)|exact yh)|refine ⟨?_,?_⟩));done)|fail) (hc:=kj _ _ _ (by omega) (by omega)) (hq:=?_)))|((refine zh [] (by rw [Tryz.results99,Lf.yE]) (zA ?_ ?_) ?_)<;>(try (first|exact zi|exact stT)))|(refine hK _ _ ?_;clear hK K)|(apply_assumption (exfalso:=false) (symm:=false)))
 ·have h1 : zlz b = 4 := if_neg h6
  have h2 : zep b = []:=if_neg h6
  rw [h1,h2]
  refine zc Tryz.func99 rfl Tryz.ntmps99 (by simp) (fun hsc=>?_);simp only [Lf.enter,Nat.reduceAdd];clear hsc
  have hU:=True.intro
  repeat' (first|(refine goR ?_)|(refine za (fun K hK=>?_))|((refine zb (fun hcd=>?_) (fun hcd=>?_))<;>(try simp only [hcP] at hcd)<;>(try exact cdT))|((refine zh [] (by rw [Tryz.results99,Lf.yE]) (zA ?_ ?_) ?_)<;>(try (first|exact zi|exact stT)))|(refine hK _ _ ?_;clear hK K))
theorem zf7 (f : Bool) (b : List UInt8) (hb : b.length ≤ 100000000000) : AEq Tryz.prog 110 [.sl f false (b.map zf)] [] (.tu [.sl false false ((zep b).map yq),bl (decide (zlz b = 0))]) []:=by
 have h1 : b.length % 6 = 0 → zlz b = 0:=fun h=>if_pos h
 have h2 : b.length % 6 = 0 → zep b = zgn b (b.length / 6):=fun h=>if_pos h
 have h3 : ¬ b.length % 6 = 0 → zlz b = 4:=fun h=>if_neg h
 have h4 : ¬ b.length % 6 = 0 → zep b = []:=fun h=>if_neg h
 refine zc Tryz.func110 rfl Tryz.ntmps110 (by simp) (fun hsc=>?_);simp only [Lf.enter,Nat.reduceAdd];clear hsc
 have hU:=True.intro
 repeat' (first|(refine goR ?_)|(refine za (fun K hK=>?_))|(refine hK _ _ ?_;clear hK K))
 refine vi 4 92 2 (by decide) (by rfl) rfl rfl ?_
 refine zz [0,4,5,6,7,8,9,10,11,12,13,14,15,16,17,18,19,20,21,22,23,24,25,26,27,28,29,30] (fun s : Nat × Nat=>[(4,.row 0 s.2),(0,.sl false false ((b.drop (6 * s.1)).map zf))]) (fun s=>[.row s.2 92 2 ((zgn b s.1).map yq)]) (fun s=>s.1 ≤ b.length / 6) (fun s=>b.length / 6 - s.1) (0,0) (Nat.zero_le _) ?_ rfl ?_
 ·(refine ⟨⟨_,sT,?_⟩,⟨_,sT,?_⟩,trivial⟩<;>(try (first|exact zi)))
 ·rintro ⟨k, s⟩ hk
  simp only [vf,List.map_cons,List.map_nil,List.cons_append,List.nil_append]
  dsimp only at hk ⊢
  have hpl:=zcx b k
  have hdl : (b.drop (6 * k)).length = b.length - 6 * k:=List.length_drop
  by_cases hlt : k < b.length / 6
  ·have hd : zns (b.drop (6 * k)) = (zM (b.drop (6 * k)) 2, zM ((b.drop (6 * k)).drop 2) 4) := rfl
   have hdd : (b.drop (6 * k)).drop 6 = b.drop (6 * (k + 1)):=by rw [List.drop_drop];congr 1
   have hd2 : ((b.drop (6 * k)).drop 2).length = b.length - 6 * k - 2:=by rw [List.length_drop,hdl]
   repeat' (first|(refine goS ?_)|(refine za (fun K hK=>?_))|((refine zb (fun hcd=>?_) (fun hcd=>?_))<;>(try simp only [hcP] at hcd)<;>(try exact cdT))|(guard_target =~ SOp _ _ ⟨_,.slice _ _ _ _ _,_,_,_,none⟩ _ _ _;refine jf rfl (hg:=(fun _=>gT)) (hK:=?_))|(refine zd (f:=159) rfl Tryz.call159 (h:=AEq.pure' (hc:=zem _ _ _ _ (by omega)) (hq:=?_)))|(refine hK _ _ ?_;clear hK K)|(dsimp only [Lf.y6,Lf.vL]))
   refine ⟨(k + 1,s + 1),by dsimp only;omega,by dsimp only;omega,?_,arT,by first|(dsimp only;simp only [zgn,hd,List.map_append,List.map_cons,List.map_nil,yq];done)|fail⟩
   (refine ⟨⟨_,sT,?_⟩,⟨_,sT,?_⟩,trivial⟩<;>(try (first|exact zi)))
   all_goals exact vH hdd id
  ·have he : k = b.length / 6 := by omega
   subst he
   repeat' (first|(refine goR ?_)|(refine za (fun K hK=>?_))|((refine zb (fun hcd=>?_) (fun hcd=>?_))<;>(try simp only [hcP] at hcd)<;>(try exact cdT))|((refine zh [] (by rw [Tryz.results110,Lf.yE]) (zA ?_ ?_) ?_)<;>(try (first|exact zi|exact stT)))|(refine hK _ _ ?_;clear hK K)|(apply_assumption (exfalso:=false) (symm:=false)))
   ·rw [h4 (by omega)];exact ke
   ·exact zt (by rw [h3 (by omega)];rfl)
   ·rw [h2 (by omega)];exact ke
   ·exact zt (by rw [h1 (by omega)];rfl)
def zcy (s : Int × Int) : Prop:=yw s.1 2 = 0 ∧ yw s.2 4 = 0
instance (s : Int × Int) : Decidable (zcy s):=by unfold zcy;infer_instance
def zhX (s : Int × Int) : List UInt8:=beB s.1 2 ++ beB s.2 4
def spE : List (Int × Int) → Int
 | []=>0
 | s :: l=>if zcy s then spE l else 5
def spF (l : List (Int × Int)) : List UInt8:=l.flatMap zhX
def spB (l : List (Int × Int)) : List UInt8:=if spE l = 0 then spF l else []
theorem zfo (l : List (Int × Int)) (s : Int × Int) : spF (l ++ [s]) = spF l ++ zhX s:=by simp [spF]
theorem j4 (l : List (Int × Int)) : (spF l).length = 6 * l.length:=by
 induction l with
 | nil=>rfl
 | cons s l ih=>
  show (zhX s ++ spF l).length = _
  rw [List.length_append,ih,zhX,List.length_append,zN,zN,List.length_cons];omega
theorem jK (n size : Int) (h1 : 1 ≤ size) (h2 : size ≤ 4) (h : ¬ yw n size = 0) : yw n size = 5:=by
 unfold yw at *
 rw [yr ⟨h1,h2⟩] at *
 rw [if_neg (by simp)] at *
 split
 ·rfl
 ·rename_i h3;rw [if_neg h3] at h;exact absurd rfl h
theorem za9 (b : List UInt8) (n size : Int) (h : yw n size = 0) : zaw b n size = b ++ beB n size.toNat:=if_pos h
theorem zfp {l : List (Int × Int)} {i : Nat} {s : Int × Int} (h : spE l = spE (l.drop i)) (hs : l[i]? = some s) (hc : ¬ zcy s) : spE l = 5:=by
 rw [h,za8 hs,spE,if_neg hc]
theorem zrd {l : List (Int × Int)} {i : Nat} {s : Int × Int} (h : spE l = spE (l.drop i)) (hs : l[i]? = some s) (hc : zcy s) : spE l = spE (l.drop (i + 1)):=by
 rw [h,za8 hs,spE,if_pos hc]
theorem zlA {l : List (Int × Int)} {i : Nat} (h : spE l = spE (l.drop i)) (hi : l.length ≤ i) : spE l = 0:=by
 rw [h,List.drop_eq_nil_of_le hi];rfl
theorem zhY (f q : Bool) (l : List (Int × Int)) (hl : l.length ≤ 1000000) : AEq Tryz.prog 130 [.sl f q (l.map yq)] [] (.tu [.sl false false ((spB l).map zf),i64 (spE l)]) []:=by
 have hB : spE l = 0 → spB l = spF l:=fun h=>if_pos h
 have hB5 : spE l = 5 → spB l = []:=fun h=>if_neg (by omega)
 refine zc Tryz.func130 rfl Tryz.ntmps130 (by simp) (fun hsc=>?_);simp only [Lf.enter,Nat.reduceAdd];clear hsc
 have hU:=True.intro
 repeat' (first|(refine goR ?_)|(refine za (fun K hK=>?_))|(refine hK _ _ ?_;clear hK K))
 refine zU [2,3,4,6,7,8,11,12,13,14,15,16,17,18,19,20,21,22,23,24,25,26,27,28,29,30,31,32,33,34,35] [] (fun i : Nat=>[(11,i64 i),(4,.sl false false ((spF (l.take i)).map zf))]) (fun i=>[]) (fun i=>i ≤ l.length ∧ spE l = spE (l.drop i)) (fun i=>l.length - i) 0 (fun _=>rfl) rfl rfl ⟨Nat.zero_le _,rfl⟩ ?_ rfl (by intro s i x h;simp only [List.mem_cons,Prod.mk.injEq,List.not_mem_nil,or_false] at h;rcases h with ⟨rfl,_⟩|⟨rfl,_⟩<;>decide) ?_
 ·(refine ⟨⟨_,sT,?_⟩,⟨_,sT,?_⟩,trivial⟩<;>(try (first|exact zi)))
 ·rintro i ⟨hi, hk⟩
  simp only [vf,List.map_cons,List.map_nil,List.cons_append,List.nil_append]
  have hfl:=j4 (l.take i)
  rw [List.length_take] at hfl
  by_cases hlt : i < l.length
  ·obtain ⟨s, hs⟩ := vS hlt
   have hsn:=zfo (l.take i) s
   rw [← yH hs] at hsn
   have hpl:=zkn (spF (l.take i)) s.1 2
   by_cases h1 : yw s.1 2 = 0
   ·have hL1 := za9 (spF (l.take i)) s.1 2 h1
    by_cases h2 : yw s.2 4 = 0
    ·have hgo := zrd hk hs ⟨h1, h2⟩
     have hL2:=za9 (zaw (spF (l.take i)) s.1 2) s.2 4 h2
     have hU:=And.intro @h1 (@h2)
     repeat' (first|(refine goR ?_)|(refine za (fun K hK=>?_))|((refine zb (fun hcd=>?_) (fun hcd=>?_))<;>(try simp only [hcP] at hcd)<;>(try exact cdT))|(refine zd (f:=171) rfl Tryz.call171 (h:=AEq.pure' (hc:=zfj _ _ _ _ _ (by omega)) (hq:=?_)))|(refine hK _ _ ?_;clear hK K))
     refine ⟨i + 1,⟨by omega,hgo⟩,by omega,?_,arT,srT⟩
     (refine ⟨⟨_,sT,?_⟩,⟨_,sT,?_⟩,trivial⟩<;>(try (first|exact zi)))
     all_goals exact vH (by rw [hL2,hL1,hsn,List.append_assoc];rfl) id
    ·have h5 := jK _ _ (by decide) (by decide) h2
     have hh:=zfp hk hs (fun h=>h2 h.2)
     have hb5:=hB5 hh
     have hU:=And.intro @h1 (@h5)
     repeat' (first|(refine goR ?_)|(refine za (fun K hK=>?_))|((refine zb (fun hcd=>?_) (fun hcd=>?_))<;>(try simp only [hcP] at hcd)<;>(try exact cdT))|(refine zd (f:=171) rfl Tryz.call171 (h:=AEq.pure' (hc:=zfj _ _ _ _ _ (by omega)) (hq:=?_)))|((refine zh [] (by rw [Tryz.results130,Lf.yE]) (zA ?_ ?_) ?_)<;>(try (first|exact zi|exact stT)))|(refine hK _ _ ?_;clear hK K))
     ·(rw [hb5];exact ke)
     ·exact yG (by rw [hh])
   ·have h5 := jK _ _ (by decide) (by decide) h1
    have hh:=zfp hk hs (fun h=>h1 h.1)
    have hb5:=hB5 hh
    have hU:=@h5
    repeat' (first|(refine goR ?_)|(refine za (fun K hK=>?_))|((refine zb (fun hcd=>?_) (fun hcd=>?_))<;>(try simp only [hcP] at hcd)<;>(try exact cdT))|(refine zd (f:=171) rfl Tryz.call171 (h:=AEq.pure' (hc:=zfj _ _ _ _ _ (by omega)) (hq:=?_)))|((refine zh [] (by rw [Tryz.results130,Lf.yE]) (zA ?_ ?_) ?_)<;>(try (first|exact zi|exact stT)))|(refine hK _ _ ?_;clear hK K))
    ·(rw [hb5];exact ke)
    ·exact yG (by rw [hh])
  ·have he := zlA hk (by omega)
   have ht : l.take i = l:=List.take_of_length_le (by omega)
   repeat' (first|(refine goR ?_)|(refine za (fun K hK=>?_))|((refine zb (fun hcd=>?_) (fun hcd=>?_))<;>(try simp only [hcP] at hcd)<;>(try exact cdT))|((refine zh [] (by rw [Tryz.results130,Lf.yE]) (zA ?_ ?_) ?_)<;>(try (first|exact zi|exact stT)))|(refine hK _ _ ?_;clear hK K)|(apply_assumption (exfalso:=false) (symm:=false)))
   ·exact vH (by rw [ht,hB he]) id
   ·exact yG (by rw [he])
theorem zkt (f q : Bool) (l : List (Int × Int)) (hl : l.length ≤ 1000000) : AEq Tryz.prog 84 [.sl f q (l.map yq)] [] (.tu [.sl false false ((spB l).map zf),bl (decide (spE l = 0))]) []:=by
 have hB : spE l = 0 → spB l = spF l:=fun h=>if_pos h
 have hB5 : spE l = 5 → spB l = []:=fun h=>if_neg (by omega)
 refine zc Tryz.func84 rfl Tryz.ntmps84 (by simp) (fun hsc=>?_);simp only [Lf.enter,Nat.reduceAdd];clear hsc
 have hU:=True.intro
 repeat' (first|(refine goR ?_)|(refine za (fun K hK=>?_))|(refine hK _ _ ?_;clear hK K))
 refine vi 4 5 1 (by decide) (by rfl) rfl rfl ?_
 refine zz [2,3,4,5,6,7,8,9,10,11,12,13,14,15,16,17,18,19,20,21,22,23,24,25,26,27,28,29,30,31,32,33,34,35,36,37,38,39,40,41,42,43,44] (fun s : Nat × Nat=>[(5,i64 s.1),(4,.row 0 s.2)]) (fun s=>[.row s.2 5 1 ((spF (l.take s.1)).map zf)]) (fun s=>s.1 ≤ l.length ∧ spE l = spE (l.drop s.1)) (fun s=>l.length - s.1) (0,0) ⟨Nat.zero_le _,rfl⟩ ?_ rfl ?_
 ·(refine ⟨⟨_,sT,?_⟩,⟨_,sT,?_⟩,trivial⟩<;>(try (first|exact zi)))
 ·rintro ⟨i, st⟩ ⟨hi, hk⟩
  simp only [vf,List.map_cons,List.map_nil,List.cons_append,List.nil_append]
  dsimp only at hi hk ⊢
  have hfl:=j4 (l.take i)
  rw [List.length_take] at hfl
  by_cases hlt : i < l.length
  ·obtain ⟨s, hs⟩ := vS hlt
   have hsn:=zfo (l.take i) s
   rw [← yH hs] at hsn
   by_cases h1 : yw s.1 2 = 0
   ·have hL1 := za9 [] s.1 2 h1
    by_cases h2 : yw s.2 4 = 0
    ·have hgo := zrd hk hs ⟨h1, h2⟩
     have hL2:=za9 [] s.2 4 h2
     have hl1:=zN s.1 2
     have hl2:=zN s.2 4
     rw [List.nil_append] at hL1 hL2
     have hU:=And.intro @h1 ( And.intro @h2 ( And.intro @hL1 (@hL2)))
     repeat' (first|(refine goS ?_)|(refine za (fun K hK=>?_))|((refine zb (fun hcd=>?_) (fun hcd=>?_))<;>(try simp only [hcP] at hcd)<;>(try exact cdT))|(refine zd (f:=134) rfl Tryz.call134 (h:=AEq.pure' (hc:=vI _ _ _ _ _ (by simp only [List.length_map,List.length_append,List.length_take,List.length_drop,List.length_cons,List.length_nil];omega)) (hq:=?_)))|(refine hK _ _ ?_;clear hK K))
     refine ⟨(i + 1,st + 2),⟨by dsimp only;omega,hgo⟩,by dsimp only;omega,?_,arT,by first|(dsimp only;rw [hsn];simp [zhX];done)|fail⟩
     (refine ⟨⟨_,sT,?_⟩,⟨_,sT,?_⟩,trivial⟩<;>(try (first|exact zi)))
    ·have h5 := jK _ _ (by decide) (by decide) h2
     have hh:=zfp hk hs (fun h=>h2 h.2)
     have hb5:=hB5 hh
     have hU:=And.intro @h1 (@h5)
     repeat' (first|(refine goR ?_)|(refine za (fun K hK=>?_))|((refine zb (fun hcd=>?_) (fun hcd=>?_))<;>(try simp only [hcP] at hcd)<;>(try exact cdT))|(refine zd (f:=134) rfl Tryz.call134 (h:=AEq.pure' (hc:=vI _ _ _ _ _ (by simp only [List.length_map,List.length_append,List.length_take,List.length_drop,List.length_cons,List.length_nil];omega)) (hq:=?_)))|((refine zh [] (by rw [Tryz.results84,Lf.yE]) (zA ?_ ?_) ?_)<;>(try (first|exact zi|exact stT)))|(refine hK _ _ ?_;clear hK K))
     ·(rw [hb5];exact ke)
     ·exact zt (by rw [hh];rfl)
   ·have h5 := jK _ _ (by decide) (by decide) h1
    have hh:=zfp hk hs (fun h=>h1 h.1)
    have hb5:=hB5 hh
    have hU:=@h5
    repeat' (first|(refine goR ?_)|(refine za (fun K hK=>?_))|((refine zb (fun hcd=>?_) (fun hcd=>?_))<;>(try simp only [hcP] at hcd)<;>(try exact cdT))|(refine zd (f:=134) rfl Tryz.call134 (h:=AEq.pure' (hc:=vI _ _ _ _ _ (by simp only [List.length_map,List.length_append,List.length_take,List.length_drop,List.length_cons,List.length_nil];omega)) (hq:=?_)))|((refine zh [] (by rw [Tryz.results84,Lf.yE]) (zA ?_ ?_) ?_)<;>(try (first|exact zi|exact stT)))|(refine hK _ _ ?_;clear hK K))
    ·(rw [hb5];exact ke)
    ·exact zt (by rw [hh];rfl)
  ·have he := zlA hk (by omega)
   have ht : l.take i = l:=List.take_of_length_le (by omega)
   repeat' (first|(refine goR ?_)|(refine za (fun K hK=>?_))|((refine zb (fun hcd=>?_) (fun hcd=>?_))<;>(try simp only [hcP] at hcd)<;>(try exact cdT))|((refine zh [] (by rw [Tryz.results84,Lf.yE]) (zA ?_ ?_) ?_)<;>(try (first|exact zi|exact stT)))|(refine hK _ _ ?_;clear hK K)|(apply_assumption (exfalso:=false) (symm:=false)))
   ·exact vH (by rw [ht,hB he]) id
   ·exact zt (by rw [he];rfl)
end Go.Proofs.YtdalcgfnlbofdaaGreatDoor
namespace Go.Proofs.YtdalcgfnlbofdaaGreatDoor
open Go Go.Lf Go.Proofs
attribute [local irreducible] Lf.rg Lf.ro Lf.PWp Lf.SOp Lf.ACall Lf.Scoped Lf.dg
set_option maxRecDepth 20000
set_option maxHeartbeats 4000000
theorem vm (b : List UInt8) (n : Int) : 0 ≤ zM b n ∧ zM b n < 4294967296:=by
 unfold zM
 split
 ·rename_i h
  obtain ⟨h1,h2⟩:=h
  have h4 : n ≤ 4:=by simp [okS] at h1;omega
  have:=zcu (b.take n.toNat)
  have hp : (ye (b.take n.toNat).length : Int) ≤ 4294967296:=(vU _ (by rw [List.length_take];omega)).2
  omega
 ·omega
def yO (m : Int) : Int:=if m < 2147483648 then m else m - 2147483648
theorem zcz (b : List UInt8) (a : Nat) (x : UInt8) (h : b[a]? = some x) : zM (b.drop a) 1 = x.toNat:=by
 have hl : a < b.length:=(List.getElem?_eq_some_iff.1 h).1
 have e : (b.drop a).take 1 = [x]:=by
  have h2 : (b.drop a)[0]? = some x:=by rw [List.getElem?_drop,Nat.add_zero];exact h
  have:=yH h2
  simpa using this
 unfold zM
 rw [if_pos ⟨rfl,by rw [List.length_drop];omega⟩,show (1 : Int).toNat = 1 from rfl,e]
 simp [yZ]
theorem hof (w t g s : Int) (r f : Bool) (b : List UInt8) (hl : b.length ≤ 100000000000) : AEq Tryz.prog 51 [.ag [i64 w,i64 t,i64 g,i64 s,bl r,.sl f false (b.map zf)]] [] (.ag [i64 b.length,i64 t,i64 g,i64 s,bl r]) []:=by
 refine zc Tryz.func51 rfl Tryz.ntmps51 (by simp) (fun hsc=>?_);simp only [Lf.enter,Nat.reduceAdd];clear hsc
 have hU:=True.intro
 repeat' (first|(refine goR ?_)|(refine za (fun K hK=>?_))|((refine yv [] exT (by rfl) (by rw [Tryz.results51,Lf.jh];(try simp (disch:=omega) only [Lf.zG,go_sem,seval,↓reduceIte,hU]);rfl) sT sT (zj ?_) ?_)<;>(try (first|exact zi|exact stT)))|(refine hK _ _ ?_;clear hK K))
end Go.Proofs.YtdalcgfnlbofdaaGreatDoor
