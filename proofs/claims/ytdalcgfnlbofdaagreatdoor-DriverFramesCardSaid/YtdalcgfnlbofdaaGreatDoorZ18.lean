import Derived.Test.YtdalcgfnlbofdaaGreatDoorTg
import Derived.Test.YtdalcgfnlbofdaaGreatDoorZ17
import Derived.Test.YtdalcgfnlbofdaaGreatDoorLb
set_option linter.unusedVariables false
set_option linter.unusedSimpArgs false
namespace Go.Proofs.YtdalcgfnlbofdaaGreatDoor
open Go Go.Lf Go.Proofs
attribute [local irreducible] Lf.rg Lf.ro Lf.PWp Lf.SOp Lf.ACall Lf.Scoped Lf.dg
set_option maxRecDepth 20000
set_option maxHeartbeats 4000000
@[go_sem] theorem zrT {κ : List Nat} {σ : Sto} (l : List (Int × Int)) : List.map (fzl κ σ) (l.map zV) = l.map zV:=vo (fun _=>rfl) l
def zov (b : List UInt8) : Int × Int:=(zJ b 2,zJ (b.drop 2) 4)
def zgw (b : List UInt8) : Nat → List (Int × Int)
 | 0=>[]
 | k + 1=>zgw b k ++ [zov (b.drop (6 * k))]
def zmh (b : List UInt8) : Int:=if b.length % 6 = 0 then 0 else 4
def zeq (b : List UInt8) : List (Int × Int):=if b.length % 6 = 0 then zgw b (b.length / 6) else []
theorem zcG (b : List UInt8) (k : Nat) : (zgw b k).length = k:=by induction k with|zero=>rfl|succ k ih=>simp [zgw,ih]
theorem zdq (f q : Bool) (b : List UInt8) (hb : b.length ≤ 100000000000) : AEq Tryz.prog 99 [.sl f q (b.map zf)] [] (.tu [.sl false false ((zeq b).map zV),i64 (zmh b)]) []:=by
 by_cases h6 : b.length % 6 = 0
 ·have h1 : zmh b = 0 := if_pos h6
  have h2 : zeq b = zgw b (b.length / 6):=if_pos h6
  rw [h1,h2]
  refine zc Tryz.func99 rfl Tryz.ntmps99 (by simp) (fun hsc=>?_);simp only [Lf.enter,Nat.reduceAdd];clear hsc
  have hU:=True.intro
  repeat' (first|(refine goR ?_)|(refine za (fun K hK=>?_))|((refine zb (fun hcd=>?_) (fun hcd=>?_))<;>(try simp only [hcP] at hcd)<;>(try exact cdT))|(refine zd (f:=95) rfl Tryz.call95 (h:=AEq.sub' [] (by first|((repeat' (first|exact trivial|(first|exact yf|exact zE id id|exact yx|exact zE (by simp) id|exact zE (by simp) (fun _=>rfl)|exact zS (by rfl) (by rfl) (fun _=>rfl)|exact yd (by rfl) (by rfl) (fun _=>rfl)|exact yZ (by rfl) (by rfl)|exact yc)|refine ⟨?_,?_⟩));done)|fail) (hc:=zep _ _ _ (by omega)) (hq:=?_)))|(refine hK _ _ ?_;clear hK K))
  refine yp 5 92 2 (by decide) (by rfl) rfl rfl ?_
  refine zo [5,6,7,8,9,16,17,18,19,20,21,22,23,24,25,26,27,28,29,30,31,32,33,34] (fun s : Nat × Nat=>[(5,.row 1 s.2)]) (fun s=>[.box [.sl false false (b.map zf),i64 (6 * s.1)],.row s.2 92 2 ((zgw b s.1).map zV)]) (fun s=>s.1 ≤ b.length / 6) (fun s=>b.length / 6 - s.1) (0,0) (Nat.zero_le _) ?_ rfl ?_
  ·(refine ⟨⟨_,sT,?_⟩,trivial⟩<;>(try (first|exact zh)))
  ·rintro ⟨k, s⟩ hk
   simp only [yn,List.map_cons,List.map_nil,List.cons_append,List.nil_append]
   dsimp only at hk ⊢
   have hpl:=zcG b k
   by_cases hlt : k < b.length / 6
   ·have e1 : (6 * (k : Int)).toNat = 6 * k := by omega
    have e2 : (6 * (k : Int) + 2).toNat = 6 * k + 2:=by omega
    have hE1 : j9 (b.drop (6 * (k : Int)).toNat) 2 = 0:=by
     unfold j9
     rw [if_neg (by rw [yg (by omega)];simp),if_neg (by rw [e1,List.length_drop];omega)]
    have hE2 : j9 (b.drop (6 * (k : Int) + 2).toNat) 4 = 0:=by
     unfold j9
     rw [if_neg (by rw [yg (by omega)];simp),if_neg (by rw [e2,List.length_drop];omega)]
    have hc1 : zkV b (6 * (k : Int)) 2 = 6 * (k : Int) + 2:=by unfold zkV;rw [if_pos hE1]
    have hc2 : zkV b (6 * (k : Int) + 2) 4 = 6 * ((k + 1 : Nat) : Int):=by unfold zkV;rw [if_pos hE2];omega
    have hd : zov (b.drop (6 * k)) = (zJ (b.drop (6 * (k : Int)).toNat) 2,zJ (b.drop (6 * (k : Int) + 2).toNat) 4):=by
     unfold zov;rw [e1,e2,List.drop_drop]
    have hU:=And.intro @hc1 (@hc2)
    repeat' (first|(refine goS ?_)|(refine za (fun K hK=>?_))|((refine zb (fun hcd=>?_) (fun hcd=>?_))<;>(try simp only [hcP] at hcd)<;>(try exact cdT))|(refine zd (f:=144) rfl Tryz.call144 (h:=AEq.sub' [_] (by first|((repeat' (first|exact trivial|(first|exact yf|exact zE id id|exact yx|exact zE (by simp) id|exact zE (by simp) (fun _=>rfl)|exact zS (by rfl) (by rfl) (fun _=>rfl)|exact yd (by rfl) (by rfl) (fun _=>rfl)|exact yZ (by rfl) (by rfl)|exact yc)|refine ⟨?_,?_⟩));done)|fail) (hc:=zba _ _ _ _ (by omega) (by omega) (by omega)) (hq:=?_)))|(refine zd (f:=98) rfl Tryz.call98 (h:=AEq.sub' [_] (by first|((repeat' (first|exact trivial|(first|exact yf|exact zE id id|exact yx|exact zE (by simp) id|exact zE (by simp) (fun _=>rfl)|exact zS (by rfl) (by rfl) (fun _=>rfl)|exact yd (by rfl) (by rfl) (fun _=>rfl)|exact yZ (by rfl) (by rfl)|exact yc)|refine ⟨?_,?_⟩));done)|fail) (hc:=v9 _ _ _ (by omega) (by omega)) (hq:=?_)))|(refine hK _ _ ?_;clear hK K)|(dsimp only [Lf.yW,Lf.kf]))
    refine ⟨(k + 1,s + 1),by dsimp only;omega,by dsimp only;omega,?_,arT,by first|(dsimp only;simp only [zgw,hd,List.map_append,List.map_cons,List.map_nil,zV];done)|fail⟩
    (refine ⟨⟨_,sT,?_⟩,trivial⟩<;>(try (first|exact zh)))
   ·have he : k = b.length / 6 := by omega
    subst he
    repeat' (first|(refine goR ?_)|(refine za (fun K hK=>?_))|((refine zb (fun hcd=>?_) (fun hcd=>?_))<;>(try simp only [hcP] at hcd)<;>(try exact cdT))|(refine zd (f:=98) rfl Tryz.call98 (h:=AEq.sub' [_] (by first|((repeat' (first|exact trivial|(first|exact yf|exact zE id id|exact yx|exact zE (by simp) id|exact zE (by simp) (fun _=>rfl)|exact zS (by rfl) (by rfl) (fun _=>rfl)|exact yd (by rfl) (by rfl) (fun _=>rfl)|exact yZ (by rfl) (by rfl)|exact yc)|refine ⟨?_,?_⟩));done)|fail) (hc:=v9 _ _ _ (by omega) (by omega)) (hq:=?_)))|((refine ze [] (by rw [Tryz.results99,Lf.yb]) (zu ?_ ?_) ?_)<;>(try (first|exact zh|exact stT)))|(refine hK _ _ ?_;clear hK K)|(apply_assumption (exfalso:=false) (symm:=false)))
 ·have h1 : zmh b = 4 := if_neg h6
  have h2 : zeq b = []:=if_neg h6
  rw [h1,h2]
  refine zc Tryz.func99 rfl Tryz.ntmps99 (by simp) (fun hsc=>?_);simp only [Lf.enter,Nat.reduceAdd];clear hsc
  have hU:=True.intro
  repeat' (first|(refine goR ?_)|(refine za (fun K hK=>?_))|((refine zb (fun hcd=>?_) (fun hcd=>?_))<;>(try simp only [hcP] at hcd)<;>(try exact cdT))|((refine ze [] (by rw [Tryz.results99,Lf.yb]) (zu ?_ ?_) ?_)<;>(try (first|exact zh|exact stT)))|(refine hK _ _ ?_;clear hK K))
theorem zgj (f : Bool) (b : List UInt8) (hb : b.length ≤ 100000000000) : AEq Tryz.prog 110 [.sl f false (b.map zf)] [] (.tu [.sl false false ((zeq b).map zV),bl (decide (zmh b = 0))]) []:=by
 have h1 : b.length % 6 = 0 → zmh b = 0:=fun h=>if_pos h
 have h2 : b.length % 6 = 0 → zeq b = zgw b (b.length / 6):=fun h=>if_pos h
 have h3 : ¬ b.length % 6 = 0 → zmh b = 4:=fun h=>if_neg h
 have h4 : ¬ b.length % 6 = 0 → zeq b = []:=fun h=>if_neg h
 refine zc Tryz.func110 rfl Tryz.ntmps110 (by simp) (fun hsc=>?_);simp only [Lf.enter,Nat.reduceAdd];clear hsc
 have hU:=True.intro
 repeat' (first|(refine goR ?_)|(refine za (fun K hK=>?_))|(refine hK _ _ ?_;clear hK K))
 refine yp 4 92 2 (by decide) (by rfl) rfl rfl ?_
 refine zo [0,4,5,6,7,8,9,10,11,12,13,14,15,16,17,18,19,20,21,22,23,24,25,26,27,28,29,30] (fun s : Nat × Nat=>[(4,.row 0 s.2),(0,.sl false false ((b.drop (6 * s.1)).map zf))]) (fun s=>[.row s.2 92 2 ((zgw b s.1).map zV)]) (fun s=>s.1 ≤ b.length / 6) (fun s=>b.length / 6 - s.1) (0,0) (Nat.zero_le _) ?_ rfl ?_
 ·(refine ⟨⟨_,sT,?_⟩,⟨_,sT,?_⟩,trivial⟩<;>(try (first|exact zh)))
 ·rintro ⟨k, s⟩ hk
  simp only [yn,List.map_cons,List.map_nil,List.cons_append,List.nil_append]
  dsimp only at hk ⊢
  have hpl:=zcG b k
  have hdl : (b.drop (6 * k)).length = b.length - 6 * k:=List.length_drop
  by_cases hlt : k < b.length / 6
  ·have hd : zov (b.drop (6 * k)) = (zJ (b.drop (6 * k)) 2, zJ ((b.drop (6 * k)).drop 2) 4) := rfl
   have hdd : (b.drop (6 * k)).drop 6 = b.drop (6 * (k + 1)):=by rw [List.drop_drop];congr 1
   have hd2 : ((b.drop (6 * k)).drop 2).length = b.length - 6 * k - 2:=by rw [List.length_drop,hdl]
   repeat' (first|(refine goS ?_)|(refine za (fun K hK=>?_))|((refine zb (fun hcd=>?_) (fun hcd=>?_))<;>(try simp only [hcP] at hcd)<;>(try exact cdT))|(guard_target =~ SOp _ _ ⟨_,.slice _ _ _ _ _,_,_,_,none⟩ _ _ _;refine kj rfl (hg:=(fun _=>gT)) (hK:=?_))|(refine zd (f:=159) rfl Tryz.call159 (h:=AEq.pure' (hc:=zen _ _ _ _ (by omega)) (hq:=?_)))|(refine hK _ _ ?_;clear hK K)|(dsimp only [Lf.yW,Lf.kf]))
   refine ⟨(k + 1,s + 1),by dsimp only;omega,by dsimp only;omega,?_,arT,by first|(dsimp only;simp only [zgw,hd,List.map_append,List.map_cons,List.map_nil,zV];done)|fail⟩
   (refine ⟨⟨_,sT,?_⟩,⟨_,sT,?_⟩,trivial⟩<;>(try (first|exact zh)))
   all_goals exact vp hdd id
  ·have he : k = b.length / 6 := by omega
   subst he
   repeat' (first|(refine goR ?_)|(refine za (fun K hK=>?_))|((refine zb (fun hcd=>?_) (fun hcd=>?_))<;>(try simp only [hcP] at hcd)<;>(try exact cdT))|((refine ze [] (by rw [Tryz.results110,Lf.yb]) (zu ?_ ?_) ?_)<;>(try (first|exact zh|exact stT)))|(refine hK _ _ ?_;clear hK K)|(apply_assumption (exfalso:=false) (symm:=false)))
   ·rw [h4 (by omega)];exact vD
   ·exact zq (by rw [h3 (by omega)];rfl)
   ·rw [h2 (by omega)];exact vD
   ·exact zq (by rw [h1 (by omega)];rfl)
def zcH (s : Int × Int) : Prop:=yl s.1 2 = 0 ∧ yl s.2 4 = 0
instance (s : Int × Int) : Decidable (zcH s):=by unfold zcH;infer_instance
def zis (s : Int × Int) : List UInt8:=beB s.1 2 ++ beB s.2 4
def spE : List (Int × Int) → Int
 | []=>0
 | s :: l=>if zcH s then spE l else 5
def spF (l : List (Int × Int)) : List UInt8:=l.flatMap zis
def spB (l : List (Int × Int)) : List UInt8:=if spE l = 0 then spF l else []
theorem zfy (l : List (Int × Int)) (s : Int × Int) : spF (l ++ [s]) = spF l ++ zis s:=by simp [spF]
theorem jV (l : List (Int × Int)) : (spF l).length = 6 * l.length:=by
 induction l with
 | nil=>rfl
 | cons s l ih=>
  show (zis s ++ spF l).length = _
  rw [List.length_append,ih,zis,List.length_append,zM,zM,List.length_cons];omega
theorem jC (n size : Int) (h1 : 1 ≤ size) (h2 : size ≤ 4) (h : ¬ yl n size = 0) : yl n size = 5:=by
 unfold yl at *
 rw [yg ⟨h1,h2⟩] at *
 rw [if_neg (by simp)] at *
 split
 ·rfl
 ·rename_i h3;rw [if_neg h3] at h;exact absurd rfl h
theorem zbb (b : List UInt8) (n size : Int) (h : yl n size = 0) : zay b n size = b ++ beB n size.toNat:=if_pos h
theorem zfz {l : List (Int × Int)} {i : Nat} {s : Int × Int} (h : spE l = spE (l.drop i)) (hs : l[i]? = some s) (hc : ¬ zcH s) : spE l = 5:=by
 rw [h,jf hs,spE,if_neg hc]
theorem zrU {l : List (Int × Int)} {i : Nat} {s : Int × Int} (h : spE l = spE (l.drop i)) (hs : l[i]? = some s) (hc : zcH s) : spE l = spE (l.drop (i + 1)):=by
 rw [h,jf hs,spE,if_pos hc]
theorem zmi {l : List (Int × Int)} {i : Nat} (h : spE l = spE (l.drop i)) (hi : l.length ≤ i) : spE l = 0:=by
 rw [h,List.drop_eq_nil_of_le hi];rfl
theorem zit (f q : Bool) (l : List (Int × Int)) (hl : l.length ≤ 1000000) : AEq Tryz.prog 130 [.sl f q (l.map zV)] [] (.tu [.sl false false ((spB l).map zf),i64 (spE l)]) []:=by
 have hB : spE l = 0 → spB l = spF l:=fun h=>if_pos h
 have hB5 : spE l = 5 → spB l = []:=fun h=>if_neg (by omega)
 refine zc Tryz.func130 rfl Tryz.ntmps130 (by simp) (fun hsc=>?_);simp only [Lf.enter,Nat.reduceAdd];clear hsc
 have hU:=True.intro
 repeat' (first|(refine goR ?_)|(refine za (fun K hK=>?_))|(refine hK _ _ ?_;clear hK K))
 refine zU [2,3,4,6,7,8,11,12,13,14,15,16,17,18,19,20,21,22,23,24,25,26,27,28,29,30,31,32,33,34,35] [] (fun i : Nat=>[(11,i64 i),(4,.sl false false ((spF (l.take i)).map zf))]) (fun i=>[]) (fun i=>i ≤ l.length ∧ spE l = spE (l.drop i)) (fun i=>l.length - i) 0 (fun _=>rfl) rfl rfl ⟨Nat.zero_le _,rfl⟩ ?_ rfl (by intro s i x h;simp only [List.mem_cons,Prod.mk.injEq,List.not_mem_nil,or_false] at h;rcases h with ⟨rfl,_⟩|⟨rfl,_⟩<;>decide) ?_
 ·(refine ⟨⟨_,sT,?_⟩,⟨_,sT,?_⟩,trivial⟩<;>(try (first|exact zh)))
 ·rintro i ⟨hi, hk⟩
  simp only [yn,List.map_cons,List.map_nil,List.cons_append,List.nil_append]
  have hfl:=jV (l.take i)
  rw [List.length_take] at hfl
  by_cases hlt : i < l.length
  ·obtain ⟨s, hs⟩ := yy hlt
   have hsn:=zfy (l.take i) s
   rw [← z9 hs] at hsn
   have hpl:=zkS (spF (l.take i)) s.1 2
   by_cases h1 : yl s.1 2 = 0
   ·have hL1 := zbb (spF (l.take i)) s.1 2 h1
    by_cases h2 : yl s.2 4 = 0
    ·have hgo := zrU hk hs ⟨h1, h2⟩
     have hL2:=zbb (zay (spF (l.take i)) s.1 2) s.2 4 h2
     have hU:=And.intro @h1 (@h2)
     repeat' (first|(refine goR ?_)|(refine za (fun K hK=>?_))|((refine zb (fun hcd=>?_) (fun hcd=>?_))<;>(try simp only [hcP] at hcd)<;>(try exact cdT))|(refine zd (f:=171) rfl Tryz.call171 (h:=AEq.pure' (hc:=zft _ _ _ _ _ (by omega)) (hq:=?_)))|(refine hK _ _ ?_;clear hK K))
     refine ⟨i + 1,⟨by omega,hgo⟩,by omega,?_,arT,srT⟩
     (refine ⟨⟨_,sT,?_⟩,⟨_,sT,?_⟩,trivial⟩<;>(try (first|exact zh)))
     all_goals exact vp (by rw [hL2,hL1,hsn,List.append_assoc];rfl) id
    ·have h5 := jC _ _ (by decide) (by decide) h2
     have hh:=zfz hk hs (fun h=>h2 h.2)
     have hb5:=hB5 hh
     have hU:=And.intro @h1 (@h5)
     repeat' (first|(refine goR ?_)|(refine za (fun K hK=>?_))|((refine zb (fun hcd=>?_) (fun hcd=>?_))<;>(try simp only [hcP] at hcd)<;>(try exact cdT))|(refine zd (f:=171) rfl Tryz.call171 (h:=AEq.pure' (hc:=zft _ _ _ _ _ (by omega)) (hq:=?_)))|((refine ze [] (by rw [Tryz.results130,Lf.yb]) (zu ?_ ?_) ?_)<;>(try (first|exact zh|exact stT)))|(refine hK _ _ ?_;clear hK K))
     ·(rw [hb5];exact vD)
     ·exact zT (by rw [hh])
   ·have h5 := jC _ _ (by decide) (by decide) h1
    have hh:=zfz hk hs (fun h=>h1 h.1)
    have hb5:=hB5 hh
    have hU:=@h5
    repeat' (first|(refine goR ?_)|(refine za (fun K hK=>?_))|((refine zb (fun hcd=>?_) (fun hcd=>?_))<;>(try simp only [hcP] at hcd)<;>(try exact cdT))|(refine zd (f:=171) rfl Tryz.call171 (h:=AEq.pure' (hc:=zft _ _ _ _ _ (by omega)) (hq:=?_)))|((refine ze [] (by rw [Tryz.results130,Lf.yb]) (zu ?_ ?_) ?_)<;>(try (first|exact zh|exact stT)))|(refine hK _ _ ?_;clear hK K))
    ·(rw [hb5];exact vD)
    ·exact zT (by rw [hh])
  ·have he := zmi hk (by omega)
   have ht : l.take i = l:=List.take_of_length_le (by omega)
   repeat' (first|(refine goR ?_)|(refine za (fun K hK=>?_))|((refine zb (fun hcd=>?_) (fun hcd=>?_))<;>(try simp only [hcP] at hcd)<;>(try exact cdT))|((refine ze [] (by rw [Tryz.results130,Lf.yb]) (zu ?_ ?_) ?_)<;>(try (first|exact zh|exact stT)))|(refine hK _ _ ?_;clear hK K)|(apply_assumption (exfalso:=false) (symm:=false)))
   ·exact vp (by rw [ht,hB he]) id
   ·exact zT (by rw [he])
theorem zfA (f q : Bool) (l : List (Int × Int)) (hl : l.length ≤ 1000000) : AEq Tryz.prog 84 [.sl f q (l.map zV)] [] (.tu [.sl false false ((spB l).map zf),bl (decide (spE l = 0))]) []:=by
 have hB : spE l = 0 → spB l = spF l:=fun h=>if_pos h
 have hB5 : spE l = 5 → spB l = []:=fun h=>if_neg (by omega)
 refine zc Tryz.func84 rfl Tryz.ntmps84 (by simp) (fun hsc=>?_);simp only [Lf.enter,Nat.reduceAdd];clear hsc
 have hU:=True.intro
 repeat' (first|(refine goR ?_)|(refine za (fun K hK=>?_))|(refine hK _ _ ?_;clear hK K))
 refine yp 4 5 1 (by decide) (by rfl) rfl rfl ?_
 refine zo [2,3,4,5,6,7,8,9,10,11,12,13,14,15,16,17,18,19,20,21,22,23,24,25,26,27,28,29,30,31,32,33,34,35,36,37,38,39,40,41,42,43,44] (fun s : Nat × Nat=>[(5,i64 s.1),(4,.row 0 s.2)]) (fun s=>[.row s.2 5 1 ((spF (l.take s.1)).map zf)]) (fun s=>s.1 ≤ l.length ∧ spE l = spE (l.drop s.1)) (fun s=>l.length - s.1) (0,0) ⟨Nat.zero_le _,rfl⟩ ?_ rfl ?_
 ·(refine ⟨⟨_,sT,?_⟩,⟨_,sT,?_⟩,trivial⟩<;>(try (first|exact zh)))
 ·rintro ⟨i, st⟩ ⟨hi, hk⟩
  simp only [yn,List.map_cons,List.map_nil,List.cons_append,List.nil_append]
  dsimp only at hi hk ⊢
  have hfl:=jV (l.take i)
  rw [List.length_take] at hfl
  by_cases hlt : i < l.length
  ·obtain ⟨s, hs⟩ := yy hlt
   have hsn:=zfy (l.take i) s
   rw [← z9 hs] at hsn
   by_cases h1 : yl s.1 2 = 0
   ·have hL1 := zbb [] s.1 2 h1
    by_cases h2 : yl s.2 4 = 0
    ·have hgo := zrU hk hs ⟨h1, h2⟩
     have hL2:=zbb [] s.2 4 h2
     have hl1:=zM s.1 2
     have hl2:=zM s.2 4
     rw [List.nil_append] at hL1 hL2
     have hU:=And.intro @h1 ( And.intro @h2 ( And.intro @hL1 (@hL2)))
     repeat' (first|(refine goS ?_)|(refine za (fun K hK=>?_))|((refine zb (fun hcd=>?_) (fun hcd=>?_))<;>(try simp only [hcP] at hcd)<;>(try exact cdT))|(refine zd (f:=134) rfl Tryz.call134 (h:=AEq.pure' (hc:=vr _ _ _ _ _ (by simp only [List.length_map,List.length_append,List.length_take,List.length_drop,List.length_cons,List.length_nil];omega)) (hq:=?_)))|(refine hK _ _ ?_;clear hK K))
     refine ⟨(i + 1,st + 2),⟨by dsimp only;omega,hgo⟩,by dsimp only;omega,?_,arT,by first|(dsimp only;rw [hsn];simp [zis];done)|fail⟩
     (refine ⟨⟨_,sT,?_⟩,⟨_,sT,?_⟩,trivial⟩<;>(try (first|exact zh)))
    ·have h5 := jC _ _ (by decide) (by decide) h2
     have hh:=zfz hk hs (fun h=>h2 h.2)
     have hb5:=hB5 hh
     have hU:=And.intro @h1 (@h5)
     repeat' (first|(refine goR ?_)|(refine za (fun K hK=>?_))|((refine zb (fun hcd=>?_) (fun hcd=>?_))<;>(try simp only [hcP] at hcd)<;>(try exact cdT))|(refine zd (f:=134) rfl Tryz.call134 (h:=AEq.pure' (hc:=vr _ _ _ _ _ (by simp only [List.length_map,List.length_append,List.length_take,List.length_drop,List.length_cons,List.length_nil];omega)) (hq:=?_)))|((refine ze [] (by rw [Tryz.results84,Lf.yb]) (zu ?_ ?_) ?_)<;>(try (first|exact zh|exact stT)))|(refine hK _ _ ?_;clear hK K))
     ·(rw [hb5];exact vD)
     ·exact zq (by rw [hh];rfl)
   ·have h5 := jC _ _ (by decide) (by decide) h1
    have hh:=zfz hk hs (fun h=>h1 h.1)
    have hb5:=hB5 hh
    have hU:=@h5
    repeat' (first|(refine goR ?_)|(refine za (fun K hK=>?_))|((refine zb (fun hcd=>?_) (fun hcd=>?_))<;>(try simp only [hcP] at hcd)<;>(try exact cdT))|(refine zd (f:=134) rfl Tryz.call134 (h:=AEq.pure' (hc:=vr _ _ _ _ _ (by simp only [List.length_map,List.length_append,List.length_take,List.length_drop,List.length_cons,List.length_nil];omega)) (hq:=?_)))|((refine ze [] (by rw [Tryz.results84,Lf.yb]) (zu ?_ ?_) ?_)<;>(try (first|exact zh|exact stT)))|(refine hK _ _ ?_;clear hK K))
    ·(rw [hb5];exact vD)
    ·exact zq (by rw [hh];rfl)
  ·have he := zmi hk (by omega)
   have ht : l.take i = l:=List.take_of_length_le (by omega)
   repeat' (first|(refine goR ?_)|(refine za (fun K hK=>?_))|((refine zb (fun hcd=>?_) (fun hcd=>?_))<;>(try simp only [hcP] at hcd)<;>(try exact cdT))|((refine ze [] (by rw [Tryz.results84,Lf.yb]) (zu ?_ ?_) ?_)<;>(try (first|exact zh|exact stT)))|(refine hK _ _ ?_;clear hK K)|(apply_assumption (exfalso:=false) (symm:=false)))
   ·exact vp (by rw [ht,hB he]) id
   ·exact zq (by rw [he];rfl)
end Go.Proofs.YtdalcgfnlbofdaaGreatDoor
namespace Go.Proofs.YtdalcgfnlbofdaaGreatDoor
open Go Go.Lf Go.Proofs
attribute [local irreducible] Lf.rg Lf.ro Lf.PWp Lf.SOp Lf.ACall Lf.Scoped Lf.dg
set_option maxRecDepth 20000
set_option maxHeartbeats 4000000
structure Hd where
 (l t g s : Int) (r : Bool)
@[go_sem] def hdA (h : Hd) : List AV:=[i64 h.l,i64 h.t,i64 h.g,i64 h.s,bl h.r]
def kK (h : Hd) : Prop:=0 ≤ h.l ∧ h.l ≤ 16777215 ∧ 0 ≤ h.t ∧ h.t ≤ 255 ∧ 0 ≤ h.g ∧ h.g ≤ 255 ∧ 0 ≤ h.s ∧ h.s ≤ 2147483647
instance (h : Hd) : Decidable (kK h):=by unfold kK;infer_instance
theorem ziu (n m : Int) : AEq Tryz.prog 92 [i64 n,i64 m] [] (bl (decide (0 ≤ n) && decide (n ≤ m))) []:=by
 refine zc Tryz.func92 rfl Tryz.ntmps92 (by simp) (fun hsc=>?_);simp only [Lf.enter,Nat.reduceAdd];clear hsc
 have hU:=True.intro
 repeat' (first|(refine goR ?_)|(refine za (fun K hK=>?_))|((refine ze [] (by rw [Tryz.results92,Lf.zt]) (zj ?_) ?_)<;>(try (first|exact zh|exact stT)))|(refine hK _ _ ?_;clear hK K))
theorem zmj (l t g s : Int) (r : Bool) : AEq Tryz.prog 50 [.ag [i64 l,i64 t,i64 g,i64 s,bl r]] [] (bl (decide (kK ⟨l,t,g,s,r⟩))) []:=by
 refine zc Tryz.func50 rfl Tryz.ntmps50 (by simp) (fun hsc=>?_);simp only [Lf.enter,Nat.reduceAdd];clear hsc
 have hU:=True.intro
 repeat' (first|(refine goR ?_)|(refine za (fun K hK=>?_))|(guard_target =~ rg _ _ _ (⟨_,_,_,_,_,some _⟩ :: _) _ _ _;(first|refine zv gT (fun hcd=>?_) (fun hcd=>?_)|refine zp gT (fun hcd=>?_) (fun hcd=>?_))<;>(try simp only [hcd])<;>(try (simp only [Bool.not_eq_true',Bool.not_eq_false'] at hcd;try simp only [hcd]))<;>(refine vC (Γ2:=_) ewT ?_)<;>(try simp only [hcP] at hcd)<;>(try exact cdT))|(refine zd (f:=92) rfl Tryz.call92 (h:=AEq.pure' agT (ziu _ _) (hq:=?_)))|((refine ze [] (by rw [Tryz.results50,Lf.zt]) (zj ?_) ?_)<;>(try (first|exact zh|exact stT)))|(refine hK _ _ ?_;clear hK K))
 all_goals first|exact zq (by symm;rw [decide_eq_true_eq];unfold kK;dsimp only;omega)|exact zq (by symm;rw [decide_eq_false_iff_not];unfold kK;dsimp only;omega)|exact zq (by rw [Bool.eq_iff_iff];simp only [Bool.and_eq_true,decide_eq_true_eq];unfold kK;dsimp only;omega)
def hdS (s : Int) (r : Bool) : Int:=if r then s + 2147483648 else s
theorem zkW (s : Int) : hdS s true = s + 2147483648:=rfl
theorem zkX (s : Int) : hdS s false = s:=rfl
def hdB (h : Hd) : List UInt8:=((beB h.l 3 ++ beB h.t 1) ++ beB h.g 1) ++ beB (hdS h.s h.r) 4
theorem vb (n size : Int) (h1 : 1 ≤ size) (h2 : size ≤ 4) (h3 : 0 ≤ n) (h4 : n ≤ zcC size) : yl n size = 0:=by
 unfold yl
 rw [yg ⟨h1,h2⟩,if_neg (by simp),if_neg (by omega)]
theorem ziv (b : List UInt8) (n size : Int) (h1 : 1 ≤ size) (h2 : size ≤ 4) (h3 : 0 ≤ n) (h4 : n ≤ zcC size) : zay b n size = b ++ beB n size.toNat:=if_pos (vb n size h1 h2 h3 h4)
theorem zv8 : zcC 1 = 255:=rfl
theorem ziw : zcC 4 = 4294967295:=rfl
theorem zix (f q : Bool) (b : List UInt8) (n size : Int) (h1 : 1 ≤ size) (h2 : size ≤ 4) (h0 : 0 ≤ n) (hn : n ≤ zcC size) (hb : b.length ≤ 1000000000) : AEq Tryz.prog 171 [.sl f q (b.map zf),i64 n,i64 size] [] (.tu [.row 0 size.toNat,i64 0]) [.row size.toNat 5 1 ((b ++ beB n size.toNat).map zf)]:=by
 have hpn : (zX size.toNat : Int) ≤ 4294967296:=(vI _ (by omega)).2
 have htl:=jU size h1 h2
 obtain ⟨m,hm⟩ : ∃ m,m = zcC size:=⟨_,rfl⟩
 have hm':=hm.symm
 rw [← hm] at hn htl
 refine zc Tryz.func171 rfl Tryz.ntmps171 (by simp) (fun hsc=>?_);simp only [Lf.enter,Nat.reduceAdd];clear hsc
 have hU:=True.intro
 repeat' (first|(refine goR ?_)|(refine za (fun K hK=>?_))|((refine zb (fun hcd=>?_) (fun hcd=>?_))<;>(try simp only [hcP] at hcd)<;>(try exact cdT))|(refine zd (f:=194) rfl Tryz.call194 (h:=AEq.pure' agT (za8 _ (by assumption) (by assumption)) (hq:=?_)))|(guard_target =~ SOp _ _ ⟨_,.makeSlice _ _ _,_,_,_,none⟩ _ _ _;refine zbD rfl (he:=eoT) (hK:=?_))|(guard_target =~ SOp _ _ ⟨_,.call ⟨.builtin .copy,_,_⟩,_,_,_,none⟩ _ _ _;refine zlD rfl (hK:=?_))|(refine hK _ _ ?_;clear hK K))
 refine zo [10, 11, 40, 41, 42, 43, 44, 45, 46, 47, 48, 49, 50, 51] (fun s : Int × List UInt8 × Nat => [(10, .row 0 s.2.2), (11, i64 s.1)]) (fun s => [.row s.2.2 5 1 ((b ++ s.2.1).map zf)])
  (fun s=>∃ k : Nat,s.1 = 8 * k ∧ k ≤ size.toNat ∧ s.2.1 ++ beB n k = beB n size.toNat ∧ s.2.2 + k = size.toNat) (fun s=>s.1.toNat) (8 * size,[],0) ⟨size.toNat,by simp;omega,Nat.le_refl _,rfl,Nat.zero_add _⟩ ?_ (by rw [List.append_nil]) ?_
 ·(refine ⟨⟨_,sT,?_⟩,⟨_,sT,?_⟩,trivial⟩<;>(try (first|exact zh)))
 ·rintro ⟨a, l, s⟩ ⟨k, ha, hk, hl, hst⟩
  simp only [yn,List.map_cons,List.map_nil,List.cons_append,List.nil_append]
  dsimp only at ha hl hst ⊢
  have hll : l.length + k = size.toNat:=by have:=congrArg List.length hl;simpa [zM] using this
  by_cases h0k : k = 0
  ·subst h0k
   have hl' : l = beB n size.toNat:=by simpa [beB] using hl
   subst hl'
   obtain rfl : s = size.toNat:=by omega
   repeat' (first|(refine goR ?_)|(refine za (fun K hK=>?_))|((refine zb (fun hcd=>?_) (fun hcd=>?_))<;>(try simp only [hcP] at hcd)<;>(try exact cdT))|((refine ze [0] (by rw [Tryz.results171,Lf.yb]) (zu ?_ ?_) ?_)<;>(try (first|exact zh|exact stT)))|(refine hK _ _ ?_;clear hK K)|(apply_assumption (exfalso:=false) (symm:=false)))
  ·obtain ⟨k', rfl⟩ : ∃ k', k = k' + 1 := ⟨k - 1, by omega⟩
   have hsb:=zfs n h0 k' (by omega) (a - 8) (by omega)
   have hU:=@hsb
   repeat' (first|(refine goS ?_)|(refine za (fun K hK=>?_))|((refine zb (fun hcd=>?_) (fun hcd=>?_))<;>(try simp only [hcP] at hcd)<;>(try exact cdT))|(refine hK _ _ ?_;clear hK K)|(dsimp only [Lf.yW,Lf.kf]))
   refine ⟨(a - 8,l ++ [byteAt n k'],s + 1),⟨k',by simp only [];omega,by omega,by simpa [beB] using hl,by dsimp only;omega⟩,by simp only [];omega,?_,arT,by simp [zf]⟩
   (refine ⟨⟨_,sT,?_⟩,⟨_,sT,?_⟩,trivial⟩<;>(try (first|exact zh)))
theorem zrV (t : Int) (h0 : 0 ≤ t) (h1 : t ≤ 255) : List.map zf (beB t 1) = [[AV.lit (.int .u8 t)]]:=by
 have:=yS t 0
 rw [show zX 0 = 1 from rfl] at this
 show [[AV.lit (.int .u8 (byteAt t 0).toNat)]] = _
 rw [this,show t / 1 % 256 = t from by omega]
end Go.Proofs.YtdalcgfnlbofdaaGreatDoor
namespace Go.Proofs.YtdalcgfnlbofdaaGreatDoor
open Go Go.Lf Go.Proofs
attribute [local irreducible] Lf.rg Lf.ro Lf.PWp Lf.SOp Lf.ACall Lf.Scoped Lf.dg
set_option maxRecDepth 20000
set_option maxHeartbeats 4000000
theorem vc (b : List UInt8) (n : Int) : 0 ≤ zJ b n ∧ zJ b n < 4294967296:=by
 unfold zJ
 split
 ·rename_i h
  obtain ⟨h1,h2⟩:=h
  have h4 : n ≤ 4:=by simp [okS] at h1;omega
  have:=zcD (b.take n.toNat)
  have hp : (zX (b.take n.toNat).length : Int) ≤ 4294967296:=(vI _ (by rw [List.length_take];omega)).2
  omega
 ·omega
def yB (m : Int) : Int:=if m < 2147483648 then m else m - 2147483648
theorem zcI (b : List UInt8) (a : Nat) (x : UInt8) (h : b[a]? = some x) : zJ (b.drop a) 1 = x.toNat:=by
 have hl : a < b.length:=(List.getElem?_eq_some_iff.1 h).1
 have e : (b.drop a).take 1 = [x]:=by
  have h2 : (b.drop a)[0]? = some x:=by rw [List.getElem?_drop,Nat.add_zero];exact h
  have:=z9 h2
  simpa using this
 unfold zJ
 rw [if_pos ⟨rfl,by rw [List.length_drop];omega⟩,show (1 : Int).toNat = 1 from rfl,e]
 simp [yO]
theorem hof (w t g s : Int) (r f : Bool) (b : List UInt8) (hl : b.length ≤ 100000000000) : AEq Tryz.prog 51 [.ag [i64 w,i64 t,i64 g,i64 s,bl r,.sl f false (b.map zf)]] [] (.ag [i64 b.length,i64 t,i64 g,i64 s,bl r]) []:=by
 refine zc Tryz.func51 rfl Tryz.ntmps51 (by simp) (fun hsc=>?_);simp only [Lf.enter,Nat.reduceAdd];clear hsc
 have hU:=True.intro
 repeat' (first|(refine goR ?_)|(refine za (fun K hK=>?_))|((refine zY [] exT (by rfl) (by rw [Tryz.results51,Lf.yM];(try simp (disch:=omega) only [Lf.zD,go_sem,seval,↓reduceIte,hU]);rfl) sT sT (zj ?_) ?_)<;>(try (first|exact zh|exact stT)))|(refine hK _ _ ?_;clear hK K))
end Go.Proofs.YtdalcgfnlbofdaaGreatDoor
