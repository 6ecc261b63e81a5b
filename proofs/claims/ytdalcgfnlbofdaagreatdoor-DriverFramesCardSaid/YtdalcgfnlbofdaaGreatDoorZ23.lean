import Derived.Test.YtdalcgfnlbofdaaGreatDoorTg
import Derived.Test.YtdalcgfnlbofdaaGreatDoorZ21
import Derived.Test.YtdalcgfnlbofdaaGreatDoorZ17
import Derived.Test.YtdalcgfnlbofdaaGreatDoorLc
import Derived.Test.YtdalcgfnlbofdaaGreatDoorZ22
import Derived.Lib.AppendZerosOnto
set_option linter.unusedVariables false
set_option linter.unusedSimpArgs false
namespace Go.Proofs.YtdalcgfnlbofdaaGreatDoor
open Go Go.Lf Go.Proofs
attribute [local irreducible] Lf.rg Lf.ro Lf.PWp Lf.SOp Lf.ACall Lf.Scoped Lf.dg Lf.dw
set_option maxRecDepth 20000
set_option maxHeartbeats 4000000
theorem zmm {α : Type} {l : List α} {i : Nat} (h : i < l.length) : ∃ x,l[i]? = some x:=⟨l[i],List.getElem?_eq_getElem h⟩
theorem zk1 {α : Type} {a b : List α} (hl : a.length = b.length) : (∀ i : Nat,i < a.length → a[i]? = b[i]?) → a = b:=by
 intro h
 apply List.ext_getElem?
 intro i
 by_cases hi : i < a.length
 ·exact h i hi
 ·rw [List.getElem?_eq_none (by omega),List.getElem?_eq_none (by omega)]
theorem zgn {α : Type} {a b : List α} {i : Nat} {x y : α} (hx : a[i]? = some x) (hy : b[i]? = some y) (h : ∀ j : Nat,j < i → a[j]? = b[j]?) (e : x = y) : ∀ j : Nat,j < i + 1 → a[j]? = b[j]?:=by
 intro j hj
 by_cases hji : j < i
 ·exact h j hji
 ·obtain rfl : j = i := by omega
  rw [hx,hy,e]
theorem ziJ {α : Type} {a b : List α} {i : Nat} {x y : α} (hx : a[i]? = some x) (hy : b[i]? = some y) (e : ¬ x = y) : ¬ a = b:=by
 intro h
 subst h
 rw [hx] at hy
 exact e (Option.some.inj hy)
theorem zr8 {x y : Int × Int} : x = y ↔ x.1 = y.1 ∧ x.2 = y.2:=by
 obtain ⟨a,b⟩:=x;obtain ⟨c,d⟩:=y;simp
theorem zk2 (f g q r : Bool) (a b : List (Int × Int)) (ha : a.length ≤ 1000000) : AEq Tryz.prog 123 [.sl f q (a.map zV),.sl g r (b.map zV)] [] (bl (decide (a = b))) []:=by
 by_cases hl : a.length = b.length
 ·refine zc Tryz.func123 rfl Tryz.ntmps123 (by simp) (fun hsc => ?_); simp only [Lf.enter, Nat.reduceAdd]; clear hsc
  have hU:=True.intro
  repeat' (first|(refine goR ?_)|(refine za (fun K hK=>?_))|((refine zb (fun hcd=>?_) (fun hcd=>?_))<;>(try simp only [hcP] at hcd)<;>(try exact cdT))|(refine hK _ _ ?_;clear hK K))
  refine zo [4,5,13,14,15,16,17,18,19,20,21,22,23,24,25] (fun i : Nat=>[(13,i64 i)]) (fun _=>[]) (fun i=>i ≤ a.length ∧ ∀ j : Nat,j < i → a[j]? = b[j]?) (fun i=>a.length - i) 0 ⟨Nat.zero_le _,fun j hj=>by omega⟩ ?_ rfl ?_
  ·(refine ⟨⟨_,sT,?_⟩,trivial⟩<;>(try (first|exact zh)))
  ·rintro i ⟨hi, hk⟩
   simp only [yn,List.map_cons,List.map_nil,List.cons_append,List.nil_append]
   by_cases hlt : i < a.length
   ·obtain ⟨x, hx⟩ := zmm hlt
    obtain ⟨y,hy⟩:=zmm (l:=b) (i:=i) (by omega)
    by_cases hxy : x = y
    ·subst hxy
     repeat' (first|(refine goR ?_)|(refine za (fun K hK=>?_))|(guard_target =~ PWp _ _ _ _ _ _ _;refine zG mixed (by kernel_rfl) ?_)|((refine zb (fun hcd=>?_) (fun hcd=>?_))<;>(try simp only [hcP] at hcd)<;>(try exact cdT))|(refine hK _ _ ?_;clear hK K)|(guard_target =~ dg _ _ _ _ _ _ _;first|(guard_target =~ dg _ _ _ (⟨_,.binOp _ _ _ _ _,_,_,_,none⟩ :: _) _ _ _;(refine yY (x:=_) (h:=zQ (h:=zZ (ne:=true) rfl (by first|exact jR|fail) (hc:=rfl) (hK:=zi ⟨rfl,rfl⟩))) (hk:=?_)))|(guard_target =~ dg _ _ _ (⟨_,.indexAddr _ _ _,_,_,_,none⟩ :: _) _ _ _;(refine yY (x:=_) (h:=zQ (h:=yP rfl (hK:=zi ⟨rfl,rfl⟩))) (hk:=?_))))|(rw [if_pos rfl]))
     refine ⟨i + 1,⟨by omega,zgn hx hy hk rfl⟩,by omega,?_,arT,srT⟩
     (refine ⟨⟨_,sT,?_⟩,trivial⟩<;>(try (first|exact zh)))
    ·have hne := ziJ hx hy hxy
     rw [zr8] at hxy
     repeat' (first|(refine goR ?_)|(refine za (fun K hK=>?_))|(guard_target =~ PWp _ _ _ _ _ _ _;refine zG mixed (by kernel_rfl) ?_)|((refine zb (fun hcd=>?_) (fun hcd=>?_))<;>(try simp only [hcP] at hcd)<;>(try exact cdT))|((refine ze [] (by rw [Tryz.results123,Lf.zt]) (zj ?_) ?_)<;>(try (first|exact zh|exact stT)))|(guard_target =~ dg _ _ _ _ _ _ _;first|(guard_target =~ dg _ _ _ (⟨_,.binOp _ _ _ _ _,_,_,_,none⟩ :: _) _ _ _;(refine yY (x:=_) (h:=zQ (h:=zZ (ne:=true) rfl (by first|exact jR|fail) (hc:=rfl) (hK:=zi ⟨rfl,rfl⟩))) (hk:=?_)))|(guard_target =~ dg _ _ _ (⟨_,.indexAddr _ _ _,_,_,_,none⟩ :: _) _ _ _;(refine yY (x:=_) (h:=zQ (h:=yP rfl (hK:=zi ⟨rfl,rfl⟩))) (hk:=?_))))|(refine hK _ _ ?_;clear hK K))
     all_goals exact zq (by symm;rw [decide_eq_false_iff_not];exact hne)
   ·have he : a = b := zk1 hl (fun j hj => hk j (by omega))
    repeat' (first|(refine goR ?_)|(refine za (fun K hK=>?_))|((refine zb (fun hcd=>?_) (fun hcd=>?_))<;>(try simp only [hcP] at hcd)<;>(try exact cdT))|((refine ze [] (by rw [Tryz.results123,Lf.zt]) (zj ?_) ?_)<;>(try (first|exact zh|exact stT)))|(refine hK _ _ ?_;clear hK K)|(apply_assumption (exfalso:=false) (symm:=false)))
    exact zq (by symm;rw [decide_eq_true_eq];exact he)
 ·have hne : ¬ a = b := fun e => hl (by rw [e])
  refine zc Tryz.func123 rfl Tryz.ntmps123 (by simp) (fun hsc=>?_);simp only [Lf.enter,Nat.reduceAdd];clear hsc
  have hU:=True.intro
  repeat' (first|(refine goR ?_)|(refine za (fun K hK=>?_))|((refine zb (fun hcd=>?_) (fun hcd=>?_))<;>(try simp only [hcP] at hcd)<;>(try exact cdT))|((refine ze [] (by rw [Tryz.results123,Lf.zt]) (zj ?_) ?_)<;>(try (first|exact zh|exact stT)))|(refine hK _ _ ?_;clear hK K))
  exact zq (by symm;rw [decide_eq_false_iff_not];exact hne)
structure Gm where
 (t g s p : Int) (d : List UInt8) (st : List (Int × Int)) (wt pa : Int) (al : Bool) (pr la co sp : Int)
deriving DecidableEq
theorem zr9 (t g s p : Int) (fd : Bool) (d : List UInt8) (fs : Bool) (e : List (Int × Int)) (wt pa : Int) (al : Bool) (pr la co sp : Int) (t' g' s' p' : Int) (fd' : Bool) (d' : List UInt8) (fs' : Bool) (e' : List (Int × Int)) (wt' pa' : Int) (al' : Bool) (pr' la' co' sp' : Int) (hd : d.length ≤ 1000000000) (he : e.length ≤ 1000000) : AEq Tryz.prog 70 [.ag [i64 t,i64 g,i64 s,i64 p,.sl fd false (d.map zf),.sl fs false (e.map zV),i64 wt,i64 pa,bl al,i64 pr,i64 la,i64 co,i64 sp],.ag [i64 t',i64 g',i64 s',i64 p',.sl fd' false (d'.map zf),.sl fs' false (e'.map zV),i64 wt',i64 pa',bl al',i64 pr',i64 la',i64 co',i64 sp']] [] (bl (decide ((⟨t,g,s,p,d,e,wt,pa,al,pr,la,co,sp⟩ : Gm) = (⟨t',g',s',p',d',e',wt',pa',al',pr',la',co',sp'⟩ : Gm)))) []:=by
 refine zc Tryz.func70 rfl Tryz.ntmps70 (by simp) (fun hsc=>?_);simp only [Lf.enter,Nat.reduceAdd];clear hsc
 have hU:=True.intro
 repeat' (first|(refine goR ?_)|(refine za (fun K hK=>?_))|((refine zb (fun hcd=>?_) (fun hcd=>?_))<;>(try simp only [hcP] at hcd)<;>(try exact cdT))|(guard_target =~ rg _ _ _ (⟨_,_,_,_,_,some _⟩ :: _) _ _ _;(first|refine zv gT (fun hcd=>?_) (fun hcd=>?_)|refine zp gT (fun hcd=>?_) (fun hcd=>?_))<;>(try simp only [hcd])<;>(try (simp only [Bool.not_eq_true',Bool.not_eq_false'] at hcd;try simp only [hcd]))<;>(refine vC (Γ2:=_) ewT ?_)<;>(try simp only [hcP] at hcd)<;>(try exact cdT))|(guard_target =~ SOp _ _ ⟨_,.binOp _ _ _ _ _,_,_,_,none⟩ _ _ _;refine zZ (ne:=false) rfl (by first|exact zar|exact jR|exact zqL|fail) (hc:=rfl) (hK:=?_))|(refine zd (f:=122) rfl Tryz.call122 (h:=AEq.pure' agT (zfw _ _ _ _ _ _) (hq:=?_)))|(refine zd (f:=123) rfl Tryz.call123 (h:=AEq.pure' agT (zk2 _ _ _ _ _ _ (by assumption)) (hq:=?_)))|(guard_target =~ SOp _ _ ⟨_,.binOp _ _ _ _ _,_,_,_,some _⟩ _ _ _;refine zZ (ne:=false) rfl (by first|exact zar|exact jR|exact zqL|fail) (hc:=rfl) (hK:=?_))|((refine ze [] (by rw [Tryz.results70,Lf.zt]) (zj ?_) ?_)<;>(try (first|exact zh|exact stT)))|(refine hK _ _ ?_;clear hK K))
 all_goals first|exact zq (by grind)|trace_state
theorem zoF (t g s p : Int) (fd : Bool) (d : List UInt8) (fs : Bool) (e : List (Int × Int)) (wt pa : Int) (al : Bool) (pr la co sp : Int) (t' g' s' p' : Int) (fd' : Bool) (d' : List UInt8) (fs' : Bool) (e' : List (Int × Int)) (wt' pa' : Int) (al' : Bool) (pr' la' co' sp' : Int) (hd : d.length ≤ 1000000000) (he : e.length ≤ 1000000) : AEq Tryz.prog 72 [.ag [i64 t,i64 g,i64 s,i64 p,.sl fd false (d.map zf),.sl fs false (e.map zV),i64 wt,i64 pa,bl al,i64 pr,i64 la,i64 co,i64 sp],.ag [i64 t',i64 g',i64 s',i64 p',.sl fd' false (d'.map zf),.sl fs' false (e'.map zV),i64 wt',i64 pa',bl al',i64 pr',i64 la',i64 co',i64 sp']] [] (bl (decide ((⟨t,g,s,p,d,e,wt,pa,al,pr,la,co,sp⟩ : Gm) = (⟨t',g',s',p',d',e',wt',pa',al',pr',la',co',sp'⟩ : Gm)))) []:=by
 refine zc Tryz.func72 rfl Tryz.ntmps72 (by simp) (fun hsc=>?_);simp only [Lf.enter,Nat.reduceAdd];clear hsc
 have hU:=True.intro
 repeat' (first|(refine goR ?_)|(refine za (fun K hK=>?_))|(refine hK _ _ ?_;clear hK K))
 all_goals simp only [List.append_eq,List.cons_append,List.nil_append]
 repeat' (first|(refine goR ?_)|(guard_target =~ rg _ _ _ (⟨_,_,_,_,_,some _⟩ :: _) _ _ _;(first|refine zv gT (fun hcd=>?_) (fun hcd=>?_)|refine zp gT (fun hcd=>?_) (fun hcd=>?_))<;>(try simp only [hcd])<;>(try (simp only [Bool.not_eq_true',Bool.not_eq_false'] at hcd;try simp only [hcd]))<;>(refine vC (Γ2:=_) ewT ?_)<;>(try simp only [hcP] at hcd)<;>(try exact cdT))|(refine zd (f:=75) rfl Tryz.call75 (h:=AEq.pure' agT (zhk _ _ _ _ _ _ (by omega)) (hq:=?_)))|(refine zd (f:=124) rfl Tryz.call124 (h:=AEq.pure' agT (zir _ _ _ _ _ _ (by omega)) (hq:=?_)))|((refine ze [] (by rw [Tryz.results72,Lf.zt]) (zj ?_) ?_)<;>(try (first|exact zh|exact stT)))|(refine hK _ _ ?_;clear hK K))
 all_goals first|exact zq (by grind)|trace_state
def gm (f : Fm) : Gm:=⟨f.t,f.g,f.s,f.p,f.d,f.st,f.wt,f.pa,f.al,f.pr,f.la,f.co,f.sp⟩
theorem ziK {t g s : Int} {b : List UInt8} (h : y9 t g s b = (0,0)) : vj t s = true:=by
 cases e : vj t s with
 | true=>rfl
 | false=>unfold y9 at h;rw [if_pos e] at h;exact absurd h (by decide)
theorem vE {b : List UInt8} {k : Int} (h0 : 0 ≤ k) (h : k ≤ b.length) : byL b k (b.length - k) = b.drop k.toNat:=by
 have e : byE b k ((b.length : Int) - k) = 0:=by unfold byE;rw [if_neg (by omega),if_neg (by omega)]
 unfold byL
 rw [if_pos e,List.take_of_length_le (by rw [List.length_drop];omega)]
theorem zes {b : List UInt8} {k m : Int} (h0 : 0 ≤ k) (hm : 0 ≤ m) (h : k + m ≤ b.length) : byL b k (b.length - k - m) = (b.take ((b.length : Int) - m).toNat).drop k.toNat:=by
 have e : byE b k ((b.length : Int) - k - m) = 0:=by unfold byE;rw [if_neg (by omega),if_neg (by omega)]
 unfold byL
 rw [if_pos e,List.drop_take]
 congr 1
 omega
theorem vT {t g s : Int} {b : List UInt8} {n : Nm} {p : Int} (hp : vS t g b = p) (hn : zR t g b (yL t g b) = n) (hs : (zB t g 8 && shB b 0 1) = false) (hn2 : n.sh = false) (h : ¬ (b.length : Int) - n.pos < p) :
    zbe t g s b = (if t = 4 then ⟨t,g,s,p,true,[],false,zeq b,n.wt,n.pa,n.al,n.pr,n.la,n.co,n.sp⟩ else ⟨t,g,s,p,false,byL b n.pos (b.length - n.pos - max p 0),true,[],n.wt,n.pa,n.al,n.pr,n.la,n.co,n.sp⟩,0,0):=by
  have hS : zag t g b = false:=by unfold zag;rw [hs,hn,hn2];rfl
  unfold zbe
  dsimp only
  rw [if_neg (by rw [hS];simp),hn,hp,if_neg h]
  split<;>rfl
theorem zbT {t g s : Int} {b : List UInt8} (h : y9 t g s b = (0,0)) : (yq t g s b).2 = (0,0) ∧ gm (yq t g s b).1 = gm (rfM t g s b):=by
 have hst:=ziK h
 obtain ⟨hL,_,_⟩:=ziH h
 have e0 : yq t g s b = zbe t g s b:=by
  unfold yq;rw [if_neg (by rw [hst];simp),if_neg (by rw [hL];simp)]
 rw [e0]
 rcases zdt h with ⟨rfl,hx8,hx32,hgx,hgy,hne,hln,e⟩|⟨rfl,hx8,hx32,hgx,hgy,hne,hln,e⟩|⟨rfl,hx8,hx32,hgx,hgy,hne,hln,e⟩|⟨rfl,hx8,hx32,hgx,hgy,hne,hln,e⟩|⟨x,rfl,hx8,hx32,hgx,hgy,hne,hx,⟨hpb,hpb0⟩,hln,e⟩|⟨rfl,hx8,hx32,hgx,hgy,hne,hln,e⟩|⟨y,rfl,hx8,hx32,hgx,hgy,hne,hy,⟨hu0,hu1⟩,hln,e⟩|⟨x,y,⟨m2,m3,m4,m5,m7,m8⟩,hx8,hx32,hgx,hgy,hne,hx,⟨hpb,hpb0⟩,hy,⟨hu0,hu1⟩,hln,e⟩|⟨y,⟨m2,m3,m4,m5,m7,m8⟩,hx8,hx32,hgx,hgy,hne,hy,⟨hu0,hu1⟩,hln,e⟩|⟨x,⟨m2,m3,m4,m5,m7,m8⟩,hx8,hx32,hgx,hgy,hne,hx,⟨hpb,hpb0⟩,hln,e⟩|⟨⟨m2,m3,m4,m5,m7,m8⟩,hx8,hx32,hgx,hgy,hne,hln,e⟩
 ·rw [e]
  have hA : yL 3 g b = 0:=f_f hx8
  have hs : (zB 3 g 8 && shB b 0 1) = false:=by rw [hx8];rfl
  have hp : vS 3 g b = -1:=f_f hx8
  have hn : zR 3 g b (yL 3 g b) = ⟨0,0,false,0,0,u4 b 0,0,shB b 0 4,4⟩:=by rw [hA];rw [show zR 3 g b 0 = ⟨0,0,false,0,0,u4 b 0,0,shB b 0 4,yh b 0 4⟩ from rfl];rw [yo (show (0 : Int) + 4 ≤ b.length by omega)];rfl
  rw [vT hp hn hs (kR (by omega)) (by dsimp only;omega)]
  refine ⟨rfl,?_⟩
  rw [if_neg (by decide)]
  unfold gm
  dsimp only
  rw [show max (-1 : Int) 0 = 0 from rfl,Int.sub_zero,vE (by decide) (by omega),List.drop_of_length_le (by show b.length ≤ 4;omega)]
  all_goals rfl
 ·rw [e]
  have hA : yL 4 g b = 0:=f_f hx8
  have hs : (zB 4 g 8 && shB b 0 1) = false:=by rw [hx8];rfl
  have hp : vS 4 g b = -1:=f_f hx8
  have hn : zR 4 g b (yL 4 g b) = ⟨0,0,false,0,0,0,0,false,0⟩:=by rw [hA];rw [show zR 4 g b 0 = ⟨0,0,false,0,0,0,0,false,0⟩ from rfl]
  rw [vT hp hn hs rfl (by dsimp only;omega)]
  refine ⟨rfl,?_⟩
  rw [if_pos rfl]
  all_goals rfl
 ·rw [e]
  have hA : yL 8 g b = 0:=f_f hx8
  have hs : (zB 8 g 8 && shB b 0 1) = false:=by rw [hx8];rfl
  have hp : vS 8 g b = -1:=f_f hx8
  have hn : zR 8 g b (yL 8 g b) = ⟨0,0,false,0,0,0,yB (u4 b 0),shB b 0 4,4⟩:=by rw [hA];rw [show zR 8 g b 0 = ⟨0,0,false,0,0,0,yB (u4 b 0),shB b 0 4,yh b 0 4⟩ from rfl];rw [yo (show (0 : Int) + 4 ≤ b.length by omega)];rfl
  rw [vT hp hn hs (kR (by omega)) (by dsimp only;omega)]
  refine ⟨rfl,?_⟩
  rw [if_neg (by decide)]
  unfold gm
  dsimp only
  rw [show max (-1 : Int) 0 = 0 from rfl,Int.sub_zero,vE (by decide) (by omega),List.drop_of_length_le (by show b.length ≤ 4;omega)]
  all_goals rfl
 ·rw [e]
  have hA : yL 7 g b = 0:=f_f hx8
  have hs : (zB 7 g 8 && shB b 0 1) = false:=by rw [hx8];rfl
  have hp : vS 7 g b = -1:=f_f hx8
  have hn : zR 7 g b (yL 7 g b) = ⟨0,0,false,0,yB (u4 b 0),u4 b 4,0,shB b 0 8,8⟩:=by rw [hA];rw [show zR 7 g b 0 = ⟨0,0,false,0,yB (u4 b 0),u4 b (yh b 0 4),0,shB b 0 8,yh b (yh b 0 4) 4⟩ from rfl];rw [yo (show (0 : Int) + 4 ≤ b.length by omega),yo (show (0 + 4 : Int) + 4 ≤ b.length by omega)];rfl
  rw [vT hp hn hs (kR (by omega)) (by dsimp only;omega)]
  refine ⟨rfl,?_⟩
  rw [if_neg (by decide)]
  unfold gm
  dsimp only
  rw [show max (-1 : Int) 0 = 0 from rfl,Int.sub_zero,vE (by decide) (by omega)]
  all_goals rfl
 ·rw [e]
  have hA : yL 5 g b = 1:=(f_t hx8).trans (yo (by omega))
  have hs : (zB 5 g 8 && shB b 0 1) = false:=by rw [hx8,kR (by omega)];rfl
  have hp : vS 5 g b = zJ b 1:=f_t hx8
  have hn : zR 5 g b (yL 5 g b) = ⟨0,0,false,yB (u4 b 1),0,0,0,shB b 1 4,5⟩:=by rw [hA];rw [show zR 5 g b 1 = ⟨0,0,false,yB (u4 b 1),0,0,0,shB b 1 4,yh b 1 4⟩ from rfl];rw [yo (show (1 : Int) + 4 ≤ b.length by omega)];rfl
  rw [vT hp hn hs (kR (by omega)) (by dsimp only;omega)]
  refine ⟨rfl,?_⟩
  rw [if_neg (by decide)]
  unfold gm
  dsimp only
  rw [show max (zJ b 1) 0 = zJ b 1 from by omega,zes (by decide) hpb0 (by omega)]
  all_goals rfl
 ·rw [e]
  have hA : yL 5 g b = 0:=f_f hx8
  have hs : (zB 5 g 8 && shB b 0 1) = false:=by rw [hx8];rfl
  have hp : vS 5 g b = -1:=f_f hx8
  have hn : zR 5 g b (yL 5 g b) = ⟨0,0,false,yB (u4 b 0),0,0,0,shB b 0 4,4⟩:=by rw [hA];rw [show zR 5 g b 0 = ⟨0,0,false,yB (u4 b 0),0,0,0,shB b 0 4,yh b 0 4⟩ from rfl];rw [yo (show (0 : Int) + 4 ≤ b.length by omega)];rfl
  rw [vT hp hn hs (kR (by omega)) (by dsimp only;omega)]
  refine ⟨rfl,?_⟩
  rw [if_neg (by decide)]
  unfold gm
  dsimp only
  rw [show max (-1 : Int) 0 = 0 from rfl,Int.sub_zero,vE (by decide) (by omega)]
  all_goals rfl
 ·rw [e]
  have hA : yL 2 g b = 0:=f_f hx8
  have hs : (zB 2 g 8 && shB b 0 1) = false:=by rw [hx8];rfl
  have hp : vS 2 g b = -1:=f_f hx8
  have hn : zR 2 g b (yL 2 g b) = ⟨u1 b 4,yB (u4 b 0),hiN (u4 b 0),0,0,0,0,shB b 0 5,5⟩:=by rw [hA];rw [show zR 2 g b 0 = ⟨u1 b (yh b 0 4),yB (u4 b 0),hiN (u4 b 0),0,0,0,0,shB b 0 5,yh b (yh b 0 4) 1⟩ from rfl];rw [yo (show (0 : Int) + 4 ≤ b.length by omega),yo (show (0 + 4 : Int) + 1 ≤ b.length by omega)];rfl
  rw [vT hp hn hs (kR (by omega)) (by dsimp only;omega)]
  refine ⟨rfl,?_⟩
  rw [if_neg (by decide)]
  unfold gm
  dsimp only
  rw [show max (-1 : Int) 0 = 0 from rfl,Int.sub_zero,vE (by decide) (by omega)]
  all_goals rfl
 ·obtain rfl : t = 1 := by apply Decidable.byContradiction; intro hn1; rw [ym hn1] at hx32; exact absurd hx32 (by simp)
  rw [e]
  have hA : yL 1 g b = 1:=(f_t hx8).trans (yo (by omega))
  have hs : (zB 1 g 8 && shB b 0 1) = false:=by rw [hx8,kR (by omega)];rfl
  have hp : vS 1 g b = zJ b 1:=f_t hx8
  have hn : zR 1 g b (yL 1 g b) = ⟨u1 b 5,yB (u4 b 1),hiN (u4 b 1),0,0,0,0,shB b 1 5,6⟩:=by rw [hA];rw [show zR 1 g b 1 = ⟨u1 b (yh b 1 4),yB (u4 b 1),hiN (u4 b 1),0,0,0,0,shB b 1 5,yh b (yh b 1 4) 1⟩ from (if_pos rfl).trans (if_pos hx32)];rw [yo (show (1 : Int) + 4 ≤ b.length by omega),yo (show (1 + 4 : Int) + 1 ≤ b.length by omega)];rfl
  rw [vT hp hn hs (kR (by omega)) (by dsimp only;omega)]
  refine ⟨rfl,?_⟩
  rw [if_neg (by decide)]
  unfold gm
  dsimp only
  rw [show max (zJ b 1) 0 = zJ b 1 from by omega,zes (by decide) hpb0 (by omega)]
  all_goals rfl
 ·obtain rfl : t = 1 := by apply Decidable.byContradiction; intro hn1; rw [ym hn1] at hx32; exact absurd hx32 (by simp)
  rw [e]
  have hA : yL 1 g b = 0:=f_f hx8
  have hs : (zB 1 g 8 && shB b 0 1) = false:=by rw [hx8];rfl
  have hp : vS 1 g b = -1:=f_f hx8
  have hn : zR 1 g b (yL 1 g b) = ⟨u1 b 4,yB (u4 b 0),hiN (u4 b 0),0,0,0,0,shB b 0 5,5⟩:=by rw [hA];rw [show zR 1 g b 0 = ⟨u1 b (yh b 0 4),yB (u4 b 0),hiN (u4 b 0),0,0,0,0,shB b 0 5,yh b (yh b 0 4) 1⟩ from (if_pos rfl).trans (if_pos hx32)];rw [yo (show (0 : Int) + 4 ≤ b.length by omega),yo (show (0 + 4 : Int) + 1 ≤ b.length by omega)];rfl
  rw [vT hp hn hs (kR (by omega)) (by dsimp only;omega)]
  refine ⟨rfl,?_⟩
  rw [if_neg (by decide)]
  unfold gm
  dsimp only
  rw [show max (-1 : Int) 0 = 0 from rfl,Int.sub_zero,vE (by decide) (by omega)]
  all_goals rfl
 ·rw [e]
  have hA : yL t g b = 1:=(f_t hx8).trans (yo (by omega))
  have hs : (zB t g 8 && shB b 0 1) = false:=by rw [hx8,kR (by omega)];rfl
  have hp : vS t g b = zJ b 1:=f_t hx8
  have hn : zR t g b (yL t g b) = ⟨0,0,false,0,0,0,0,false,1⟩:=by rw [hA];rw [show zR t g b 1 = ⟨0,0,false,0,0,0,0,false,1⟩ from by unfold zR;split;exact if_neg (by rw [show zB 1 g 32 = zB t g 32 from by subst_vars;rfl,hx32];simp);simp [m2,m3,m5,m7,m8]]
  rw [vT hp hn hs rfl (by dsimp only;omega)]
  refine ⟨rfl,?_⟩
  rw [if_neg m4]
  unfold gm
  dsimp only
  rw [show max (zJ b 1) 0 = zJ b 1 from by omega,zes (by decide) hpb0 (by omega)]
  all_goals rfl
 ·rw [e]
  have hA : yL t g b = 0:=f_f hx8
  have hs : (zB t g 8 && shB b 0 1) = false:=by rw [hx8];rfl
  have hp : vS t g b = -1:=f_f hx8
  have hn : zR t g b (yL t g b) = ⟨0,0,false,0,0,0,0,false,0⟩:=by rw [hA];rw [show zR t g b 0 = ⟨0,0,false,0,0,0,0,false,0⟩ from by unfold zR;split;exact if_neg (by rw [show zB 1 g 32 = zB t g 32 from by subst_vars;rfl,hx32];simp);simp [m2,m3,m5,m7,m8]]
  rw [vT hp hn hs rfl (by dsimp only;omega)]
  refine ⟨rfl,?_⟩
  rw [if_neg m4]
  unfold gm
  dsimp only
  rw [show max (-1 : Int) 0 = 0 from rfl,Int.sub_zero,vE (by decide) (by omega)]
  all_goals rfl
theorem zsa {t g : Int} (h : zB t g 8 = true) : t = 0 ∨ t = 1 ∨ t = 5:=by
 apply Decidable.byContradiction
 intro hn
 rw [ku (by omega) (by omega) (by omega)] at h
 exact absurd h (by simp)
theorem ziL {t g : Int} (h : zB t g 32 = true) : t = 1:=by
 apply Decidable.byContradiction
 intro hn
 rw [ym hn] at h
 exact absurd h (by simp)
theorem ziM {t g : Int} {b : List UInt8} (h : (b.length : Int) < ahI t g) : zag t g b = true:=by
 obtain ⟨c8,c32,h8,h32,hc⟩:=zds t g
 rcases hc with ⟨h5,rfl,rfl,ha⟩|⟨h5,rfl,rfl,ha⟩|⟨h5,rfl,rfl,ha⟩|⟨h5,rfl,rfl,ha⟩|⟨h5,rfl,rfl,ha⟩|⟨h5,rfl,rfl,ha⟩
 ·subst h5
  by_cases h1 : b.length < 1
  ·unfold zag;rw [h8,zbs (by omega)];rfl
  ·have hA : yL 5 g b = 1 := (f_t h8).trans (yo (by omega))
   unfold zag
   rw [hA,show (zR 5 g b 1).sh = shB b 1 4 from rfl,zbs (a:=1) (by omega),Bool.or_true]
 ·subst h5
  have hA : yL 5 g b = 0:=f_f h8
  unfold zag
  rw [hA,show (zR 5 g b 0).sh = shB b 0 4 from rfl,zbs (a:=0) (n:=4) (by omega),Bool.or_true]
 ·obtain rfl := ziL h32
  by_cases h1 : b.length < 1
  ·unfold zag;rw [h8,zbs (by omega)];rfl
  ·have hA : yL 1 g b = 1 := (f_t h8).trans (yo (by omega))
   unfold zag
   rw [hA,show (zR 1 g b 1).sh = shB b 1 5 from by unfold zR;rw [if_pos rfl,if_pos h32],zbs (a:=1) (n:=5) (by omega),Bool.or_true]
 ·obtain rfl := ziL h32
  have hA : yL 1 g b = 0:=f_f h8
  unfold zag
  rw [hA,show (zR 1 g b 0).sh = shB b 0 5 from by unfold zR;rw [if_pos rfl,if_pos h32],zbs (a:=0) (n:=5) (by omega),Bool.or_true]
 ·unfold zag;rw [h8,zbs (a:=0) (n:=1) (by omega)];rfl
 ·omega
theorem zoG {t g s : Int} {b : List UInt8} (h8 : zB t g 8 = true) (h : ¬ (b.length : Int) < ahI t g) (hp : (b.length : Int) - ahI t g < zJ b 1) : zbe t g s b = (fm0,2,1):=by
 have hk2:=zk0 (t:=t) (g:=g)
 have hk : kI t g = 1:=f_t h8
 have hA : yL t g b = 1:=(f_t h8).trans (yo (by omega))
 have hpd : vS t g b = zJ b 1:=f_t h8
 have key : (zR t g b 1).sh = false ∧ (zR t g b 1).pos = ahI t g:=by
  rcases zsa h8 with rfl|rfl|rfl
  ·have ha : ahI 0 g = 1 := by unfold ahI; rw [hk, f_f (ym (by decide)), if_neg (by decide)]; rfl
   rw [ha];exact ⟨rfl,rfl⟩
  ·rcases bTF (c := zB 1 g 32) with h32 | h32
   ·have ha : ahI 1 g = 6 := by unfold ahI; rw [hk, f_t h32, if_neg (by decide)]; rfl
    rw [show zR 1 g b 1 = ⟨u1 b (yh b 1 4),yB (u4 b 1),hiN (u4 b 1),0,0,0,0,shB b 1 5,yh b (yh b 1 4) 1⟩ from (if_pos rfl).trans (if_pos h32),ha]
    refine ⟨kR (by omega),?_⟩
    show yh b (yh b 1 4) 1 = 6
    rw [yo (show (1 : Int) + 4 ≤ b.length by omega),yo (show (1 + 4 : Int) + 1 ≤ b.length by omega)];rfl
   ·have ha : ahI 1 g = 1 := by unfold ahI; rw [hk, f_f h32, if_neg (by decide)]; rfl
    rw [show zR 1 g b 1 = ⟨0,0,false,0,0,0,0,false,1⟩ from (if_pos rfl).trans (if_neg (by rw [h32];simp)),ha]
    exact ⟨rfl,rfl⟩
  ·have ha : ahI 5 g = 5 := by unfold ahI; rw [hk, f_f (ym (by decide)), if_pos rfl]; rfl
   rw [ha]
   refine ⟨kR (a:=1) (n:=4) (by omega),?_⟩
   show yh b 1 4 = 5
   rw [yo (show (1 : Int) + 4 ≤ b.length by omega)];rfl
 have hS : zag t g b = false:=by unfold zag;rw [hA,key.1,h8,kR (by omega)];rfl
 unfold zbe
 dsimp only
 rw [if_neg (by rw [hS];simp),hA,key.2,hpd,if_pos hp]
theorem zsb {t g s : Int} {b : List UInt8} (h : ¬ y9 t g s b = (0,0)) : yq t g s b = (fm0,y9 t g s b):=by
 rcases bTF (c:=vj t s) with h1|h1
 ·have n1 : ¬ vj t s = false := by rw [h1]; simp
  rcases bTF (c:=vL t g b.length) with h2|h2
  ·have n2 : ¬ vL t g b.length = false := by rw [h2]; simp
   have e : yq t g s b = zbe t g s b:=by unfold yq;rw [if_neg n1,if_neg n2]
   rw [e]
   by_cases hS : (b.length : Int) < ahI t g
   ·have hk := zk0 (t := t) (g := g)
    have e2 : y9 t g s b = (if t = 0 then 1 else 2,6):=by unfold y9;rw [if_neg n1,if_neg n2,if_pos hS]
    rw [e2,← zr5 (t:=t) (g:=g) (by omega)]
    unfold zbe
    dsimp only
    rw [if_pos (ziM hS)]
   ·by_cases hP : zB t g 8 = true ∧ (b.length : Int) - ahI t g < zJ b 1
    ·have e2 : y9 t g s b = (2, 1) := by unfold y9; rw [if_neg n1, if_neg n2, if_neg hS, if_pos hP]
     rw [e2]
     exact zoG hP.1 hS hP.2
    ·exfalso
     apply h
     unfold y9;rw [if_neg n1,if_neg n2,if_neg hS,if_neg hP]
  ·have e2 : y9 t g s b = (if t = 2 then 1 else 2, 6) := by unfold y9; rw [if_neg n1, if_pos h2]
   rw [e2,← zoD h2]
   unfold yq;rw [if_neg n1,if_pos h2]
 ·have e2 : y9 t g s b = (2, 1) := if_pos h1
  rw [e2]
  unfold yq;rw [if_pos h1]
def rfR (t g s : Int) (b : List UInt8) : Fm:=if y9 t g s b = (0,0) then rfM t g s b else fm0
theorem zu1 {t g s : Int} {b : List UInt8} (h : (y9 t g s b).1 = 0) : y9 t g s b = (0,0):=by
 unfold y9 at h ⊢
 repeat' split at h
 all_goals first|(exact absurd h (by decide))|(simp only [*,if_true,if_false];done)|skip
 all_goals (repeat' split)
 all_goals first|rfl|(exfalso;simp_all;done)
theorem zet (t g s : Int) (b : List UInt8) : (yq t g s b).2 = y9 t g s b ∧ gm (yq t g s b).1 = gm (rfR t g s b):=by
 unfold rfR
 by_cases h : y9 t g s b = (0,0)
 ·obtain ⟨h1, h2⟩ := zbT h
  rw [if_pos h,h1,h2,h];exact ⟨rfl,rfl⟩
 ·rw [if_neg h,zsb h];exact ⟨rfl,rfl⟩
theorem zoH (w t g s : Int) (r f : Bool) (b : List UInt8) (hg0 : 0 ≤ g) (hg1 : g < 256) (hb : b.length ≤ 1000000000) : AEq Tryz.prog 63 [.ag [i64 w,i64 t,i64 g,i64 s,bl r,.sl f false (b.map zf)]] [] (.tu [.ag (fmA (rfR t g s b)),.ag [i64 (y9 t g s b).1,i64 (y9 t g s b).2]]) []:=by
 by_cases h : y9 t g s b = (0,0)
 ·rw [show rfR t g s b = rfM t g s b from if_pos h, h]
  exact zr7 w t g s r f b hg0 hg1 hb h
 ·rw [show rfR t g s b = fm0 from if_neg h]
  exact ziI w t g s r f b hg0 hg1 hb (fun e=>h (zu1 e))
theorem zoI (b : List UInt8) (a n : Int) : (byL b a n).length ≤ b.length:=by
 unfold byL
 split
 ·rw [List.length_take,List.length_drop];omega
 ·exact Nat.zero_le _
theorem ziN (b : List UInt8) : (zeq b).length ≤ b.length:=by
 unfold zeq
 split
 ·rw [zcG];omega
 ·exact Nat.zero_le _
theorem zfD (t g s : Int) (b : List UInt8) : (yq t g s b).1.d.length ≤ b.length ∧ (yq t g s b).1.st.length ≤ b.length:=by
 have h1:=zoI b
 have h2:=ziN b
 unfold yq
 split
 ·exact ⟨Nat.zero_le _,Nat.zero_le _⟩
 ·split
  ·exact ⟨Nat.zero_le _,Nat.zero_le _⟩
  ·unfold zbe
   dsimp only
   repeat' split
   all_goals (refine ⟨?_,?_⟩<;>(first|exact h1 _ _|exact h2|exact Nat.zero_le _))
end Go.Proofs.YtdalcgfnlbofdaaGreatDoor
namespace Go.Lf
open Go
theorem zgo {P : Program} {N : Nat} {o : Oper} {Γ : Env} {σ : Sto} {K : AV → Sto → Prop} {k : FuncId} {cs : Array Operand} (ho : o.op = .makeFunc (.func k) #[] cs) (hK : K (.fn k (cs.toList.map (ev Γ))) σ) : SOp P N o Γ σ K:=by
 refine SOp.pure _ (fun ρ w a hf hr=>⟨.func (.func k) #[] (cs.map a.eval),by simp [execOp,ho,Instr.makeFunc],?_⟩) hK
 simp only [VR]
 refine ⟨cs.toList.map a.eval,by rw [← Array.toList_map,Array.toArray_toList],?_⟩
 generalize cs.toList = l
 induction l with
 | nil=>simp [VRl]
 | cons x l ih=>simp only [List.map_cons,VRl];exact ⟨hf.ev x,ih⟩
theorem zfE {P : Program} {N : Nat} {o : Oper} {Γ : Env} {σ : Sto} {K : AV → Sto → Prop} {k : FuncId} {cs : Array Operand} {ys : List AV} (ho : o.op = .makeFunc (.func k) #[] cs) (hy : cs.toList.map (ev Γ) = ys) (hK : K (.fn k ys) σ) : SOp P N o Γ σ K:=by
 subst hy
 exact zgo ho hK
theorem ziO {P : Program} {N : Nat} {o : Oper} {Γ : Env} {σ : Sto} {K : AV → Sto → Prop} {f : FuncId} {x : Operand} {ys : List AV} {args : Array Operand} {ts : Array TypeId} (ho : o.op = .call { callee := .value x, args := args, argTypes := ts }) (hx : Lf.ev Γ x = .fn f ys)
    (hc : ∀ (args : Array Value) (w : World),(callFunc f args).run P w = .ok (.enter f args) w) (h : ACall P f (args.toList.map (Lf.ev Γ) ++ ys) σ K) : SOp P N o Γ σ K:=by
  unfold SOp
  unfold ACall at h
  intro ρ w a next Q hf hr hn
  have hv:=hf.ev x
  rw [hx] at hv
  simp only [VR] at hv
  obtain ⟨cv,e,hcv⟩:=hv
  have hrun : (execOp a.eval o).run P w = .ok (.enter f (args.map a.eval ++ cv.toArray)) w:=by
    simp [execOp,ho,resolve,Deferred.ofValue,e,invoke,hc]
  unfold Oper.wp
  rw [hrun,Oper.upon_enter]
  have hvs : ∀ l : List Operand,VRl σ ρ w (l.map (Lf.ev Γ)) (l.map a.eval):=by
    intro l
    induction l with
    | nil=>simp [VRl]
    | cons x l ih=>simp only [List.map_cons,VRl];exact ⟨hf.ev x,ih⟩
  have:=h ρ w (args.toList.map a.eval ++ cv) hr hf.2.1.2 (yE _ _ _ _ (hvs _) hcv)
  have harr : (args.toList.map a.eval ++ cv).toArray = args.map a.eval ++ cv.toArray:=Array.ext' (by simp)
  rw [harr] at this
  refine this.mono ?_
  rintro e w' ⟨r,σ',ρ',v,rfl,h2,h3,h4,h5⟩
  exact hn r σ' ρ' w' v h2 h3 h4 h5
theorem ziP {P : Program} {N : Nat} {o : Oper} {Γ : Env} {σ : Sto} {K : AV → Sto → Prop} {f : FuncId} {x : Operand} {ys zs : List AV} {args : Array Operand} {ts : Array TypeId} (ho : o.op = .call { callee := .value x, args := args, argTypes := ts }) (hx : Lf.ev Γ x = .fn f ys)
    (hc : ∀ (args : Array Value) (w : World),(callFunc f args).run P w = .ok (.enter f args) w) (has : args.toList.map (Lf.ev Γ) ++ ys = zs) (h : ACall P f zs σ K) : SOp P N o Γ σ K:=by
  subst has
  exact ziO ho hx hc h
end Go.Lf
namespace Go.Lf
open Go
end Go.Lf
namespace Go.Lf
open Go
section az
variable {P : Program} {w : World}
theorem kX (z : Array Value) (hz : 0 < z.size) (n : Nat) : (Builtin.zeroCells z n).toList = (List.replicate n z.toList).flatten:=yU z hz n
theorem kv (t tn ty e : TypeId) (i : TypeInfo) (kq kn : IntKind) (ht : P.underlying t = some (.slice e)) (htn : P.underlying tn = some (.int kn)) (hi : P.info? e = some i)
    (base : Option Addr) (sLen sCap : Nat) (hle : sLen ≤ sCap) :
    (Builtin.append_ #[t,tn] ty #[.slice base sLen sCap,.int kq 0]).run P w = .ok (.slice base sLen sCap) w:=by
  have hw : IntKind.i64.wrap (0 : Int) = 0:=by rw [IntKind.wrap_i64];omega
  cases base<;>simp [Builtin.append_,run_underlying ht,run_underlying htn,sizeOf,typeInfo,hi,asInt,asIntOf,hw,hle,storeCells]
theorem kw (t tn ty e : TypeId) (i : TypeInfo) (z : Value) (kq kn : IntKind) (ht : P.underlying t = some (.slice e)) (htn : P.underlying tn = some (.int kn)) (hi : P.info? e = some i) (hz : i.zero = some z)
    (g sLen sCap : Nat) (cur : Array Value) (hg : w.heap[g]? = some (.cells cur e (0,0)))
    (k : Nat) (h0 : 0 < k) (hs : 0 < i.size) (hzp : 0 < z.cells.size) (h63 : (k : Int) ≤ 9223372036854775807) (h48 : k * i.bytes ≤ 281474976710656) (h1 : ∀ u ∈ (List.replicate k z.cells.toList).flatten,u.oneCell' = true)
    (hroom : sLen + k ≤ sCap) (hfit : sLen * i.size + ((List.replicate k z.cells.toList).flatten).length ≤ cur.size) :
    (Builtin.append_ #[t, tn] ty #[.slice (some ⟨g, 0, none⟩) sLen sCap, .int kq k]).run P w =
      .ok (.slice (some ⟨g,0,none⟩) (sLen + k) sCap) (w.setRow g (cur.toList.take (sLen * i.size) ++ (List.replicate k z.cells.toList).flatten ++ cur.toList.drop (sLen * i.size + ((List.replicate k z.cells.toList).flatten).length)).toArray):=by
  have hk : k ≠ 0:=by omega
  have hw : IntKind.i64.wrap (k : Int) = k:=by rw [IntKind.wrap_i64];omega
  have h48i : ¬ (281474976710656 < (k : Int) * (i.bytes : Int)):=by
    rw [← Int.natCast_mul]
    omega
  have hneg : ¬ ((k : Int) < 0):=by omega
  have hns : ¬ (k * i.size = 0):=Nat.mul_ne_zero hk (by omega)
  have hst:=run_storeCells_at P g (sLen * i.size) e ((List.replicate k z.cells.toList).flatten) 0 cur w hg (by simpa using hfit) h1
  simp only [Nat.add_zero] at hst
  simp [Builtin.append_,run_underlying ht,run_underlying htn,sizeOf,typeInfo,zeroValue,hi,hz,asInt,asIntOf,hw,hneg,hns,h48i,hroom,kX _ hzp,Addr.add_lit,hst]
end az
theorem zcL {P : Program} {o : Oper} {a : Act} {w w' : World} {x y : Operand} {t tn : TypeId} {v : Value} (ho : o.op = .call { callee := .builtin .append, args := #[x, y], argTypes := #[t, tn] })
    (h : (Builtin.append_ #[t,tn] o.type #[a.eval x,a.eval y]).run P w = .ok v w') : (execOp a.eval o).run P w = .ok (.value v) w':=by
  simp [execOp,ho,resolve,invoke,builtin,h]
theorem zah {P : Program} {N : Nat} {o : Oper} {Γ : Env} {σ : Sto} {K : AV → Sto → Prop} {x y : Operand} {t tn e sz bt : Nat} {z : Value} {oo s : Nat} {xs : List (List AV)} {k kn : IntKind} {c : Int}
    (ho : o.op = .call { callee:=.builtin .append,args:=#[x,y],argTypes:=#[t,tn] }) (ht : P.underlying t = some (.slice e)) (htn : P.underlying tn = some (.int kn)) (he : EO P e sz bt z)
    (hx : ev Γ x = .row oo s) (hs : σ[oo]? = some (.row s e sz xs)) (hy : ev Γ y = .lit (.int k c)) (h0c : 0 ≤ c) (hz1 : z.cells.toList.all (fun v=>v.oneCell') = true) (hb : (xs.length + c.toNat) * bt ≤ 140737488355328) (h63 : xs.length + c.toNat ≤ maxLen)
    (hK : K (.row oo (s + 1)) (σ.set oo (.row (s + 1) e sz (xs ++ List.replicate c.toNat (z.cells.toList.map alit))))) : SOp P N o Γ σ K:=by
  obtain ⟨n,rfl⟩ : ∃ n : Nat,c = n:=⟨c.toNat,by omega⟩
  simp only [Int.toNat_natCast] at hb h63 hK
  obtain ⟨ys,hyse⟩ : ∃ ys,ys = List.replicate n (z.cells.toList.map alit):=⟨_,rfl⟩
  obtain ⟨vy,hvy⟩ : ∃ vy,vy = (List.replicate n z.cells.toList).flatten:=⟨_,rfl⟩
  rw [← hyse] at hK
  intro ρ w a next Q hf hr hn
  have ey : a.eval y = .int k n:=hf.lit hy
  obtain ⟨i,hi,hz,hi1,hi2⟩:=he.parts
  have hzs:=he.2.1
  have hpos:=he.2.2
  have hyl : ys.length = n:=by rw [hyse,List.length_replicate]
  have hys : ∀ y ∈ ys,y.length = sz:=by
    intro y hy;rw [hyse,List.mem_replicate] at hy;rw [hy.2];simpa using hzs
  have hly:=yF hys
  have Vy : VRl σ ρ w ys.flatten vy:=by rw [hyse,hvy];exact zaM _ _
  have hlv:=zP _ _ Vy
  have oy : ∀ u ∈ vy,u.oneCell' = true:=by
    intro v hv
    rw [hvy] at hv
    simp only [List.mem_flatten,List.mem_replicate] at hv
    obtain ⟨q,⟨_,rfl⟩,hv⟩:=hv
    exact (List.all_eq_true.1 hz1) v hv
  have hX:=hf.ev x
  rw [hx] at hX
  simp only [VR] at hX
  have hv:=(hX.2 _ _ _ _ hs).2 rfl
  have hlt:=hX.1
  obtain ⟨h0,h00,hO⟩:=hr.obj _ _ hs
  have hlx:=yF h0
  have all : ∀ q ∈ xs ++ ys,q.length = sz:=by intro q hq;simp only [List.mem_append] at hq;exact hq.elim (h0 q) (hys q)
  have fin : ∀ (v' : Value) (w' : World), (Builtin.append_ #[t, tn] o.type #[a.eval x, a.eval y]).run P w = .ok v' w' → w'.os = w.os → w'.tape = w.tape → w'.output = w.output → w.heap.size ≤ w'.heap.size →
      (∀ b,b < w.heap.size → blk (ρ oo) ≠ some b → w'.heap[b]? = w.heap[b]?) → (∀ b,blk v' = some b → blk (ρ oo) = some b ∨ w.heap.size ≤ b) →
      (((∃ ad,v' = .slice ad 0 0) ∧ xs ++ ys = []) ∨ ∃ b cap,∃ vs sp : List Value,v' = .slice (some ⟨b,0,none⟩) (xs ++ ys).length cap ∧ w'.heap[b]? = some (.cells (vs ++ sp).toArray e (0,0)) ∧ (xs ++ ys).length ≤ cap ∧ (0 < cap ∧ cap ≤ maxLen) ∧ (vs ++ sp).length = cap * sz ∧ (∀ v ∈ vs,v.oneCell' = true) ∧ VRl σ ρ w (xs ++ ys).flatten vs) →
      (execOp a.eval o).run P w = .ok (.value v') w' ∧ ∃ ρ',Rel (σ.set oo (.row (s + 1) e sz (xs ++ ys))) ρ' w' ∧ VR (σ.set oo (.row (s + 1) e sz (xs ++ ys))) ρ' w' (.row oo (s + 1)) v' ∧ Step σ.length σ ρ w (σ.set oo (.row (s + 1) e sz (xs ++ ys))) ρ' w':=by
    intro v' w' hrun os tp ou hsz hk hbl hrow
    refine ⟨zcL ho hrun,upd ρ oo v',?_⟩
    have hobj : ObjStep (some (.row s e sz xs)) (some (.row (s + 1) e sz (xs ++ ys))) (ρ oo) v':=by simp only [ObjStep,true_and];omega
    have st:=vd (σ:=σ) (ρ:=ρ) (w:=w) (w':=w') (r:=v') hs rfl hobj os tp ou hsz hk (fun b _=>hbl b)
    refine ⟨kg hr hs rfl hobj os tp ou hsz hk (fun b _=>hbl b) ⟨all,h00,?_⟩,?_,st⟩
    · rcases hrow with h | ⟨b, cap, vs, sp, k1, k2, k3, k4, k5, k6, k7⟩
      · exact .inl h
      · exact .inr ⟨b,cap,vs,sp,k1,k2,k3,k4,k5,k6,VRl.carry st _ _ k7⟩
    · simp only [VR, List.length_set]
      refine ⟨hlt,fun s' e' sz' xs' hs'=>?_⟩
      rw [List.getElem?_set_self hlt] at hs'
      simp at hs'
      obtain ⟨rfl,_⟩:=hs'
      exact ⟨Nat.le_refl _,fun _=>by rw [z6]⟩
  have done : ∀ v' w',((execOp a.eval o).run P w = .ok (.value v') w' ∧ ∃ ρ',Rel (σ.set oo (.row (s + 1) e sz (xs ++ ys))) ρ' w' ∧ VR (σ.set oo (.row (s + 1) e sz (xs ++ ys))) ρ' w' (.row oo (s + 1)) v' ∧ Step σ.length σ ρ w (σ.set oo (.row (s + 1) e sz (xs ++ ys))) ρ' w') → o.wp P a w next Q:=by
    rintro v' w' ⟨h1,ρ',h2,h3,h4⟩
    unfold Oper.wp
    rw [h1,Oper.upon_value]
    exact hn _ _ _ _ _ hK h2 h3 h4
  by_cases hn0 : n = 0
  · subst hn0
    have hy0 : ys = []:=List.eq_nil_of_length_eq_zero hyl
    subst hy0
    rcases hO with ⟨⟨ad,hO⟩,rfl⟩|⟨b,cap,vs,sp,hb',hh,hle,hm,hc,hone,hl⟩
    · refine done _ _ (fin (.slice ad 0 0) w ?_ rfl rfl rfl (Nat.le_refl _) (fun _ _ _ => rfl) (by cases ad <;> simp [blk]) (.inl ⟨⟨ad, rfl⟩, rfl⟩))
      rw [hv,hO,ey]
      exact kv t tn _ e i k kn ht htn hi ad 0 0 (Nat.le_refl _)
    · refine done _ _ (fin (.slice (some ⟨b, 0, none⟩) xs.length cap) w ?_ rfl rfl rfl (Nat.le_refl _) (fun _ _ _ => rfl) (fun c hc => .inl (by rw [hb']; exact hc)) (.inr ⟨b, cap, vs, sp, by simp, hh, by simpa using hle, hm, hc, hone, by simpa using hl⟩))
      rw [hv,hb',ey]
      exact kv t tn _ e i k kn ht htn hi _ _ _ hle
  · have hp : 0 < n := by omega
    have hbn : n * i.bytes ≤ 140737488355328:=by
      rw [hi2];exact Nat.le_trans (Nat.mul_le_mul_right _ (Nat.le_add_left _ _)) hb
    have hb2 : (xs.length + n) * i.bytes ≤ 140737488355328:=by rw [hi2];exact hb
    have hspos : 0 < i.size:=by rw [hi1];exact hpos
    have grow : ∀ ax cx (vx : List Value),a.eval x = .slice ax xs.length cx → xs.length ≤ cx → vx.length = xs.length * sz → (Builtin.firstCells i.size xs.length (.slice ax xs.length cx)).run P w.drew = .ok vx.toArray w.drew → (∀ u ∈ vx,u.oneCell' = true) → VRl σ ρ w xs.flatten vx → cx < xs.length + n → o.wp P a w next Q:=by
      intro ax cx vx ex lx hl1 hfc ox Vx gx
      have hlvx:=zP _ _ Vx
      have h63' : ((xs.length + n : Nat) : Int) ≤ 9223372036854775807:=by simp only [maxLen] at h63;omega
      have hrun:=Go.Lib.run_append_grow_zeros (P:=P) w t tn o.type e i z k kn ht htn hi hz ax xs.length cx vx hfc n hp hspos gx h63' (by omega) (growslice_fits gx hb2)
      have hg1:=grownCap_ge w (xs.length + n) cx e
      have hg2:=grownCap_le_maxLen w (xs.length + n) cx e h63
      have hcl : (vx.toArray ++ Builtin.zeroCells z.cells n ++ Builtin.zeroCells z.cells (grownCap w (xs.length + n) cx e - (xs.length + n))) = (vx ++ vy ++ (Builtin.zeroCells z.cells (grownCap w (xs.length + n) cx e - (xs.length + n))).toList).toArray:=by
        apply Array.ext'
        simp [kX _ (show 0 < z.cells.size by rw [hzs];exact hpos),hvy]
      rw [hcl] at hrun
      refine done _ _ (fin (.slice (some ⟨w.heap.size, 0, none⟩) (xs.length + n) (grownCap w (xs.length + n) cx e)) (w.drew.alloc (.cells (vx ++ vy ++ (Builtin.zeroCells z.cells (grownCap w (xs.length + n) cx e - (xs.length + n))).toList).toArray e)) (by rw [ex, ey]; exact hrun) rfl rfl rfl (by simp) (fun c hc _ => (by first|exact heap_alloc_old w.drew _ c hc|exact heap_alloc_old w.drew _ hc)) (fun c hc => .inr (by simp [blk] at hc; omega))
        (.inr ⟨w.heap.size,grownCap w (xs.length + n) cx e,vx ++ vy,(Builtin.zeroCells z.cells (grownCap w (xs.length + n) cx e - (xs.length + n))).toList,by simp [hyl],heap_alloc_new w.drew _,by simpa [hyl] using hg1,⟨by omega,hg2⟩,?_,(by intro u hu;simp only [List.mem_append] at hu;exact hu.elim (ox u) (oy u)),by rw [List.flatten_append];exact yE _ _ _ _ Vx Vy⟩))
      have hz3 : (Builtin.zeroCells z.cells (grownCap w (xs.length + n) cx e - (xs.length + n))).toList.length = (grownCap w (xs.length + n) cx e - (xs.length + n)) * sz:=by rw [Array.length_toList,size_zeroCells,hzs]
      rw [List.length_append,List.length_append,hl1,← hlv,hly,hyl,hz3,← Nat.add_mul,← Nat.add_mul]
      congr 1;omega
    rcases hO with ⟨⟨ad,hO⟩,rfl⟩|⟨b,cap,vs,sp,hb',hh,hle,hm,hc,hone,hl⟩
    · refine grow ad 0 [] (by rw [hv, hO]; rfl) (by simp) (by simp) ?_ (by simp) (by simp [VRl]) (by simpa using hp)
      cases ad<;>simp [Builtin.firstCells,loadCells,loadCellsFrom]
    · by_cases hroom : xs.length + n ≤ cap
      · have hlvs := zP _ _ hl
        have hfit : xs.length * i.size + vy.length ≤ (vs ++ sp).toArray.size:=by
          rw [hi1]
          simp only [List.size_toArray,hc]
          rw [← hlv,hly,hyl,← Nat.add_mul]
          exact Nat.mul_le_mul_right _ hroom
        have hrun:=kw (P:=P) (w:=w) t tn o.type e i z k kn ht htn hi hz b xs.length cap (vs ++ sp).toArray hh n hp hspos (by rw [hzs];exact hpos) (by simp only [maxLen] at h63;omega) (by omega) (by rw [← hvy];exact oy) hroom (by rw [← hvy];exact hfit)
        rw [← hvy] at hrun
        refine done _ _ (fin (.slice (some ⟨b, 0, none⟩) (xs.length + n) cap) (w.setRow b ((vs ++ sp).toArray.toList.take (xs.length * i.size) ++ vy ++ (vs ++ sp).toArray.toList.drop (xs.length * i.size + vy.length)).toArray) (by rw [hv, hb', ey]; exact hrun) rfl rfl rfl (by simp) (fun c hc hne => setRow_other w b c _ (fun e => hne (by rw [hb', e]; simp [blk]; omega))) (fun c hc => .inl (by rw [hb']; simp [blk] at hc ⊢; omega))
          (.inr ⟨b,cap,vs ++ vy,(sp.drop vy.length),by simp [hyl],?_,by simpa [hyl] using hroom,hm,?_,(by intro u hu;simp only [List.mem_append] at hu;exact hu.elim (hone u) (oy u)),by rw [List.flatten_append];exact yE _ _ _ _ hl Vy⟩))
        · rw [setRow_heap w b _ _ e _ hh]
          have e1 : xs.length * i.size = vs.length:=by rw [hi1];omega
          simp only [e1,List.take_left]
          congr 3
          rw [List.drop_append]
          simp
        · have := hc
          simp only [List.length_append,List.length_drop] at this ⊢
          have : ys.length * sz + vs.length ≤ cap * sz:=by
            rw [← hlvs,hlx,← Nat.add_mul];exact Nat.mul_le_mul_right _ (by omega)
          omega
      · refine grow (some ⟨b, 0, none⟩) cap vs (by rw [hv, hb']) hle (by rw [← zP _ _ hl, hlx]) ?_ hone hl (by omega)
        exact run_firstCells_some (P:=P) w.drew i.size xs.length ⟨b,0,none⟩ xs.length cap vs (by rw [hi1,← zP _ _ hl,hlx]) (fun j u hj=>by
          have:=zH hh j u (by rw [List.getElem?_append_left (List.getElem?_eq_some_iff.1 hj).1];exact hj)
          simpa using this)
theorem yv {P : Program} {N : Nat} {o : Oper} {Γ : Env} {σ σ2 : Sto} {K : AV → Sto → Prop} {x y : Operand} {t tn e sz bt : Nat} {z : Value} {oo s : Nat} {xs xs2 : List (List AV)} {zs : List AV} {k kn : IntKind} {c : Int}
    (ho : o.op = .call { callee:=.builtin .append,args:=#[x,y],argTypes:=#[t,tn] }) (ht : P.underlying t = some (.slice e)) (htn : P.underlying tn = some (.int kn)) (he : EO P e sz bt z)
    (hx : ev Γ x = .row oo s) (hs : σ[oo]? = some (.row s e sz xs)) (hy : ev Γ y = .lit (.int k c)) (h0c : 0 ≤ c) (hz1 : z.cells.toList.all (fun v=>v.oneCell') = true) (hb : (xs.length + c.toNat) * bt ≤ 140737488355328) (h63 : xs.length + c.toNat ≤ 9223372036854775807)
    (hz : z.cells.toList.map alit = zs) (hxs : xs ++ List.replicate c.toNat zs = xs2) (hσ : σ.set oo (.row (s + 1) e sz xs2) = σ2) (hK : K (.row oo (s + 1)) σ2) : SOp P N o Γ σ K:=by
  subst hz;subst hxs;subst hσ
  exact zah ho ht htn he hx hs hy h0c hz1 hb h63 hK
end Go.Lf
