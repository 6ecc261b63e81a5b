import Derived.Test.YtdalcgfnlbofdaaGreatDoorTg
import Derived.Test.YtdalcgfnlbofdaaGreatDoorZ12
import Derived.Test.YtdalcgfnlbofdaaGreatDoorLc
set_option linter.unusedVariables false
set_option linter.unusedSimpArgs false
namespace Go.Proofs.YtdalcgfnlbofdaaGreatDoor
open Go Go.Lf Go.Proofs
attribute [local irreducible] Lf.rg Lf.ro Lf.PWp Lf.SOp Lf.ACall Lf.Scoped Lf.dg Lf.dw
set_option maxRecDepth 20000
set_option maxHeartbeats 4000000
structure ES where
 (i a : Nat) (q : EQ)
def zv6 (l : List Int) (t0 : DT) (Q : EQ) (w : ES) : Prop:=w.i ≤ l.length ∧ jc (l.drop w.i) w.q = Q ∧ TOk w.q.t ∧ w.q.t.xs.length ≤ 30000 ∧ w.q.o.length ≤ 18 * w.i
def zv7 (how : List Op4) (l : List Fl) (Q : EQ) (w : ES) : Prop:=w.i ≤ l.length ∧ jd how (l.drop w.i) w.i w.q = Q ∧ TOk w.q.t ∧ w.q.t.xs.length ≤ 30000 + w.i ∧ w.q.o.length ≤ 2000 + 8018 * w.i
theorem zic {l : List Int} {i : Nat} {z : Int} {q Q : EQ} (hz : l[i]? = some z) (h : jc (l.drop i) q = Q) : jc (l.drop (i + 1)) (zrI q z) = Q:=by
 rw [yJ hz,jc] at h;exact h
theorem zl9 {l : List Int} {i : Nat} {q Q : EQ} (hi : ¬ i < l.length) (h : jc (l.drop i) q = Q) : q = Q:=by
 rw [List.drop_eq_nil_of_le (by omega)] at h;exact h
theorem zcz {how : List Op4} {l : List Fl} {i : Nat} {f : Fl} {o : Op4} {q Q : EQ} {r : Rw} {t : DT} (hf : l[i]? = some f) (ho : zcU how i = o) (hr : zcy q.t.xs.reverse f.n f.v f.k o.w o.nn o.sn o.sv = r) (ht : zbO q.t f.n f.v f.k o.w = t) (h : jd how (l.drop i) i q = Q) : jd how (l.drop (i + 1)) (i + 1) ⟨zej q.o (rwB r),t⟩ = Q:=by
 rw [yJ hf,jd,zrJ,ho,hr,ht] at h;exact h
theorem zma {how : List Op4} {l : List Fl} {i : Nat} {q Q : EQ} (hi : ¬ i < l.length) (h : jd how (l.drop i) i q = Q) : q = Q:=by
 rw [List.drop_eq_nil_of_le (by omega)] at h;exact h
theorem zid {α : Type} {l : List α} (h : l.length = 0) : l = []:=List.length_eq_zero_iff.1 h
theorem kH (a b : List UInt8) : (zej a b).length = a.length + b.length:=List.length_append
theorem kJ (a b : List UInt8) : a.map zf ++ b.map zf = (zej a b).map zf:=by unfold zej;rw [List.map_append]
theorem zfo (i n : Nat) : Int.tmod (i : Int) (n : Int) = ((i % n : Nat) : Int):=by rw [Int.ofNat_tmod]
attribute [local irreducible] wt zO keptL flN addX vh xsE zgd plB plI nmI zcy zbO zhZ kP rpB rwB zdA zej jc jd op0
set_option maxRecDepth 20000 in
theorem zkG (f1 q1 f2 q2 f3 q3 : Bool) (sizes : List Int) (l : List Fl) (wy : List Op4) (hsl : sizes.length ≤ 100) (hll : l.length ≤ 100) (hol : wy.length ≤ 100000) (hlb : ∀ f ∈ l,f.n.size ≤ 1000 ∧ f.v.size ≤ 1000) (xs : List Fl) (s : Nat) (m : Int) (hx : xs.length ≤ 30000) (hS : zO xs ≤ m) (hm0 : 0 ≤ m) (hm1 : m ≤ 2147483647) (hbb : ∀ f ∈ xs,f.n.size ≤ 1000000 ∧ f.v.size ≤ 1000000) (hz : zeh sizes = false) (Q : EQ) (hQ : zfl sizes l wy ⟨xs,s,m⟩ = Q) : AEq Tryz.prog 131 [.ptr 0 0,.sl f1 q1 (sizes.map y8),.sl f2 q2 (l.map flA),.sl f3 q3 (wy.map opA)] [.box [.ptr 1 0],.box [.row 2 s,i64 (zO xs),i64 m],.row s 103 3 (xs.map flA)] (.tu [.sl false false (Q.o.map zf),i64 0]) [.box [.ptr 1 0],.box [.row 2 Q.t.s,i64 (zO Q.t.xs),i64 Q.t.m],.row Q.t.s 103 3 (Q.t.xs.map flA)]:=by
 have hzz:=zcx hz
 obtain ⟨Q1,hQ1⟩ : ∃ Q1,jc sizes ⟨[],⟨xs,s,m⟩⟩ = Q1:=⟨_,rfl⟩
 have hQ2 : jd wy l 0 Q1 = Q:=by rw [← hQ1];exact hQ
 refine zc Tryz.func131 rfl Tryz.ntmps131 (by simp) (fun hsc=>?_);simp only [Lf.enter,Nat.reduceAdd];clear hsc
 have hU:=@hz
 repeat' (first|(refine goR ?_)|(refine za (fun K hK=>?_))|((refine zb (fun hcd=>?_) (fun hcd=>?_))<;>(try simp only [hcP] at hcd)<;>(try exact cdT))|(refine zd (f:=172) rfl Tryz.call172 (h:=AEq.pure' agT (zuP _ _ _ (by omega)) (hq:=?_)))|(refine hK _ _ ?_;clear hK K))
 refine yp 10 5 1 (by decide) (by rfl) rfl rfl ?_
 refine kC [10,12,13,14,38,39,40,41,42,43,44,45,46,47,48,49,50,51,52,53,54,55,56,57] (fun w : ES=>[(38,i64 w.i),(10,.row 3 w.a)]) (fun w=>[.box [.ptr 1 0],.box [.row 2 w.q.t.s,i64 (zO w.q.t.xs),i64 w.q.t.m],.row w.q.t.s 103 3 (w.q.t.xs.map flA),.row w.a 5 1 (w.q.o.map zf)]) (zv6 sizes ⟨xs,s,m⟩ Q1) (fun w=>sizes.length - w.i) ⟨0,0,⟨[],⟨xs,s,m⟩⟩⟩ ⟨Nat.zero_le _,hQ1,⟨hS,hm0,hm1,hbb⟩,hx,Nat.zero_le _⟩ ?_ (by first|rfl|(dsimp only;done)|(dsimp only;rfl)) ?_
 ·dsimp only
  have hU:=True.intro
  (refine ⟨⟨_,sT,?_⟩,⟨_,sT,?_⟩,trivial⟩<;>(try (first|exact zh)))
 ·rintro ⟨i, a, ⟨o, ⟨xt, st, mt⟩⟩⟩ ⟨hi, hk, hok, hxn, hon⟩
  dsimp only at hi hk hxn hon ⊢
  have hok2:=hok
  obtain ⟨hSt,hmt0,hmt1,hbt⟩:=hok2
  dsimp only at hSt hmt0 hmt1 hbt
  simp only [yn,List.map_cons,List.map_nil,List.cons_append,List.nil_append]
  by_cases hlt : i < sizes.length
  ·obtain ⟨z, hzi⟩ := yy hlt
   have hzb:=hzz z (List.mem_of_getElem? hzi)
   obtain ⟨hz0,hz1⟩:=hzb
   obtain ⟨hk1,hk2⟩:=zia (z:=z) hok hz0 hz1
   dsimp only at hk2
   have hln:=zei z
   have hcl:=kH o (zdA z)
   have hap:=kJ o (zdA z)
   have hSt2 : zO xt ≤ 2147483647:=by omega
   have hbg : ∀ f ∈ xt,f.n.size ≤ 1000000000 ∧ f.v.size ≤ 1000000000:=fun f hf=>by have:=hbt f hf;omega
   have hU:=@hap
   repeat' (first|(refine goS ?_)|(refine za (fun K hK=>?_))|((refine zb (fun hcd=>?_) (fun hcd=>?_))<;>(try simp only [hcP] at hcd)<;>(try exact cdT))|(refine zd (f:=174) rfl Tryz.call174 (h:=AEq.pure' agT (zrK _ aoT aoT) (hq:=?_)))|(refine zd (f:=175) rfl Tryz.call175 (h:=AEq.sub' [_,_] (hc:=zuL _ _ _ _ aoT aoT aoT aoT aoT) (hq:=?_)))|(refine hK _ _ ?_;clear hK K))
   refine ⟨⟨i + 1,a + 1,⟨zej o (zdA z),⟨keptL xt z,st + 1,z⟩⟩⟩,[0,1,2,3],⟨by dsimp only;omega,zic hzi hk,hk1,by dsimp only;omega,by dsimp only;omega⟩,by dsimp only;omega,rfl,?_,arT,?_⟩
   ·dsimp only
    have hU:=True.intro
    (refine ⟨⟨_,sT,?_⟩,⟨_,sT,?_⟩,trivial⟩<;>(try (first|exact zh)))
   ·dsimp only
    first|rfl|(simp (disch:=omega) only [go_sem,seval,↓reduceIte];done)|(simp (disch:=omega) only [go_sem,seval,↓reduceIte];rfl)|trace_state
  obtain rfl:=zl9 hlt hk
  have hU:=True.intro
  repeat' (first|(refine goR ?_)|(refine za (fun K hK=>?_))|((refine zb (fun hcd=>?_) (fun hcd=>?_))<;>(try simp only [hcP] at hcd)<;>(try exact cdT))|(refine hK _ _ ?_;clear hK K)|(apply_assumption (exfalso:=false) (symm:=false)))
  refine kC [10,15,16,17,18,19,60,61,62,63,64,65,66,67,68,69,70,71,72,73,74,75,76,77,78,79,80,81,82,83,84,85,86,87,88,89] (fun w : ES=>[(60,i64 w.i),(10,.row 3 w.a)]) (fun w=>[.box [.ptr 1 0],.box [.row 2 w.q.t.s,i64 (zO w.q.t.xs),i64 w.q.t.m],.row w.q.t.s 103 3 (w.q.t.xs.map flA),.row w.a 5 1 (w.q.o.map zf)]) (zv7 wy l Q) (fun w=>l.length - w.i) ⟨0,a,⟨o,⟨xt,st,mt⟩⟩⟩ ⟨Nat.zero_le _,hQ2,hok,by dsimp only;omega,by dsimp only;omega⟩ ?_ (by first|rfl|(dsimp only;done)|(dsimp only;rfl)) ?_
  ·dsimp only
   (refine ⟨⟨_,sT,?_⟩,⟨_,sT,?_⟩,trivial⟩<;>(try (first|exact zh)))
  ·clear hi hk hxn hon hok hSt hmt0 hmt1 hbt hlt hQ1 hQ2
   rintro ⟨i,a,⟨o,⟨xt,st,mt⟩⟩⟩ ⟨hi,hk,hok,hxn,hon⟩
   dsimp only at hi hk hxn hon ⊢
   have hok2:=hok
   obtain ⟨hSt,hmt0,hmt1,hbt⟩:=hok2
   dsimp only at hSt hmt0 hmt1 hbt
   simp only [yn,List.map_cons,List.map_nil,List.cons_append,List.nil_append]
   by_cases hlt : i < l.length
   ·obtain ⟨⟨fn, fv, fk⟩, hfi⟩ := yy hlt
    have hfb:=hlb _ (List.mem_of_getElem? hfi)
    dsimp only at hfb
    obtain ⟨hfb1,hfb2⟩:=hfb
    have hfc1 : fn.size ≤ 1000000:=by omega
    have hfc2 : fv.size ≤ 1000000:=by omega
    have hSt2 : zO xt ≤ 2147483647:=by omega
    have hxt9 : xt.length ≤ 90000:=by omega
    have hrl : xt.reverse.length = xt.length:=List.length_reverse
    by_cases hh : wy.length = 0
    ·obtain rfl := zid hh
     obtain ⟨⟨rk,ri,rn,rns,rv,rvs⟩,hr⟩ : ∃ r,zcy xt.reverse fn fv fk 0 false false false = r:=⟨_,rfl⟩
     obtain ⟨⟨xt',st',mt'⟩,ht⟩ : ∃ t,zbO ⟨xt,st,mt⟩ fn fv fk 0 = t:=⟨_,rfl⟩
     have hrw:=za5 hr (by omega) hfb1 hfb2
     obtain ⟨ht1,ht2,ht3⟩:=za6 ht hok hfc1 hfc2
     dsimp only at ht2 ht3
     have hln:=zdn hrw
     have hcl:=kH o (rwB ⟨rk,ri,rn,rns,rv,rvs⟩)
     have hap:=kJ o (rwB ⟨rk,ri,rn,rns,rv,rvs⟩)
     have hU:=@hap
     repeat' (first|(refine goS ?_)|(guard_target =~ PWp _ _ _ _ _ _ _;refine zn (id:=21) [0,1,2,3,4,5,6,7,8,9,10,11,12] [6] mixed (by kernel_rfl) (by kernel_rfl) ?_)|(refine za (fun K hK=>?_))|((refine zb (fun hcd=>?_) (fun hcd=>?_))<;>(try simp only [hcP] at hcd)<;>(try exact cdT))|(guard_target =~ dw _ _ _ _ _ _ _ _ _ _;first|(guard_target =~ dw _ _ _ _ _ (6 :: _) _ _ _ _;(refine zaq rfl rfl (h:=zQ (h:=zd (f:=176) rfl Tryz.call176 (h:=AEq.sub' [_,_] (hc:=zl5 _ _ _ _ _ _ _ _ _ _ (by assumption) (by assumption) (by assumption) (by assumption) (by assumption) (by assumption) (by assumption) _ _ (by assumption) (by assumption)) (hq:=zi ⟨rfl,rfl⟩)))) (hk:=?_)))|(guard_target =~ dw _ _ _ _ _ (7 :: _) _ _ _ _;(refine vK rfl rfl (h:=(fun τ=>zQ (h:=zd (f:=174) rfl Tryz.call174 (h:=AEq.pure' agT (zl8 _ _ _ _ _ _ (by assumption)) (hq:=zi ⟨rfl,rfl⟩))))) (hk:=?_))))|(refine hK _ _ ?_;clear hK K))
     refine ⟨⟨i + 1,a + 1,⟨zej o (rwB ⟨rk,ri,rn,rns,rv,rvs⟩),⟨xt',st',mt'⟩⟩⟩,[0,1,2,3],⟨by dsimp only;omega,zcz (how:=[]) (o:=⟨0,false,false,false⟩) hfi zl7 hr ht hk,ht1,by dsimp only;omega,by dsimp only;omega⟩,by dsimp only;omega,rfl,?_,arT,?_⟩
     ·dsimp only
      have hU:=True.intro
      (refine ⟨⟨_,sT,?_⟩,⟨_,sT,?_⟩,trivial⟩<;>(try (first|exact zh)))
     ·dsimp only
      first|rfl|(simp (disch:=omega) only [go_sem,seval,↓reduceIte];done)|(simp (disch:=omega) only [go_sem,seval,↓reduceIte];rfl)|trace_state
    ·have hlm : i % wy.length < wy.length := Nat.mod_lt _ (by omega)
     obtain ⟨⟨ow,o1,o2,o3⟩,ho⟩:=yy hlm
     have hom:=zfo i wy.length
     obtain ⟨⟨rk,ri,rn,rns,rv,rvs⟩,hr⟩ : ∃ r,zcy xt.reverse fn fv fk ow o1 o2 o3 = r:=⟨_,rfl⟩
     obtain ⟨⟨xt',st',mt'⟩,ht⟩ : ∃ t,zbO ⟨xt,st,mt⟩ fn fv fk ow = t:=⟨_,rfl⟩
     have hrw:=za5 hr (by omega) hfb1 hfb2
     obtain ⟨ht1,ht2,ht3⟩:=za6 ht hok hfc1 hfc2
     dsimp only at ht2 ht3
     have hln:=zdn hrw
     have hcl:=kH o (rwB ⟨rk,ri,rn,rns,rv,rvs⟩)
     have hap:=kJ o (rwB ⟨rk,ri,rn,rns,rv,rvs⟩)
     have hU:=And.intro @hap (@hom)
     repeat' (first|(refine goS ?_)|(guard_target =~ PWp _ _ _ _ _ _ _;refine zn (id:=21) [0,1,2,3,4,5,6,7,8,9,10,11,12] [6] mixed (by kernel_rfl) (by kernel_rfl) ?_)|(refine za (fun K hK=>?_))|((refine zb (fun hcd=>?_) (fun hcd=>?_))<;>(try simp only [hcP] at hcd)<;>(try exact cdT))|(guard_target =~ dw _ _ _ _ _ _ _ _ _ _;first|(guard_target =~ dw _ _ _ _ _ (6 :: _) _ _ _ _;(refine zaq rfl rfl (h:=zQ (h:=zd (f:=176) rfl Tryz.call176 (h:=AEq.sub' [_,_] (hc:=zl5 _ _ _ _ _ _ _ _ _ _ (by assumption) (by assumption) (by assumption) (by assumption) (by assumption) (by assumption) (by assumption) _ _ (by assumption) (by assumption)) (hq:=zi ⟨rfl,rfl⟩)))) (hk:=?_)))|(guard_target =~ dw _ _ _ _ _ (7 :: _) _ _ _ _;(refine vK rfl rfl (h:=(fun τ=>zQ (h:=zd (f:=174) rfl Tryz.call174 (h:=AEq.pure' agT (zl8 _ _ _ _ _ _ (by assumption)) (hq:=zi ⟨rfl,rfl⟩))))) (hk:=?_))))|(refine hK _ _ ?_;clear hK K))
     refine ⟨⟨i + 1,a + 1,⟨zej o (rwB ⟨rk,ri,rn,rns,rv,rvs⟩),⟨xt',st',mt'⟩⟩⟩,[0,1,2,3],⟨by dsimp only;omega,zcz (o:=⟨ow,o1,o2,o3⟩) hfi (zdo ho) hr ht hk,ht1,by dsimp only;omega,by dsimp only;omega⟩,by dsimp only;omega,rfl,?_,arT,?_⟩
     ·dsimp only
      have hU:=True.intro
      (refine ⟨⟨_,sT,?_⟩,⟨_,sT,?_⟩,trivial⟩<;>(try (first|exact zh)))
     ·dsimp only
      first|rfl|(simp (disch:=omega) only [go_sem,seval,↓reduceIte];done)|(simp (disch:=omega) only [go_sem,seval,↓reduceIte];rfl)|trace_state
   obtain rfl:=zma hlt hk
   try dsimp only
   repeat' (first|(refine goR ?_)|(refine za (fun K hK=>?_))|((refine zb (fun hcd=>?_) (fun hcd=>?_))<;>(try simp only [hcP] at hcd)<;>(try exact cdT))|((refine ze [0,1,2] (by rw [Tryz.results131,Lf.yb]) (zu ?_ ?_) ?_)<;>(try (first|exact zh|exact stT)))|(refine hK _ _ ?_;clear hK K)|(apply_assumption (exfalso:=false) (symm:=false)))
end Go.Proofs.YtdalcgfnlbofdaaGreatDoor
namespace Go.Proofs.YtdalcgfnlbofdaaGreatDoor
open Go Go.Lf Go.Proofs
attribute [local irreducible] Lf.rg Lf.ro Lf.PWp Lf.SOp Lf.ACall Lf.Scoped Lf.dg Lf.dw
set_option maxRecDepth 20000
set_option maxHeartbeats 4000000
attribute [local irreducible] wt zO keptL flN addX vh xsE zgd plB plI nmI zcy zbO zhZ kP rpB rwB zdA zej jc jd op0
end Go.Proofs.YtdalcgfnlbofdaaGreatDoor
