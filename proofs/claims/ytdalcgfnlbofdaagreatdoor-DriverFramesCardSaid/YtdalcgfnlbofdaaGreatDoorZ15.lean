import Derived.Test.YtdalcgfnlbofdaaGreatDoorTg
import Derived.Test.YtdalcgfnlbofdaaGreatDoorZ13
import Derived.Test.YtdalcgfnlbofdaaGreatDoorZ11
import Derived.Test.YtdalcgfnlbofdaaGreatDoorZ14
import Derived.Test.YtdalcgfnlbofdaaGreatDoorLc
import Derived.Test.YtdalcgfnlbofdaaGreatDoorZ01
import Derived.Test.YtdalcgfnlbofdaaGreatDoorZ08
import Derived.Test.YtdalcgfnlbofdaaGreatDoorTy
set_option linter.unusedVariables false
set_option linter.unusedSimpArgs false
namespace Go.Proofs.YtdalcgfnlbofdaaGreatDoor
open Go Go.Lf Go.Proofs
attribute [local irreducible] Lf.rg Lf.ro Lf.PWp Lf.SOp Lf.ACall Lf.Scoped Lf.dg Lf.dw
set_option maxRecDepth 20000
set_option maxHeartbeats 4000000
attribute [local irreducible] wt zO keptL flN addX vh xsE zgd plB plI nmI zcy zbO zhZ kP rpB rwB zdA zej jc jd op0
set_option maxRecDepth 20000 in
theorem zij (f1 f2 f3 f4 : Bool) (sizes : List Int) (l : List Fl) (wy : List Op4) (hsl : sizes.length ≤ 100) (hll : l.length ≤ 100) (hol : wy.length ≤ 100000) (hlb : ∀ f ∈ l,f.n.size ≤ 1000 ∧ f.v.size ≤ 1000) (xs : List Fl) (s : Nat) (m : Int) (hx : xs.length ≤ 30000) (hS : zO xs ≤ m) (hm0 : 0 ≤ m) (hm1 : m ≤ 2147483647) (hbb : ∀ f ∈ xs,f.n.size ≤ 1000000 ∧ f.v.size ≤ 1000000) (hz : zeh sizes = false) (Q : EQ) (hQ : zfl sizes l wy ⟨xs,s,m⟩ = Q) : AEq Tryz.prog 86 [.ag [.sl f1 false (xs.reverse.map flA),i64 m],.sl f2 false (sizes.map y8),.sl f3 false (l.map flA),.sl f4 false (wy.map opA)] [] (.tu [.sl false false (Q.o.map zf),.ag [.sl false false (Q.t.xs.reverse.map flA),i64 Q.t.m],bl true]) []:=by
 have hzz:=zcx hz
 obtain ⟨Q1,hQ1⟩ : ∃ Q1,jc sizes ⟨[],⟨xs,s,m⟩⟩ = Q1:=⟨_,rfl⟩
 have hQ2 : jd wy l 0 Q1 = Q:=by rw [← hQ1];exact hQ
 refine zc Tryz.func86 rfl Tryz.ntmps86 (by simp) (fun hsc=>?_);simp only [Lf.enter,Nat.reduceAdd];clear hsc
 have hU:=True.intro
 repeat' (first|(refine goR ?_)|(refine za (fun K hK=>?_))|(refine hK _ _ ?_;clear hK K))
 refine yp 11 5 1 (by decide) (by rfl) rfl rfl ?_
 refine kC [8,10,11,13,19,20,21,22,23,24,25,26,27,28,29,30,31,32,33,34,35,36,37,38,39,40,41,42,43,44,45] (fun w : ES × Bool=>[(13,i64 w.1.i),(11,.row 3 w.1.a)]) (fun w=>[.box [.sl f1 false (xs.reverse.map flA),i64 m],.box [.sl true false [],i64 0],.box [.sl w.2 false (w.1.q.t.xs.reverse.map flA),i64 w.1.q.t.m],.row w.1.a 5 1 (w.1.q.o.map zf)]) (fun w=>zv6 sizes ⟨xs,s,m⟩ Q1 w.1) (fun w=>sizes.length - w.1.i) (⟨0,0,⟨[],⟨xs,s,m⟩⟩⟩,f1) ⟨Nat.zero_le _,hQ1,⟨hS,hm0,hm1,hbb⟩,hx,Nat.zero_le _⟩ ?_ (by first|rfl|(dsimp only;done)|(dsimp only;rfl)) ?_
 ·dsimp only
  (refine ⟨⟨_,sT,?_⟩,⟨_,sT,?_⟩,trivial⟩<;>(try (first|exact zh)))
 ·rintro ⟨⟨i, a, ⟨o, ⟨xt, st, mt⟩⟩⟩, fl⟩ ⟨hi, hk, hok, hxn, hon⟩
  dsimp only at hi hk hxn hon ⊢
  have hok2:=hok
  obtain ⟨hSt,hmt0,hmt1,hbt⟩:=hok2
  dsimp only at hSt hmt0 hmt1 hbt
  simp only [yn,List.map_cons,List.map_nil,List.cons_append,List.nil_append]
  by_cases hlt : i < sizes.length
  ·obtain ⟨z, hzi⟩ := yy hlt
   have hzb:=hzz z (List.mem_of_getElem? hzi)
   obtain ⟨hz0,hz1⟩:=hzb
   obtain ⟨hk1,hk2⟩:=zia (z:=z) hok hz0 hz1
   dsimp only at hk2
   have hln:=zei z
   have hcl:=kH o (zdA z)
   have hap:=kJ o (zdA z)
   have hSt2 : zO xt ≤ 2147483647:=by omega
   have hbg : ∀ f ∈ xt,f.n.size ≤ 1000000000 ∧ f.v.size ≤ 1000000000:=fun f hf=>by have:=hbt f hf;omega
   have hrl : xt.reverse.length = xt.length:=List.length_reverse
   have hrS : zO xt.reverse ≤ 4000000000:=by rw [zav];omega
   have hrb : ∀ f ∈ xt.reverse,f.n.size ≤ 1000000000 ∧ f.v.size ≤ 1000000000:=fun f hf=>by have:=hbt f (List.mem_reverse.1 hf);omega
   have hkf : List.take (kP xt.reverse 0 z) xt.reverse = (keptL xt z).reverse:=(zcq z xt).symm
   have hmy : decide (0 ≤ z ∧ z ≤ 2147483647) = true:=by rw [decide_eq_true_eq];exact ⟨hz0,hz1⟩
   have hU:=And.intro @hap ( And.intro @hkf (@hmy))
   repeat' (first|(refine goS ?_)|(guard_target =~ PWp _ _ _ _ _ _ _;refine yw (id:=9) [0,1,2,3,4,5,6] [6] mixed (by kernel_rfl) (by kernel_rfl) ?_)|(refine za (fun K hK=>?_))|((refine zb (fun hcd=>?_) (fun hcd=>?_))<;>(try simp only [hcP] at hcd)<;>(try exact cdT))|(refine zd (f:=137) rfl Tryz.call137 (h:=AEq.pure' agT (zob _ aoT aoT) (hq:=?_)))|(refine zd (f:=136) rfl Tryz.call136 (h:=AEq.pure' agT (zuI _) (hq:=?_)))|(guard_target =~ dw _ _ _ _ _ _ _ _ _ _;first|((first|guard_target =~ dw _ _ _ _ _ (2 :: _) _ _ _ _|guard_target =~ dw _ _ _ _ _ (3 :: _) _ _ _ _|guard_target =~ dw _ _ _ _ _ (6 :: _) _ _ _ _);(refine kO rfl rfl (h:=zcT (h:=z0 rfl (hK:=zi ⟨rfl,rfl⟩))) (hk:=?_)))|(guard_target =~ dw _ _ _ _ _ (3 :: _) _ _ _ _;(refine vK rfl rfl (h:=(fun τ=>zQ (h:=yP rfl (hK:=zi ⟨rfl,rfl⟩)))) (hk:=?_)))|(guard_target =~ dw _ _ _ _ _ (5 :: _) _ _ _ _;(refine vK rfl rfl (h:=(fun τ=>zQ (h:=zd (f:=115) rfl Tryz.call115 (h:=AEq.pure' agT (zuN _ _ _ _ aoT aoT aoT) (hq:=zi ⟨rfl,rfl⟩))))) (hk:=?_))))|(refine hK _ _ ?_;clear hK K))
   refine ⟨(⟨i + 1,a + 1,⟨zej o (zdA z),⟨keptL xt z,st + 1,z⟩⟩⟩,false),[0,1,2,3],⟨by dsimp only;omega,zic hzi hk,hk1,by dsimp only;omega,by dsimp only;omega⟩,by dsimp only;omega,rfl,?_,arT,?_⟩
   ·dsimp only
    have hU:=True.intro
    (refine ⟨⟨_,sT,?_⟩,⟨_,sT,?_⟩,trivial⟩<;>(try (first|exact zh)))
   ·dsimp only
    first|rfl|(simp (disch:=omega) only [go_sem,seval,↓reduceIte];done)|(simp (disch:=omega) only [go_sem,seval,↓reduceIte];rfl)|trace_state
  obtain rfl:=zl9 hlt hk
  repeat' (first|(refine goR ?_)|(refine za (fun K hK=>?_))|((refine zb (fun hcd=>?_) (fun hcd=>?_))<;>(try simp only [hcP] at hcd)<;>(try exact cdT))|(refine hK _ _ ?_;clear hK K)|(apply_assumption (exfalso:=false) (symm:=false)))
  refine kC [11,14,15,16,17,46,47,48,49,50,51,52,53,54,55,56,57,58,59,60,61,62,63,64,65,66,67,68,69,70,71,72,73,74,75,76,77] (fun w : ES × Bool=>[(14,i64 w.1.i),(11,.row 3 w.1.a)]) (fun w : ES × Bool=>[.box [.sl f1 false (xs.reverse.map flA),i64 m],.box [.sl true false [],i64 0],.box [.sl w.2 false (w.1.q.t.xs.reverse.map flA),i64 w.1.q.t.m],.row w.1.a 5 1 (w.1.q.o.map zf)]) (fun w=>zv7 wy l Q w.1) (fun w=>l.length - w.1.i) (⟨0,a,⟨o,⟨xt,st,mt⟩⟩⟩,fl) ⟨Nat.zero_le _,hQ2,hok,by dsimp only;omega,by dsimp only;omega⟩ ?_ (by first|rfl|(dsimp only;done)|(dsimp only;rfl)) ?_
  ·dsimp only
   (refine ⟨⟨_,sT,?_⟩,⟨_,sT,?_⟩,trivial⟩<;>(try (first|exact zh)))
  ·clear hi hk hxn hon hok hSt hmt0 hmt1 hbt hlt hQ1 hQ2
   rintro ⟨⟨i,a,⟨o,⟨xt,st,mt⟩⟩⟩,fl⟩ ⟨hi,hk,hok,hxn,hon⟩
   dsimp only at hi hk hxn hon ⊢
   have hok2:=hok
   obtain ⟨hSt,hmt0,hmt1,hbt⟩:=hok2
   dsimp only at hSt hmt0 hmt1 hbt
   simp only [yn,List.map_cons,List.map_nil,List.cons_append,List.nil_append]
   by_cases hlt : i < l.length
   ·obtain ⟨⟨fn, fv, fk⟩, hfi⟩ := yy hlt
    have hfb:=hlb _ (List.mem_of_getElem? hfi)
    dsimp only at hfb
    obtain ⟨hfb1,hfb2⟩:=hfb
    have hfc1 : fn.size ≤ 1000000:=by omega
    have hfc2 : fv.size ≤ 1000000:=by omega
    have hSt2 : zO xt ≤ 2147483647:=by omega
    have hxt9 : xt.length ≤ 90000:=by omega
    have hrl : xt.reverse.length = xt.length:=List.length_reverse
    by_cases hh : wy.length = 0
    ·obtain rfl := zid hh
     obtain ⟨⟨rk,ri,rn,rns,rv,rvs⟩,hr⟩ : ∃ r,zcy xt.reverse fn fv fk 0 false false false = r:=⟨_,rfl⟩
     obtain ⟨⟨xt',st',mt'⟩,ht⟩ : ∃ t,zbO ⟨xt,st,mt⟩ fn fv fk 0 = t:=⟨_,rfl⟩
     have hrw:=za5 hr (by omega) hfb1 hfb2
     obtain ⟨ht1,ht2,ht3⟩:=za6 ht hok hfc1 hfc2
     dsimp only at ht2 ht3
     have hln:=zdn hrw
     have hcl:=kH o (rwB ⟨rk,ri,rn,rns,rv,rvs⟩)
     have hap:=kJ o (rwB ⟨rk,ri,rn,rns,rv,rvs⟩)
     have hU:=@hap
     repeat' (first|(refine goS ?_)|(guard_target =~ PWp _ _ _ _ _ _ _;refine j8 (id:=16) (dk:=72) (dA:=16) (dB:=17) (tA:=196) (tB:=121) 9 mixed (by kernel_rfl) (by kernel_rfl) (by kernel_rfl) (by kernel_rfl) (by kernel_rfl) (by kernel_rfl) (by kernel_rfl) (by kernel_rfl) (by kernel_rfl) rfl rfl rfl rfl rfl rfl (by kernel_rfl) (by kernel_rfl) zj7 zj6 (by rfl) (by rfl) (zmc (by simp (disch:=omega) only [List.all_cons,List.all_nil,zuU,yT,pur,go_sem,seval,Bool.and_self,Bool.not_false];done)) rfl rfl (by simp (disch:=omega) only [go_sem,seval];rfl) (by simp only [Nat.reduceAdd];rfl) (by simp (disch:=omega) only [go_sem,seval];rfl) ?_)|(refine za (fun K hK=>?_))|((refine zb (fun hcd=>?_) (fun hcd=>?_))<;>(try simp only [hcP] at hcd)<;>(try exact cdT))|(refine zd (f:=137) rfl Tryz.call137 (h:=AEq.pure' agT (zib _ _ _ _ _ _ (by assumption)) (hq:=?_)))|(refine hK _ _ ?_;clear hK K)|(guard_target =~ dg _ _ _ _ _ _ _;first|(guard_target =~ dg _ _ _ (⟨_,.indexAddr _ _ _,_,_,_,none⟩ :: _) _ _ _;(refine yY (x:=_) (h:=zQ (h:=yP rfl (hK:=zi ⟨rfl,rfl⟩))) (hk:=?_)))|(guard_target =~ dg _ _ _ (⟨_,.call ⟨.value (.func 138),_,_⟩,_,_,_,none⟩ :: _) _ _ _;(refine yY (x:=_) (h:=zQ (h:=zd (f:=138) rfl Tryz.call138 (h:=AEq.pure' agT (zh9 _ _ _ _ _ _ _ _ _ _ _ (by assumption) (by assumption) (by assumption) (by assumption) (by assumption) (by assumption) (by assumption) _ _ (by assumption) (by assumption)) (hq:=zi ⟨rfl,rfl⟩)))) (hk:=?_))))|(guard_target =~ al3K _ _ _ _ _ _ _ _ _ _ _ _ _;refine zrM (vn (by simp only [go_sem];rfl) (by simp only [go_sem,seval,↓reduceIte,hap];rfl)) (fun τ=>zpj rfl (by (try simp (disch:=omega) only [go_sem,seval,↓reduceIte,hap]);rfl) (by rfl) (zi ⟨rfl,rfl⟩)) (by rfl) (by rfl) (vn (by simp only [go_sem];rfl) (by simp only [go_sem,seval,↓reduceIte,hap];rfl)) (zcT (by rfl) (z0 rfl (by first|((try simp (disch:=omega) only [go_sem,seval,↓reduceIte,hap]);rfl)|(simp (disch:=omega) only [go_sem,seval,↓reduceIte,hap];done)) (by first|((try simp (disch:=omega) only [go_sem,seval,↓reduceIte,hap]);rfl)|(simp (disch:=omega) only [go_sem,seval,↓reduceIte,hap];done)) (by first|(simp (disch:=omega) only [go_sem,seval,↓reduceIte,hap];done)|rfl) (by first|((try simp (disch:=omega) only [go_sem,seval,↓reduceIte,hap]);rfl)|(simp (disch:=omega) only [go_sem,seval,↓reduceIte,hap];done)) (by first|((try simp (disch:=omega) only [go_sem,seval,↓reduceIte,hap]);rfl)|(simp (disch:=omega) only [go_sem,seval,↓reduceIte,hap];done)) (by first|(simp (disch:=omega) only [go_sem,seval,↓reduceIte,hap];done)|rfl) (by first|(simp (disch:=omega) only [go_sem,seval,↓reduceIte,hap];done)|rfl) (by first|(simp (disch:=omega) only [go_sem,seval,↓reduceIte,hap];done)|rfl) (by first|((try simp (disch:=omega) only [go_sem,seval,↓reduceIte,hap]);rfl)|(simp (disch:=omega) only [go_sem,seval,↓reduceIte,hap];done)) (by first|((try simp (disch:=omega) only [go_sem,seval,↓reduceIte,hap]);rfl)|(simp (disch:=omega) only [go_sem,seval,↓reduceIte,hap];done)) (zi ⟨rfl,rfl⟩))) ?_))
     refine ⟨(⟨i + 1,a + 1,⟨zej o (rwB ⟨rk,ri,rn,rns,rv,rvs⟩),⟨xt',st',mt'⟩⟩⟩,false),[0,1,2,3],⟨by dsimp only;omega,zcz (how:=[]) (o:=⟨0,false,false,false⟩) hfi zl7 hr ht hk,ht1,by dsimp only;omega,by dsimp only;omega⟩,by dsimp only;omega,rfl,?_,arT,?_⟩
     ·dsimp only
      have hU:=True.intro
      (refine ⟨⟨_,sT,?_⟩,⟨_,sT,?_⟩,trivial⟩<;>(try (first|exact zh)))
     ·dsimp only
      first|rfl|(simp (disch:=omega) only [go_sem,seval,↓reduceIte];done)|(simp (disch:=omega) only [go_sem,seval,↓reduceIte];rfl)|trace_state
    ·have hlm : i % wy.length < wy.length := Nat.mod_lt _ (by omega)
     obtain ⟨⟨ow,o1,o2,o3⟩,ho⟩:=yy hlm
     have hom:=zfo i wy.length
     obtain ⟨⟨rk,ri,rn,rns,rv,rvs⟩,hr⟩ : ∃ r,zcy xt.reverse fn fv fk ow o1 o2 o3 = r:=⟨_,rfl⟩
     obtain ⟨⟨xt',st',mt'⟩,ht⟩ : ∃ t,zbO ⟨xt,st,mt⟩ fn fv fk ow = t:=⟨_,rfl⟩
     have hrw:=za5 hr (by omega) hfb1 hfb2
     obtain ⟨ht1,ht2,ht3⟩:=za6 ht hok hfc1 hfc2
     dsimp only at ht2 ht3
     have hln:=zdn hrw
     have hcl:=kH o (rwB ⟨rk,ri,rn,rns,rv,rvs⟩)
     have hap:=kJ o (rwB ⟨rk,ri,rn,rns,rv,rvs⟩)
     have hU:=And.intro @hap (@hom)
     repeat' (first|(refine goS ?_)|(guard_target =~ PWp _ _ _ _ _ _ _;refine j8 (id:=16) (dk:=72) (dA:=16) (dB:=17) (tA:=196) (tB:=121) 9 mixed (by kernel_rfl) (by kernel_rfl) (by kernel_rfl) (by kernel_rfl) (by kernel_rfl) (by kernel_rfl) (by kernel_rfl) (by kernel_rfl) (by kernel_rfl) rfl rfl rfl rfl rfl rfl (by kernel_rfl) (by kernel_rfl) zj7 zj6 (by rfl) (by rfl) (zmc (by simp (disch:=omega) only [List.all_cons,List.all_nil,zuU,yT,pur,go_sem,seval,Bool.and_self,Bool.not_false];done)) rfl rfl (by simp (disch:=omega) only [go_sem,seval];rfl) (by simp only [Nat.reduceAdd];rfl) (by simp (disch:=omega) only [go_sem,seval];rfl) ?_)|(refine za (fun K hK=>?_))|((refine zb (fun hcd=>?_) (fun hcd=>?_))<;>(try simp only [hcP] at hcd)<;>(try exact cdT))|(refine zd (f:=137) rfl Tryz.call137 (h:=AEq.pure' agT (zib _ _ _ _ _ _ (by assumption)) (hq:=?_)))|(refine hK _ _ ?_;clear hK K)|(guard_target =~ dg _ _ _ _ _ _ _;first|(guard_target =~ dg _ _ _ (⟨_,.indexAddr _ _ _,_,_,_,none⟩ :: _) _ _ _;(refine yY (x:=_) (h:=zQ (h:=yP rfl (hK:=zi ⟨rfl,rfl⟩))) (hk:=?_)))|(guard_target =~ dg _ _ _ (⟨_,.call ⟨.value (.func 138),_,_⟩,_,_,_,none⟩ :: _) _ _ _;(refine yY (x:=_) (h:=zQ (h:=zd (f:=138) rfl Tryz.call138 (h:=AEq.pure' agT (zh9 _ _ _ _ _ _ _ _ _ _ _ (by assumption) (by assumption) (by assumption) (by assumption) (by assumption) (by assumption) (by assumption) _ _ (by assumption) (by assumption)) (hq:=zi ⟨rfl,rfl⟩)))) (hk:=?_))))|(guard_target =~ al3K _ _ _ _ _ _ _ _ _ _ _ _ _;refine zrM (vn (by simp only [go_sem];rfl) (by simp only [go_sem,seval,↓reduceIte,hap,hom];rfl)) (fun τ=>zpj rfl (by (try simp (disch:=omega) only [go_sem,seval,↓reduceIte,hap,hom]);rfl) (by rfl) (zi ⟨rfl,rfl⟩)) (by rfl) (by rfl) (vn (by simp only [go_sem];rfl) (by simp only [go_sem,seval,↓reduceIte,hap,hom];rfl)) (zcT (by rfl) (z0 rfl (by first|((try simp (disch:=omega) only [go_sem,seval,↓reduceIte,hap,hom]);rfl)|(simp (disch:=omega) only [go_sem,seval,↓reduceIte,hap,hom];done)) (by first|((try simp (disch:=omega) only [go_sem,seval,↓reduceIte,hap,hom]);rfl)|(simp (disch:=omega) only [go_sem,seval,↓reduceIte,hap,hom];done)) (by first|(simp (disch:=omega) only [go_sem,seval,↓reduceIte,hap,hom];done)|rfl) (by first|((try simp (disch:=omega) only [go_sem,seval,↓reduceIte,hap,hom]);rfl)|(simp (disch:=omega) only [go_sem,seval,↓reduceIte,hap,hom];done)) (by first|((try simp (disch:=omega) only [go_sem,seval,↓reduceIte,hap,hom]);rfl)|(simp (disch:=omega) only [go_sem,seval,↓reduceIte,hap,hom];done)) (by first|(simp (disch:=omega) only [go_sem,seval,↓reduceIte,hap,hom];done)|rfl) (by first|(simp (disch:=omega) only [go_sem,seval,↓reduceIte,hap,hom];done)|rfl) (by first|(simp (disch:=omega) only [go_sem,seval,↓reduceIte,hap,hom];done)|rfl) (by first|((try simp (disch:=omega) only [go_sem,seval,↓reduceIte,hap,hom]);rfl)|(simp (disch:=omega) only [go_sem,seval,↓reduceIte,hap,hom];done)) (by first|((try simp (disch:=omega) only [go_sem,seval,↓reduceIte,hap,hom]);rfl)|(simp (disch:=omega) only [go_sem,seval,↓reduceIte,hap,hom];done)) (zi ⟨rfl,rfl⟩))) ?_))
     refine ⟨(⟨i + 1,a + 1,⟨zej o (rwB ⟨rk,ri,rn,rns,rv,rvs⟩),⟨xt',st',mt'⟩⟩⟩,false),[0,1,2,3],⟨by dsimp only;omega,zcz (o:=⟨ow,o1,o2,o3⟩) hfi (zdo ho) hr ht hk,ht1,by dsimp only;omega,by dsimp only;omega⟩,by dsimp only;omega,rfl,?_,arT,?_⟩
     ·dsimp only
      have hU:=True.intro
      (refine ⟨⟨_,sT,?_⟩,⟨_,sT,?_⟩,trivial⟩<;>(try (first|exact zh)))
     ·dsimp only
      first|rfl|(simp (disch:=omega) only [go_sem,seval,↓reduceIte];done)|(simp (disch:=omega) only [go_sem,seval,↓reduceIte];rfl)|trace_state
   obtain rfl:=zma hlt hk
   try dsimp only
   refine zcV (zrz 2 [.sl false false (xt.reverse.map flA),i64 mt] rfl rfl (fun ρ w vs h=>zn3 ρ w vs h)) ?_
   dsimp only [List.set]
   repeat' (first|(refine goR ?_)|(guard_target =~ PWp _ _ _ _ _ _ _;refine zn (id:=19) [0,1,2,3,4] [3] mixed (by kernel_rfl) (by kernel_rfl) ?_)|(refine za (fun K hK=>?_))|((refine zb (fun hcd=>?_) (fun hcd=>?_))<;>(try simp only [hcP] at hcd)<;>(try exact cdT))|((refine zY [] exT (by rfl) (by rw [Tryz.results86];exact Lf.zm0 roT roT roT) sT sT (zm1 ?_ ?_ ?_) ?_)<;>(try (first|exact zh|exact stT)))|(refine hK _ _ ?_;clear hK K)|(guard_target =~ dw _ _ _ _ _ _ _ _ _ _;first|((first|guard_target =~ dw _ _ _ _ _ (2 :: _) _ _ _ _|guard_target =~ dw _ _ _ _ _ (3 :: _) _ _ _ _|guard_target =~ dw _ _ _ _ _ (6 :: _) _ _ _ _);(refine kO rfl rfl (h:=zcT (h:=z0 rfl (hK:=zi ⟨rfl,rfl⟩))) (hk:=?_))))|(apply_assumption (exfalso:=false) (symm:=false)))
end Go.Proofs.YtdalcgfnlbofdaaGreatDoor
namespace Go.Proofs.YtdalcgfnlbofdaaGreatDoor
open Go Go.Lf Go.Proofs
attribute [local irreducible] Lf.rg Lf.ro Lf.PWp Lf.SOp Lf.ACall Lf.Scoped Lf.dg Lf.dw
set_option maxRecDepth 20000
set_option maxHeartbeats 4000000
structure WBk where
 (z : List Int) (l : List Fl) (h : List Op4)
@[go_sem] def ekA (b : WBk) : List AV:=[.sl false false (b.z.map y8),.sl false false (b.l.map flA),.sl false false (b.h.map opA)]
@[go_sem] theorem zuV (l : List WBk) : yT (l.map ekA).flatten = true:=z7 (fun a=>by simp [ekA,yT,pur]) l
@[go_sem] theorem zth {κ : List Nat} {σ : Sto} (l : List WBk) : List.map (fzl κ σ) (l.map ekA) = l.map ekA:=vo (fun _=>rfl) l
@[go_sem] theorem zuW (l : List Op4) : yT (l.map opA).flatten = true:=z7 (fun _=>rfl) l
@[go_sem] theorem zti {κ : List Nat} {σ : Sto} (l : List Op4) : List.map (fzl κ σ) (l.map opA) = l.map opA:=vo (fun _=>rfl) l
theorem zoh (m : Int) (h : 0 ≤ m) (h2 : m ≤ 2147483647) : AEq Tryz.prog 68 [i64 m] [] (.tu [.ptr 2 0,i64 0]) [.box [.row 1 0,i64 (zO xsE),i64 m],.row 0 103 3 (xsE.map flA),.box [.ptr 0 0]]:=by
 refine zc Tryz.func68 rfl Tryz.ntmps68 (by simp) (fun hsc=>?_);simp only [Lf.enter,Nat.reduceAdd];clear hsc
 have hU:=True.intro
 repeat' (first|(refine goR ?_)|(refine za (fun K hK=>?_))|((refine zb (fun hcd=>?_) (fun hcd=>?_))<;>(try simp only [hcP] at hcd)<;>(try exact cdT))|(refine zd (f:=101) rfl Tryz.call101 (h:=AEq.sub' [] (hc:=znU _ (by assumption) (by assumption)) (hq:=?_)))|((refine ze [0,1,2] (by rw [Tryz.results68,Lf.yb]) (zu ?_ ?_) ?_)<;>(try (first|exact zh|exact stT)))|(refine hK _ _ ?_;clear hK K))
theorem zoi {m : Int} (h : 0 ≤ m) (h2 : m ≤ 2147483647) : TOk ⟨xsE,0,m⟩:=⟨h,h,h2,zfi⟩
theorem zoj {z : List Int} {l : List Fl} {how : List Op4} {t : DT} {Q : EQ} (h : zfl z l how t = Q) (ht : TOk t) (hx : t.xs.length ≤ 30000) (hz : zeh z = false) (hzl : z.length ≤ 100) (hll : l.length ≤ 100) (hlb : ∀ f ∈ l,f.n.size ≤ 1000 ∧ f.v.size ≤ 1000) : TOk Q.t ∧ Q.t.xs.length ≤ t.xs.length + l.length ∧ Q.o.length ≤ 1800 + 8018 * l.length:=by
 unfold zfl at h
 obtain ⟨Q1,hQ1⟩ : ∃ Q1,jc z ⟨[],t⟩ = Q1:=⟨_,rfl⟩
 rw [hQ1] at h
 obtain ⟨a,b,c⟩:=zfm z ⟨[],t⟩ Q1 hQ1 ht (zcx hz)
 dsimp only at b c
 rw [List.length_nil] at c
 obtain ⟨d,e,f,_⟩:=zfn how l 0 Q1 Q h a (by omega) hlb
 exact ⟨d,by omega,by omega⟩
theorem zrN (f1 q1 f2 q2 f3 q3 : Bool) (sizes : List Int) (l : List Fl) (wy : List Op4) (hsl : sizes.length ≤ 100) (hll : l.length ≤ 100) (hol : wy.length ≤ 100000) (hlb : ∀ f ∈ l,f.n.size ≤ 1000 ∧ f.v.size ≤ 1000) (xs : List Fl) (s : Nat) (m : Int) (hx : xs.length ≤ 30000) (hok : TOk ⟨xs,s,m⟩) (hz : zeh sizes = false) (o : List UInt8) (xt : List Fl) (st : Nat) (mt : Int) (hQ : zfl sizes l wy ⟨xs,s,m⟩ = ⟨o,⟨xt,st,mt⟩⟩) : AEq Tryz.prog 131 [.ptr 0 0,.sl f1 q1 (sizes.map y8),.sl f2 q2 (l.map flA),.sl f3 q3 (wy.map opA)] [.box [.ptr 1 0],.box [.row 2 s,i64 (zO xs),i64 m],.row s 103 3 (xs.map flA)] (.tu [.sl false false (o.map zf),i64 0]) [.box [.ptr 1 0],.box [.row 2 st,i64 (zO xt),i64 mt],.row st 103 3 (xt.map flA)]:=
 zkG f1 q1 f2 q2 f3 q3 sizes l wy hsl hll hol hlb xs s m hx hok.1 hok.2.1 hok.2.2.1 hok.2.2.2 hz _ hQ
def zcC (n : Int) : Int:=if n = 1 then 255 else if n = 2 then 65535 else if n = 3 then 16777215 else if n = 4 then 4294967295 else 0
theorem zmd (n : Int) (h : ¬ (1 ≤ n ∧ n ≤ 4)) : AEq Tryz.prog 194 [i64 n] [] (.tu [i64 0,bl false]) []:=by
 refine zc Tryz.func194 rfl Tryz.ntmps194 (by simp) (fun hsc=>?_);simp only [Lf.enter,Nat.reduceAdd];clear hsc
 have hU:=True.intro
 repeat' (first|(refine goR ?_)|(refine za (fun K hK=>?_))|((refine zb (fun hcd=>?_) (fun hcd=>?_))<;>(try simp only [hcP] at hcd)<;>(try exact cdT))|((refine ze [] (by rw [Tryz.results194,Lf.yb]) (zu ?_ ?_) ?_)<;>(try (first|exact zh|exact stT)))|(refine hK _ _ ?_;clear hK K))
theorem za8 (n : Int) (h1 : 1 ≤ n) (h2 : n ≤ 4) : AEq Tryz.prog 194 [i64 n] [] (.tu [i64 (zcC n),bl true]) []:=by
 have h : n = 1 ∨ n = 2 ∨ n = 3 ∨ n = 4:=by omega
 clear h1 h2
 rcases h with rfl|rfl|rfl|rfl
 all_goals
  refine zc Tryz.func194 rfl Tryz.ntmps194 (by simp) (fun hsc=>?_);simp only [Lf.enter,Nat.reduceAdd];clear hsc
  have hU:=True.intro
  repeat' (first|(refine goR ?_)|(refine za (fun K hK=>?_))|((refine zb (fun hcd=>?_) (fun hcd=>?_))<;>(try simp only [hcP] at hcd)<;>(try exact cdT))|((refine ze [] (by rw [Tryz.results194,Lf.yb]) (zu ?_ ?_) ?_)<;>(try (first|exact zh|exact stT)))|(refine hK _ _ ?_;clear hK K))
def yO (l : List UInt8) : Int:=l.foldl (fun n x=>n * 256 + (x.toNat : Int)) 0
theorem za9 (l : List UInt8) (x : UInt8) : yO (l ++ [x]) = yO l * 256 + (x.toNat : Int):=by simp [yO]
theorem zik (l : List UInt8) : 0 ≤ yO l ∧ yO l < 256 ^ l.length:=by
 have key : ∀ (l : List UInt8) (n : Int),0 ≤ n → n * 256 ^ l.length ≤ l.foldl (fun n x=>n * 256 + (x.toNat : Int)) n ∧ l.foldl (fun n x=>n * 256 + (x.toNat : Int)) n < (n + 1) * 256 ^ l.length:=by
  intro l
  induction l with
  | nil=>intro n hn;simp;omega
  | cons x l ih=>
   intro n hn
   have hx : x.toNat < 256:=x.toNat_lt
   have:=ih (n * 256 + (x.toNat : Int)) (by omega)
   simp only [List.foldl_cons,List.length_cons]
   have hp : (256 : Int) ^ (l.length + 1) = 256 * 256 ^ l.length:=by rw [Int.pow_succ,Int.mul_comm]
   have hpos : (0 : Int) < 256 ^ l.length:=Int.pow_pos (by decide)
   rw [hp]
   constructor
   ·refine Int.le_trans ?_ this.1
    rw [← Int.mul_assoc]
    exact Int.mul_le_mul_of_nonneg_right (by omega) (by omega)
   ·refine Int.lt_of_lt_of_le this.2 ?_
    rw [← Int.mul_assoc]
    exact Int.mul_le_mul_of_nonneg_right (by omega) (by omega)
 have:=key l 0 (by omega)
 simpa [yO] using this
theorem zok {l : List UInt8} (h : l.length ≤ 3) : 0 ≤ yO l ∧ yO l < 16777216:=by
 have:=zik l
 rcases (show l.length = 0 ∨ l.length = 1 ∨ l.length = 2 ∨ l.length = 3 by omega) with h|h|h|h<;>rw [h] at this<;>omega
theorem zkL {l : List UInt8} (h : l.length ≤ 4) : 0 ≤ yO l ∧ yO l < 4294967296:=by
 have:=zik l
 rcases (show l.length = 0 ∨ l.length = 1 ∨ l.length = 2 ∨ l.length = 3 ∨ l.length = 4 by omega) with h|h|h|h|h<;>rw [h] at this<;>omega
theorem zol {a : Int} {x : UInt8} (h0 : 0 ≤ a ∧ a < 16777216) : ior .i64 (a * 256) (x.toNat : Int) = a * 256 + (x.toNat : Int):=by
 show IntKind.i64.wrap ((BitVec.ofInt 64 (a * 256) ||| BitVec.ofInt 64 (x.toNat : Int)).toNat : Int) = _
 obtain ⟨n,rfl⟩:=Int.eq_ofNat_of_zero_le h0.1
 have hx : x.toNat < 256:=x.toNat_lt
 have hn : n < 16777216:=by omega
 have e1 : BitVec.ofInt 64 ((n : Int) * 256) = BitVec.ofNat 64 (n * 256):=by
  rw [show ((n : Int) * 256) = ((n * 256 : Nat) : Int) from by simp];rfl
 have e2 : BitVec.ofInt 64 (x.toNat : Int) = BitVec.ofNat 64 x.toNat:=rfl
 rw [e1,e2,BitVec.toNat_or,BitVec.toNat_ofNat,BitVec.toNat_ofNat,Nat.mod_eq_of_lt (by omega),Nat.mod_eq_of_lt (by omega)]
 have e3 : n * 256 ||| x.toNat = n * 256 + x.toNat:=by
  have:=Nat.two_pow_add_eq_or_of_lt (i:=8) (b:=x.toNat) (by omega) n
  rw [Nat.mul_comm n 256]
  exact this.symm
 rw [e3]
 have:=w64 (n:=((n * 256 + x.toNat : Nat) : Int)) (by omega)
 rw [this]
 simp
theorem zom (b : AV) (n : Int) (h : ¬ (1 ≤ n ∧ n ≤ 4)) : AEq Tryz.prog 184 [b,i64 n] [] (.tu [i64 0,i64 1]) []:=by
 refine zc Tryz.func184 rfl Tryz.ntmps184 (by simp) (fun hsc=>?_);simp only [Lf.enter,Nat.reduceAdd];clear hsc
 have hU:=True.intro
 repeat' (first|(refine goR ?_)|(refine za (fun K hK=>?_))|((refine zb (fun hcd=>?_) (fun hcd=>?_))<;>(try simp only [hcP] at hcd)<;>(try exact cdT))|(refine zd (f:=194) rfl Tryz.call194 (h:=AEq.pure' (hc:=zmd _ (by assumption)) (hq:=?_)))|((refine ze [] (by rw [Tryz.results184,Lf.yb]) (zu ?_ ?_) ?_)<;>(try (first|exact zh|exact stT)))|(refine hK _ _ ?_;clear hK K))
theorem zil (f q : Bool) (b : List UInt8) (n : Int) (h1 : 1 ≤ n) (h2 : n ≤ 4) (hn : b.length < n) : AEq Tryz.prog 184 [.sl f q (b.map zf),i64 n] [] (.tu [i64 0,i64 3]) []:=by
 refine zc Tryz.func184 rfl Tryz.ntmps184 (by simp) (fun hsc=>?_);simp only [Lf.enter,Nat.reduceAdd];clear hsc
 have hU:=True.intro
 repeat' (first|(refine goR ?_)|(refine za (fun K hK=>?_))|((refine zb (fun hcd=>?_) (fun hcd=>?_))<;>(try simp only [hcP] at hcd)<;>(try exact cdT))|(refine zd (f:=194) rfl Tryz.call194 (h:=AEq.pure' (hc:=za8 _ (by assumption) (by assumption)) (hq:=?_)))|((refine ze [] (by rw [Tryz.results184,Lf.yb]) (zu ?_ ?_) ?_)<;>(try (first|exact zh|exact stT)))|(refine hK _ _ ?_;clear hK K))
theorem zon (f q : Bool) (b : List UInt8) (n : Int) (h1 : 1 ≤ n) (h2 : n ≤ 4) (hn : n ≤ b.length) (hb : b.length ≤ 4000000000000000000) : AEq Tryz.prog 184 [.sl f q (b.map zf),i64 n] [] (.tu [i64 (yO (b.take n.toNat)),i64 0]) []:=by
 refine zc Tryz.func184 rfl Tryz.ntmps184 (by simp) (fun hsc=>?_);simp only [Lf.enter,Nat.reduceAdd];clear hsc
 have hU:=@zol
 repeat' (first|(refine goR ?_)|(refine za (fun K hK=>?_))|((refine zb (fun hcd=>?_) (fun hcd=>?_))<;>(try simp only [hcP] at hcd)<;>(try exact cdT))|(guard_target =~ SOp _ _ ⟨_,.slice _ _ _ _ _,_,_,_,none⟩ _ _ _;refine kj rfl (hg:=(fun _=>gT)) (hK:=?_))|(refine zd (f:=194) rfl Tryz.call194 (h:=AEq.pure' (hc:=za8 _ (by assumption) (by assumption)) (hq:=?_)))|(refine hK _ _ ?_;clear hK K))
 obtain ⟨c,hc⟩ : ∃ c,c = b.take n.toNat:=⟨_,rfl⟩
 have hcl : (c.length : Int) = n:=by rw [hc,List.length_take];omega
 rw [← hc]
 refine zo [8,10,26,27,28,29,30,31,32,33,34,35] (fun i : Nat=>[(8,i64 (yO (c.take i))),(26,i64 i)]) (fun _=>[]) (fun i=>i ≤ c.length) (fun i=>c.length - i) 0 (Nat.zero_le _) ?_ rfl ?_
 ·(refine ⟨⟨_,sT,?_⟩,⟨_,sT,?_⟩,trivial⟩<;>(try (first|exact zh)))
 ·intro i hi
  simp only [yn,List.map_cons,List.map_nil,List.cons_append,List.nil_append]
  have hb:=zok (l:=c.take (min i 3)) (by simp;omega)
  by_cases hlt : i < c.length
  ·obtain ⟨x, hx⟩ : ∃ x, c[i]? = some x := ⟨c[i], List.getElem?_eq_getElem hlt⟩
   have hm : min i 3 = i:=by omega
   rw [hm] at hb
   have hxb : x.toNat < 256:=x.toNat_lt
   have hs:=za9 (c.take i) x
   rw [← z9 hx] at hs
   repeat' (first|(refine goR ?_)|(refine za (fun K hK=>?_))|((refine zb (fun hcd=>?_) (fun hcd=>?_))<;>(try simp only [hcP] at hcd)<;>(try exact cdT))|(refine hK _ _ ?_;clear hK K))
   refine ⟨i + 1,by omega,by omega,?_,arT,rfl⟩
   (refine ⟨⟨_,sT,?_⟩,⟨_,sT,?_⟩,trivial⟩<;>(try (first|exact zh)))
   exact zA (by rw [hs])
  ·repeat' (first | (refine goR ?_) | (refine za (fun K hK => ?_)) | ((refine zb (fun hcd => ?_) (fun hcd => ?_)) <;> (try simp only [hcP] at hcd) <;> (try exact cdT)) | ((refine ze [] (by rw [Tryz.results184, Lf.yb]) (zu ?_ ?_) ?_) <;> (try (first | exact zh | exact stT))) | (refine hK _ _ ?_; clear hK K) | (apply_assumption (exfalso := false) (symm := false)))
   rw [List.take_of_length_le (by omega),hc]
   exact zA rfl
def okS (n : Int) : Bool:=decide (1 ≤ n) && decide (n ≤ 4)
def zJ (b : List UInt8) (n : Int) : Int:=if okS n = true ∧ n ≤ b.length then yO (b.take n.toNat) else 0
def j9 (b : List UInt8) (n : Int) : Int:=if okS n = false then 1 else if (b.length : Int) < n then 3 else 0
theorem yg {n : Int} (h : 1 ≤ n ∧ n ≤ 4) : okS n = true:=by simp [okS,h.1,h.2]
theorem zbQ {n : Int} (h : ¬ (1 ≤ n ∧ n ≤ 4)) : okS n = false:=by
 simp only [okS,Bool.and_eq_false_iff,decide_eq_false_iff_not];omega
theorem zrO (f q : Bool) (b : List UInt8) (n : Int) (hb : b.length ≤ 4000000000000000000) : AEq Tryz.prog 184 [.sl f q (b.map zf),i64 n] [] (.tu [i64 (zJ b n),i64 (j9 b n)]) []:=by
 by_cases h : 1 ≤ n ∧ n ≤ 4
 ·by_cases h2 : n ≤ b.length
  ·have := zon f q b n h.1 h.2 h2 hb
   rw [show zJ b n = yO (b.take n.toNat) from if_pos ⟨yg h,h2⟩,show j9 b n = 0 by simp only [j9,yg h];rw [if_neg (by simp),if_neg (by omega)]]
   exact this
  ·have := zil f q b n h.1 h.2 (by omega)
   rw [show zJ b n = 0 from if_neg (fun x=>h2 x.2),show j9 b n = 3 by simp only [j9,yg h];rw [if_neg (by simp),if_pos (by omega)]]
   exact this
 ·have := zom (.sl f q (b.map zf)) n h
  rw [show zJ b n = 0 from if_neg (fun x=>by rw [zbQ h] at x;cases x.1),show j9 b n = 1 by simp [j9,zbQ h]]
  exact this
end Go.Proofs.YtdalcgfnlbofdaaGreatDoor
