import Derived.Test.YtdalcgfnlbofdaaGreatDoorPg
import Derived.Test.YtdalcgfnlbofdaaGreatDoorY38
import Derived.Test.YtdalcgfnlbofdaaGreatDoorY37
import Derived.Test.YtdalcgfnlbofdaaGreatDoorY27
import Derived.Test.YtdalcgfnlbofdaaGreatDoorY36
import Derived.Test.YtdalcgfnlbofdaaGreatDoorY01
import Derived.Test.YtdalcgfnlbofdaaGreatDoorPc
import Derived.Test.YtdalcgfnlbofdaaGreatDoorY25
import Derived.Test.YtdalcgfnlbofdaaGreatDoorY32
import Derived.Test.YtdalcgfnlbofdaaGreatDoorY06
set_option linter.unusedVariables false
set_option linter.unusedSimpArgs false
namespace Go.Proofs.YtdalcgfnlbofdaaGreatDoor
open Go Go.Lf Go.Proofs
attribute [local irreducible] Lf.rg Lf.ro Lf.PWp Lf.SOp Lf.ACall Lf.Scoped Lf.dg Lf.dw
set_option maxRecDepth 20000
set_option maxHeartbeats 4000000
def jm (sd : Int) : List Fr → Nat → Int
 | [],_=>-1
 | x :: l,i=>if x.w = sd then (i : Int) else jm sd l (i + 1)
theorem zoz {l : List Fr} {i : Nat} {d : Fr} (h : l[i]? = some d) : l.drop i = d :: l.drop (i + 1):=by
 obtain ⟨hi,h⟩:=List.getElem?_eq_some_iff.1 h
 rw [← h,List.drop_eq_getElem_cons hi]
theorem zlS (w t g s : Int) (r f : Bool) (b : List UInt8) (sd : Int) : AEq Tryz.prog 45 [.ag [i64 w,i64 t,i64 g,i64 s,bl r,.sl f false (b.map zf)],.ptr 0 0] [.box [i64 sd]] (bl (decide (w = sd))) [.box [i64 sd]]:=by
 refine zc Tryz.func45 rfl Tryz.ntmps45 (by simp) (fun hsc=>?_);simp only [Lf.enter,Nat.reduceAdd];clear hsc
 have hU:=True.intro
 repeat' (first|(refine goR ?_)|(refine za (fun K hK=>?_))|((refine zh [0] (by rw [Tryz.results45,Lf.zy]) (zj ?_) ?_)<;>(try (first|exact zi|exact stT)))|(refine hK _ _ ?_;clear hK K))
 all_goals first|exact zt rfl|trace_state
theorem zzG (f q : Bool) (l : List Fr) (sd : Int) (h : l.length ≤ 1000000) : AEq Tryz.prog 88 [.sl f q (l.map frA),.fn 45 [.ptr 0 0]] [.box [i64 sd]] (i64 (jm sd l 0)) [.box [i64 sd]]:=by
 refine zc Tryz.func88 rfl Tryz.ntmps88 (by simp) (fun hsc=>?_);simp only [Lf.enter,Nat.reduceAdd];clear hsc
 have hU:=True.intro
 repeat' (first|(refine goR ?_)|(refine za (fun K hK=>?_))|(refine hK _ _ ?_;clear hK K))
 refine zU [4,5,8,9,10,11,12,13,14,15,16,17,18] [0] (fun i : Nat=>[(8,i64 i)]) (fun _=>[.box [i64 sd]]) (fun i=>i ≤ l.length ∧ jm sd l 0 = jm sd (l.drop i) i) (fun i=>l.length - i) 0 (fun _=>rfl) rfl rfl ⟨Nat.zero_le _,rfl⟩ ?_ rfl (by intro s i x h;simp only [List.mem_cons,Prod.mk.injEq,List.not_mem_nil,or_false] at h;obtain ⟨rfl,_⟩:=h;decide) ?_
 ·(refine ⟨⟨_,sT,?_⟩,trivial⟩<;>(try (first|exact zi)))
 ·rintro i ⟨hi, hk⟩
  simp only [vf,List.map_cons,List.map_nil,List.cons_append,List.nil_append]
  by_cases hlt : i < l.length
  ·obtain ⟨x, hd⟩ := jM hlt
   rw [zoz hd,jm] at hk
   by_cases h1 : x.w = sd
   ·rw [if_pos h1] at hk
    have h2 : decide (x.w = sd) = true:=decide_eq_true h1
    have hU:=@h2
    repeat' (first|(refine goR ?_)|(refine za (fun K hK=>?_))|((refine zb (fun hcd=>?_) (fun hcd=>?_))<;>(try simp only [hcP] at hcd)<;>(try exact cdT))|(refine zch (f:=45) rfl sT Tryz.call45 sT (AEq.sub' [_] (by first|((repeat' (first|exact trivial|(first|exact z0|exact zB id id|exact yy|exact zB (by simp) id|exact zB (by simp) (fun _=>rfl)|exact zT (by rfl) (by rfl) (fun _=>rfl)|exact yi (by rfl) (by rfl) (fun _=>rfl)|exact yT (by rfl) (by rfl)|exact yh|exact vu (by rfl) (by rfl) (fun _=>rfl))|refine ⟨?_,?_⟩));done)|fail) (by first|(refine SubOk.mk' ?_ (by first|((repeat' (first|exact trivial|refine ⟨by rfl,by first|rfl|exact yd (fun _=>rfl) _,?_⟩));done)|fail);rfl)|fail) (zlS _ _ _ _ _ _ _ _) bT (by first|rfl|(simp (disch:=omega) only [List.all_cons,List.all_nil,okP,Bool.and_self,go_sem,seval];done)) sT sT ?_))|((refine zh [0] (by rw [Tryz.results88,Lf.zy]) (zj ?_) ?_)<;>(try (first|exact zi|exact stT)))|(refine hK _ _ ?_;clear hK K))
    all_goals first|exact yG hk.symm|trace_state
   ·rw [if_neg h1] at hk
    have h2 : decide (x.w = sd) = false:=decide_eq_false h1
    have hU:=@h2
    repeat' (first|(refine goR ?_)|(refine za (fun K hK=>?_))|((refine zb (fun hcd=>?_) (fun hcd=>?_))<;>(try simp only [hcP] at hcd)<;>(try exact cdT))|(refine zch (f:=45) rfl sT Tryz.call45 sT (AEq.sub' [_] (by first|((repeat' (first|exact trivial|(first|exact z0|exact zB id id|exact yy|exact zB (by simp) id|exact zB (by simp) (fun _=>rfl)|exact zT (by rfl) (by rfl) (fun _=>rfl)|exact yi (by rfl) (by rfl) (fun _=>rfl)|exact yT (by rfl) (by rfl)|exact yh|exact vu (by rfl) (by rfl) (fun _=>rfl))|refine ⟨?_,?_⟩));done)|fail) (by first|(refine SubOk.mk' ?_ (by first|((repeat' (first|exact trivial|refine ⟨by rfl,by first|rfl|exact yd (fun _=>rfl) _,?_⟩));done)|fail);rfl)|fail) (zlS _ _ _ _ _ _ _ _) bT (by first|rfl|(simp (disch:=omega) only [List.all_cons,List.all_nil,okP,Bool.and_self,go_sem,seval];done)) sT sT ?_))|(refine hK _ _ ?_;clear hK K))
    refine ⟨i + 1,⟨by omega,hk⟩,by omega,?_,arT,srT⟩
    (refine ⟨⟨_,sT,?_⟩,trivial⟩<;>(try (first|exact zi)))
  ·have he : jm sd l 0 = -1 := by rw [hk, List.drop_eq_nil_of_le (by omega)]; rfl
   repeat' (first|(refine goR ?_)|(refine za (fun K hK=>?_))|((refine zb (fun hcd=>?_) (fun hcd=>?_))<;>(try simp only [hcP] at hcd)<;>(try exact cdT))|((refine zh [0] (by rw [Tryz.results88,Lf.zy]) (zj ?_) ?_)<;>(try (first|exact zi|exact stT)))|(refine hK _ _ ?_;clear hK K)|(apply_assumption (exfalso:=false) (symm:=false)))
   all_goals first|exact yG he.symm|trace_state
theorem zfA (sd : Int) : ∀ (l : List Fr) (i : Nat), -1 ≤ jm sd l i ∧ jm sd l i ≤ i + l.length
 | [],i=>by
  unfold jm
  simp only [List.length_nil]
  omega
 | x :: l,i=>by
  have:=zfA sd l (i + 1)
  unfold jm
  simp only [List.length_cons]
  split<;>omega
theorem zoA (f q : Bool) (l : List Fr) (sd : Int) (h : l.length ≤ 1000000) : AEq Tryz.prog 44 [.sl f q (l.map frA),.fn 45 [.ptr 0 0]] [.box [i64 sd]] (bl (decide (0 ≤ jm sd l 0))) [.box [i64 sd]]:=by
 have hb:=zfA sd l 0
 refine zc Tryz.func44 rfl Tryz.ntmps44 (by simp) (fun hsc=>?_);simp only [Lf.enter,Nat.reduceAdd];clear hsc
 have hU:=True.intro
 repeat' (first|(refine goR ?_)|(refine za (fun K hK=>?_))|(refine zd (f:=88) rfl Tryz.call88 (h:=AEq.sub' [_] (hc:=zzG _ _ _ _ (by assumption)) (hq:=?_)))|((refine zh [0] (by rw [Tryz.results44,Lf.zy]) (zj ?_) ?_)<;>(try (first|exact zi|exact stT)))|(refine hK _ _ ?_;clear hK K))
 all_goals first|exact zt rfl|trace_state
def z5 : List UInt8:=[0,0,0,0,0]
def s4 : List (Int × Int):=[(4,100)]
def zsd (sd : Int) (l : List Fr) : Int:=if sd = 0 then 1 else zok l
def zse (sd : Int) (l : List Fr) : List Fr:=if sd = 0 then msgF 0 (nxN l) mg0 else msgF 1 (zok l) mg1
noncomputable def turnT (sd : Int) (l : List Fr) (k : Int) : List Fr:=
 if k = 1 then dutF sd (seeF sd l) else if k = 2 then zse sd l else if k = 3 then emQ sd 8 0 0 [] [] 0 0 100 else if k = 4 then emQ sd 6 0 0 n9 [] 0 0 0 else if k = 5 then emQ sd 4 0 0 [] s4 0 0 0
 else if k = 6 then emQ sd 3 0 (zsd sd l) [] [] 0 8 0 else if k = 7 then emQ sd 0 0 (zsd sd l) z5 [] 0 0 0 else if k = 8 then emQ sd 7 0 0 [] [] 2147483647 0 0 else if k = 9 then emQ sd 9 4 1 [] [] 0 0 0 else []
noncomputable def turnF (sd : Int) (l : List Fr) (c : Int) : List Fr:=if 0 ≤ jm sd l 0 then turnT sd l (max c 0 % 10) else opF sd
theorem j6 (sd : Int) (l : List Fr) {k : Int} (h0 : 0 ≤ k) (h9 : k ≤ 9) : (k = 0 ∧ turnT sd l k = []) ∨ (k = 1 ∧ turnT sd l k = dutF sd (seeF sd l)) ∨ (k = 2 ∧ turnT sd l k = zse sd l) ∨ (k = 3 ∧ turnT sd l k = emQ sd 8 0 0 [] [] 0 0 100) ∨ (k = 4 ∧ turnT sd l k = emQ sd 6 0 0 n9 [] 0 0 0) ∨ (k = 5 ∧ turnT sd l k = emQ sd 4 0 0 [] s4 0 0 0) ∨ (k = 6 ∧ turnT sd l k = emQ sd 3 0 (zsd sd l) [] [] 0 8 0) ∨ (k = 7 ∧ turnT sd l k = emQ sd 0 0 (zsd sd l) z5 [] 0 0 0) ∨ (k = 8 ∧ turnT sd l k = emQ sd 7 0 0 [] [] 2147483647 0 0) ∨ (k = 9 ∧ turnT sd l k = emQ sd 9 4 1 [] [] 0 0 0):=by
 have h : k = 0 ∨ k = 1 ∨ k = 2 ∨ k = 3 ∨ k = 4 ∨ k = 5 ∨ k = 6 ∨ k = 7 ∨ k = 8 ∨ k = 9:=by omega
 rcases h with rfl|rfl|rfl|rfl|rfl|rfl|rfl|rfl|rfl|rfl<;>simp [turnT]
theorem zzH (sd : Int) (f q : Bool) (l : List Fr) (hl : l.length ≤ 1000000) (hxs : ∀ x ∈ l,-9223372036854775808 ≤ x.s ∧ x.s ≤ 9223372036854775807) (hs : sd = 0 ∨ sd = 1) : AEq Tryz.prog 49 [i64 sd,.sl f q (l.map frA)] [] (i64 (zsd sd l)) []:=by
 rcases hs with rfl|rfl
 ·exact ziI f q l
 ·exact ziJ f q l hl hxs
theorem zzI (sd : Int) (f q : Bool) (l : List Fr) (hl : l.length ≤ 1000000) (hxs : ∀ x ∈ l,-9223372036854775808 ≤ x.s ∧ x.s ≤ 9223372036854775807) (hs : sd = 0 ∨ sd = 1) : AEq Tryz.prog 46 [i64 sd,.sl f q (l.map frA)] [] (.sl false false ((zse sd l).map frA)) []:=by
 rcases hs with rfl|rfl
 ·exact zsb f q l hl
 ·exact zsc f q l hl hxs
theorem zuk (sd : Int) (f q : Bool) (l : List Fr) (c : Int) (hc1 : c ≤ 9223372036854775807) (hs : sd = 0 ∨ sd = 1) (hl : l.length ≤ 100) (hx : ∀ x ∈ l,x.b.length ≤ 100000) (hxs : ∀ x ∈ l,-9223372036854775808 ≤ x.s ∧ x.s ≤ 9223372036854775807) : AEq Tryz.prog 16 [i64 sd,.sl f q (l.map frA),i64 c] [] (.sl false false ((turnF sd l c).map frA)) []:=by
 have hl6 : l.length ≤ 1000000:=by omega
 have hz5 : z5.length ≤ 100000:=by decide
 have hn9 : n9.length ≤ 100000:=by decide
 have hs4 : s4.length ≤ 10000:=by decide
 have hd0 : ([] : List UInt8).length ≤ 100000:=by decide
 by_cases hi : 0 ≤ jm sd l 0
 ·have hI : decide (0 ≤ jm sd l 0) = true := decide_eq_true hi
  have hT : turnF sd l c = turnT sd l (max c 0 % 10):=if_pos hi
  rw [hT]
  obtain ⟨m,hm⟩ : ∃ m,max c 0 = m:=⟨_,rfl⟩
  rw [hm]
  have hm0 : 0 ≤ m:=by omega
  have hm1 : m ≤ 9223372036854775807:=by omega
  have hc:=j6 sd l (k:=m % 10) (by omega) (by omega)
  by_cases hn : 0 ≤ c
  ·have hmn : m = c := by omega
   subst hmn
   rcases hc with ⟨h5,e⟩|⟨h5,e⟩|⟨h5,e⟩|⟨h5,e⟩|⟨h5,e⟩|⟨h5,e⟩|⟨h5,e⟩|⟨h5,e⟩|⟨h5,e⟩|⟨h5,e⟩
   all_goals rw [e]
   all_goals (refine zc Tryz.func16 rfl Tryz.ntmps16 (by simp) (fun hsc=>?_);simp only [Lf.enter,Nat.reduceAdd];clear hsc)
   all_goals (have hU:=And.intro @h5 (@hI))
   all_goals (repeat' (first|(refine goR ?_)|(refine za (fun K hK=>?_))|(guard_target =~ PWp _ _ _ _ _ _ _;refine zQ mixed (by kernel_rfl) ?_)|((refine zb (fun hcd=>?_) (fun hcd=>?_))<;>(try simp only [hcP] at hcd)<;>(try exact cdT))|(refine zd (f:=47) rfl Tryz.call47 (h:=AEq.pure' agT (ziG _ _ _ _ _ _ _ _ _ _ aoT) (hq:=?_)))|(refine zd (f:=47) rfl Tryz.call47 (h:=AEq.pure' agT (zox _ _ _ _ _ _ _ _ _ _ _ aoT aoT) (hq:=?_)))|(guard_target =~ SOp _ _ ⟨_,.buildSlice _ _ _,_,_,_,none⟩ _ _ _;refine yF (xs:=List.map (yq) (s4)) rfl (he:=eoT) (hc:=hcT) (hK:=?_))|(guard_target =~ SOp _ _ ⟨_,.makeFunc _ _ _,_,_,_,none⟩ _ _ _;refine jB rfl sT ?_)|(guard_target =~ SOp _ _ ⟨_,.call ⟨.builtin .max,_,_⟩,_,_,_,none⟩ _ _ _;refine j2 rfl sT sT lmT ?_)|(refine zd (f:=46) rfl Tryz.call46 (h:=AEq.pure' agT (zzI _ _ _ _ aoT aoT aoT) (hq:=?_)))|(refine zd (f:=31) rfl Tryz.call31 (h:=AEq.pure' agT (zog _ _ _ _ aoT aoT aoT) (hq:=?_)))|(refine zd (f:=44) rfl Tryz.call44 (h:=AEq.sub' [_] (hc:=zoA _ _ _ _ aoT) (hq:=?_)))|(refine zd (f:=43) rfl Tryz.call43 (h:=AEq.pure' agT (kQ _ aoT) (hq:=?_)))|((refine zh [] (by rw [Tryz.results16,Lf.zy]) (zj ?_) ?_)<;>(try (first|exact zi|exact stT)))|(guard_target =~ dg _ _ _ _ _ _ _;first|(guard_target =~ dg _ _ _ (⟨_,.build _ _,_,_,_,none⟩ :: _) _ _ _;(refine ko (x:=_) (h:=yj (h:=zX rfl (by first|exact zcL|exact zdb|exact zdc|fail) (hK:=ze ⟨rfl,rfl⟩))) (hk:=?_)))|(guard_target =~ dg _ _ _ (⟨_,.call ⟨.value (.func 47),_,_⟩,_,_,_,none⟩ :: _) _ _ _;first|(refine ko (x:=_) (h:=yj (h:=zd (f:=47) rfl Tryz.call47 (h:=AEq.pure' agT (ziG _ _ _ _ _ _ _ _ _ _ aoT) (hq:=ze ⟨rfl,rfl⟩)))) (hk:=?_))|(refine ko (x:=_) (h:=yj (h:=zd (f:=47) rfl Tryz.call47 (h:=AEq.pure' agT (zow _ _ _ _ _ _ _ _ _ _ _ aoT aoT) (hq:=ze ⟨rfl,rfl⟩)))) (hk:=?_)))|(guard_target =~ dg _ _ _ (⟨_,.call ⟨.value (.func 49),_,_⟩,_,_,_,none⟩ :: _) _ _ _;(refine ko (x:=_) (h:=yj (h:=zd (f:=49) rfl Tryz.call49 (h:=AEq.pure' agT (zzH _ _ _ _ aoT aoT aoT) (hq:=ze ⟨rfl,rfl⟩)))) (hk:=?_)))|(guard_target =~ dg _ _ _ (⟨_,.buildSlice _ _ _,_,_,_,none⟩ :: _) _ _ _;(refine ko (x:=_) (h:=yj (h:=yF rfl (he:=eoT) (hK:=ze ⟨rfl,rfl⟩))) (hk:=?_)))|(guard_target =~ dg _ _ _ (⟨_,.call ⟨.value (.func 48),_,_⟩,_,_,_,none⟩ :: _) _ _ _;(refine ko (x:=_) (h:=yj (h:=zd (f:=48) rfl Tryz.call48 (h:=AEq.pure' agT (zuh _) (hq:=ze ⟨rfl,rfl⟩)))) (hk:=?_)))|(guard_target =~ dg _ _ _ (⟨_,.makeSlice _ _ _,_,_,_,none⟩ :: _) _ _ _;(refine ko (x:=_) (h:=yj (h:=zfc (x2:=AV.sl false false (List.map zf z5)) rfl sT eoT sT sT lmT lmT lmT lmT bT sT sT (by rfl) sT (ze ⟨rfl,rfl⟩))) (hk:=?_))))|(refine hK _ _ ?_;clear hK K)))
  ·have hm2 : m = 0 := by omega
   subst hm2
   have h5 : (0 : Int) % 10 = 0:=rfl
   rcases hc with ⟨_,e⟩|⟨h6,e⟩|⟨h6,e⟩|⟨h6,e⟩|⟨h6,e⟩|⟨h6,e⟩|⟨h6,e⟩|⟨h6,e⟩|⟨h6,e⟩|⟨h6,e⟩
   all_goals (try exact absurd h6 (by decide))
   rw [e]
   refine zc Tryz.func16 rfl Tryz.ntmps16 (by simp) (fun hsc=>?_);simp only [Lf.enter,Nat.reduceAdd];clear hsc
   have hU:=And.intro @h5 (@hI)
   repeat' (first|(refine goR ?_)|(refine za (fun K hK=>?_))|((refine zb (fun hcd=>?_) (fun hcd=>?_))<;>(try simp only [hcP] at hcd)<;>(try exact cdT))|(guard_target =~ SOp _ _ ⟨_,.makeFunc _ _ _,_,_,_,none⟩ _ _ _;refine jB rfl sT ?_)|(guard_target =~ SOp _ _ ⟨_,.call ⟨.builtin .max,_,_⟩,_,_,_,none⟩ _ _ _;refine zaX rfl sT sT lmT ?_)|(refine zd (f:=44) rfl Tryz.call44 (h:=AEq.sub' [_] (hc:=zoA _ _ _ _ (by assumption)) (hq:=?_)))|(refine zd (f:=43) rfl Tryz.call43 (h:=AEq.pure' agT (kQ _ (by assumption)) (hq:=?_)))|((refine zh [] (by rw [Tryz.results16,Lf.zy]) (zj ?_) ?_)<;>(try (first|exact zi|exact stT)))|(refine hK _ _ ?_;clear hK K))
 ·have hI : decide (0 ≤ jm sd l 0) = false := decide_eq_false hi
  have hT : turnF sd l c = opF sd:=if_neg hi
  rw [hT]
  refine zc Tryz.func16 rfl Tryz.ntmps16 (by simp) (fun hsc=>?_);simp only [Lf.enter,Nat.reduceAdd];clear hsc
  have hU:=@hI
  repeat' (first|(refine goR ?_)|(refine za (fun K hK=>?_))|((refine zb (fun hcd=>?_) (fun hcd=>?_))<;>(try simp only [hcP] at hcd)<;>(try exact cdT))|(refine zd (f:=10) rfl Tryz.call10 (h:=AEq.pure' agT (zuf _) (hq:=?_)))|(guard_target =~ SOp _ _ ⟨_,.makeFunc _ _ _,_,_,_,none⟩ _ _ _;refine jB rfl sT ?_)|(refine zd (f:=44) rfl Tryz.call44 (h:=AEq.sub' [_] (hc:=zoA _ _ _ _ (by assumption)) (hq:=?_)))|(refine zd (f:=43) rfl Tryz.call43 (h:=AEq.pure' agT (kQ _ (by assumption)) (hq:=?_)))|((refine zh [] (by rw [Tryz.results16,Lf.zy]) (zj ?_) ?_)<;>(try (first|exact zi|exact stT)))|(refine hK _ _ ?_;clear hK K))
def zcH (sd : Int) (x : Fr) : Prop:=x.w = sd ∧ (x.t = -1 ∨ okQ (rqF x))
theorem zsf {w t g s p : Int} {d : List UInt8} {e : List (Int × Int)} {wt pa : Int} {al : Bool} {pr la co sp : Int} (h : kJ w t g s p d e wt pa al pr la co sp) : okQ ⟨w,t,g,s,false,wrB t g p d e wt pa al pr la co sp⟩:=by
 have h2:=zn3 (w:=w) (f:=⟨t,g,s,p,d,e,wt,pa,al,pr,la,co,sp⟩) h
 unfold zt8 at h2
 split at h2
 ·assumption
 ·cases h2
theorem v6 {w t g s p : Int} {d : List UInt8} {e : List (Int × Int)} {wt pa : Int} {al : Bool} {pr la co sp : Int} (h : kJ w t g s p d e wt pa al pr la co sp) : ∀ x ∈ oneQ w t g s (wrB t g p d e wt pa al pr la co sp),zcH w x:=by
 intro x hx
 obtain rfl:=List.mem_singleton.1 hx
 exact ⟨rfl,.inr (zsf h)⟩
theorem zk0 {w t g s : Int} {d : List UInt8} {e : List (Int × Int)} {la co sp : Int} : ∀ x ∈ emQ w t g s d e la co sp,zcH w x:=by
 by_cases h : kJ w t g s (-1) d e 0 0 false 0 la co sp
 ·rw [zou h];exact v6 h
 ·rw [zov h];intro x hx;simp at hx
theorem zcI {w : Int} : ∀ x ∈ ([] : List Fr),zcH w x:=by intro x hx;simp at hx
theorem zgh {w n : Int} (hw : w = 0 ∨ w = 1) : ∀ x ∈ reactR w 1 n,zcH w x:=by
 have hc : 0 ≤ max n 0 / 5 % 14 ∧ max n 0 / 5 % 14 ≤ 13:=by omega
 have a1:=v6 (zoo hw hc)
 have a2:=v6 (zr6 hw (s:=1) (by decide) (by decide) hc)
 have a3:=v6 (zr7 hw)
 have a4:=v6 (zr8 hw)
 rcases zbf (w:=w) (st:=1) (n:=n) (m:=max n 0) (by omega) rfl with ⟨_,e⟩|⟨_,e⟩|⟨_,e⟩|⟨_,e⟩|⟨_,e⟩<;>rw [e]
 ·exact a1
 ·exact a2
 ·intro x hx
  rcases List.mem_append.1 hx with h|h
  ·exact a3 x h
  ·exact a1 x h
 ·exact a4
 ·exact zcI
theorem zk1 {sd : Int} (l : List Fr) : ∀ x ∈ dutF sd (seeF sd l),zcH sd x:=by
 intro x hx
 unfold dutF dsF at hx
 rcases List.mem_append.1 hx with h|h
 ·rw [List.eq_of_mem_replicate h]
  exact ⟨rfl,.inr (znG sd)⟩
 ·obtain ⟨b, hb, rfl⟩ := List.mem_map.1 h
  exact ⟨rfl,.inr (znH (zlN sd l b hb))⟩
theorem zoB : km ⟨0,4,0,0,false⟩ ∧ yX 4 0 0 [] = (0,0):=⟨by decide,by decide⟩
theorem zlT (sd : Int) : okQ ⟨sd,4,0,0,false,[]⟩:=zoB
theorem zoC {sd : Int} (hs : sd = 0 ∨ sd = 1) : ∀ x ∈ opF sd,zcH sd x:=by
 rcases hs with rfl|rfl
 ·rw [zrK]
  intro x hx
  unfold zue at hx
  simp only [List.mem_cons,List.not_mem_nil,or_false] at hx
  rcases hx with rfl|rfl
  ·exact ⟨rfl,.inl rfl⟩
  ·exact ⟨rfl,.inr (zlT 0)⟩
 ·rw [zrL]
  intro x hx
  obtain rfl:=List.mem_singleton.1 hx
  exact ⟨rfl,.inr (zlT 1)⟩
theorem zfB {sd t : Int} {fl : List Fl} (hs : sd = 0 ∨ sd = 1) : ∀ x ∈ msgF sd t fl,zcH sd x:=by
 unfold msgF
 split
 ·rename_i h
  exact v6 (ziq h (by decide) hs)
 ·exact zcI
theorem ziL {sd c : Int} {l : List Fr} (hs : sd = 0 ∨ sd = 1) : ∀ x ∈ turnF sd l c,zcH sd x:=by
 unfold turnF
 split
 ·rcases j6 sd l (k := max c 0 % 10) (by omega) (by omega) with ⟨_, e⟩ | ⟨_, e⟩ | ⟨_, e⟩ | ⟨_, e⟩ | ⟨_, e⟩ | ⟨_, e⟩ | ⟨_, e⟩ | ⟨_, e⟩ | ⟨_, e⟩ | ⟨_, e⟩ <;> rw [e]
  ·exact zcI
  ·exact zk1 l
  ·unfold zse
   split
   ·rename_i h;subst h;exact zfB (.inl rfl)
   ·have h1 : sd = 1 := by omega
    subst h1
    exact zfB (.inr rfl)
  all_goals exact zk0
 ·exact zoC hs
theorem zoD {w t g s : Int} {d : List UInt8} {e : List (Int × Int)} {la co sp : Int} : (emQ w t g s d e la co sp).length ≤ 1:=by
 by_cases h : kJ w t g s (-1) d e 0 0 false 0 la co sp
 ·rw [zou h];exact Nat.le_refl _
 ·rw [zov h];exact Nat.zero_le _
theorem zfC {sd t : Int} {fl : List Fl} : (msgF sd t fl).length ≤ 1:=by
 unfold msgF
 split
 ·exact Nat.le_refl _
 ·exact Nat.zero_le _
theorem zk2 {sd c : Int} {l : List Fr} : (turnF sd l c).length ≤ 2 * l.length + 2:=by
 unfold turnF
 split
 ·rcases j6 sd l (k := max c 0 % 10) (by omega) (by omega) with ⟨_, e⟩ | ⟨_, e⟩ | ⟨_, e⟩ | ⟨_, e⟩ | ⟨_, e⟩ | ⟨_, e⟩ | ⟨_, e⟩ | ⟨_, e⟩ | ⟨_, e⟩ | ⟨_, e⟩ <;> rw [e]
  ·exact Nat.zero_le _
  ·have := zcG sd l
   rw [zkV];omega
  ·unfold zse
   split
   ·exact Nat.le_trans zfC (by omega)
   ·exact Nat.le_trans zfC (by omega)
  all_goals exact Nat.le_trans zoD (by omega)
 ·unfold opF
  split
  ·show 2 ≤ _;omega
  ·split
   ·show 1 ≤ _;omega
   ·exact Nat.zero_le _
def lrG : List Fr → Bool
 | []=>false
 | c :: l=>if 300 < (c.b.length : Int) then true else lrG l
def zoE (l : List Fr) : Bool:=if 60 < l.length then true else lrG l
theorem zsg {l : List Fr} {i : Nat} {c : Fr} (h : l[i]? = some c) : lrG (l.drop i) = if 300 < (c.b.length : Int) then true else lrG (l.drop (i + 1)):=by
 rw [zfs h,lrG]
theorem zlU : ∀ {l : List Fr}, lrG l = false → ∀ x ∈ l, x.b.length ≤ 300
 | [],_,x,hx=>by simp at hx
 | c :: l,hl,x,hx=>by
  unfold lrG at hl
  split at hl
  ·exact absurd hl (by simp)
  ·rcases List.mem_cons.1 hx with rfl | hx
   ·omega
   ·exact zlU hl x hx
theorem zoF {l : List Fr} (h : zoE l = false) : l.length ≤ 60 ∧ ∀ x ∈ l,x.b.length ≤ 300:=by
 unfold zoE at h
 split at h
 ·exact absurd h (by simp)
 ·exact ⟨by omega,zlU h⟩
theorem zeD (f : Bool) (l : List Fr) (hl : l.length ≤ 9223372036854775807) (hx : ∀ x ∈ l,x.b.length ≤ 9223372036854775807) : AEq Tryz.prog 14 [.sl f false (l.map frA)] [] (bl (zoE l)) []:=by
 by_cases h2 : 60 < l.length
 ·have hL : zoE l = true := if_pos h2
  rw [hL]
  refine zc Tryz.func14 rfl Tryz.ntmps14 (by simp) (fun hsc=>?_);simp only [Lf.enter,Nat.reduceAdd];clear hsc
  have hU:=True.intro
  repeat' (first|(refine goR ?_)|(refine za (fun K hK=>?_))|((refine zb (fun hcd=>?_) (fun hcd=>?_))<;>(try simp only [hcP] at hcd)<;>(try exact cdT))|((refine zh [] (by rw [Tryz.results14,Lf.zy]) (zj ?_) ?_)<;>(try (first|exact zi|exact stT)))|(refine hK _ _ ?_;clear hK K))
 ·have hL : zoE l = lrG l := if_neg h2
  rw [hL]
  refine zc Tryz.func14 rfl Tryz.ntmps14 (by simp) (fun hsc=>?_);simp only [Lf.enter,Nat.reduceAdd];clear hsc
  have hU:=True.intro
  repeat' (first|(refine goR ?_)|(refine za (fun K hK=>?_))|((refine zb (fun hcd=>?_) (fun hcd=>?_))<;>(try simp only [hcP] at hcd)<;>(try exact cdT))|(refine hK _ _ ?_;clear hK K))
  refine zz [2,3,7,8,9,10,11,12,13,14,15,16,17,18,19] (fun q : Nat=>[(3,i64 q)]) (fun _=>[]) (fun q=>q ≤ l.length ∧ lrG l = lrG (l.drop q)) (fun q=>l.length - q) 0 ⟨Nat.zero_le _,rfl⟩ ?_ rfl ?_
  ·(refine ⟨⟨_,sT,?_⟩,trivial⟩<;>(try (first|exact zi)))
  ·rintro i ⟨hi, hk⟩
   simp only [vf,List.map_cons,List.map_nil,List.cons_append,List.nil_append]
   by_cases hlt : i < l.length
   ·obtain ⟨c, hc⟩ := jM hlt
    have hcb:=hx c (List.mem_of_getElem? hc)
    have hs:=zsg hc
    by_cases hbig : 300 < (c.b.length : Int)
    ·have hT : lrG l = true := by rw [hk, hs, if_pos hbig]
     repeat' (first|(refine goR ?_)|(refine za (fun K hK=>?_))|((refine zb (fun hcd=>?_) (fun hcd=>?_))<;>(try simp only [hcP] at hcd)<;>(try exact cdT))|((refine zh [] (by rw [Tryz.results14,Lf.zy]) (zj ?_) ?_)<;>(try (first|exact zi|exact stT)))|(refine hK _ _ ?_;clear hK K))
     all_goals exact zt hT.symm
    ·have hT : lrG l = lrG (l.drop (i + 1)) := by rw [hk, hs, if_neg hbig]
     repeat' (first|(refine goR ?_)|(refine za (fun K hK=>?_))|((refine zb (fun hcd=>?_) (fun hcd=>?_))<;>(try simp only [hcP] at hcd)<;>(try exact cdT))|(refine hK _ _ ?_;clear hK K))
     refine ⟨i + 1,⟨by omega,hT⟩,by omega,?_,arT,srT⟩
     (refine ⟨⟨_,sT,?_⟩,trivial⟩<;>(try (first|exact zi)))
   ·have hT : lrG l = false := by rw [hk, List.drop_eq_nil_of_le (by omega)]; rfl
    repeat' (first|(refine goR ?_)|(refine za (fun K hK=>?_))|((refine zb (fun hcd=>?_) (fun hcd=>?_))<;>(try simp only [hcP] at hcd)<;>(try exact cdT))|((refine zh [] (by rw [Tryz.results14,Lf.zy]) (zj ?_) ?_)<;>(try (first|exact zi|exact stT)))|(refine hK _ _ ?_;clear hK K)|(apply_assumption (exfalso:=false) (symm:=false)))
    all_goals exact zt hT.symm
theorem zk3 (w t g s : Int) (r f : Bool) (b : List UInt8) (hok : okQ ⟨w,t,g,s,r,b⟩) : AEq Tryz.prog 18 [.ag [i64 w,i64 t,i64 g,i64 s,bl r,.sl f false (b.map zf)]] [] (.tu [.ag (fmA (ym t g s b).1),.ag [i64 0,i64 0],i64 0]) []:=by
 obtain ⟨h1,h2⟩:=hok
 dsimp only at h1 h2
 have hb : b.length ≤ 1000000000:=by
  obtain ⟨_,h,_⟩:=h1
  dsimp only at h
  omega
 have h:=zW w t g s r f b hb h1
 rw [(jL h2).1] at h
 exact h
attribute [local irreducible] zoE turnF reactR
theorem ziM (sd : Int) (f : Bool) (l : List Fr) (c : Int) (hc1 : c ≤ 9223372036854775807) (hl : l.length ≤ 9223372036854775807) (hx : ∀ x ∈ l,x.b.length ≤ 9223372036854775807) (hxs : ∀ x ∈ l,-9223372036854775808 ≤ x.s ∧ x.s ≤ 9223372036854775807) : AEq Tryz.prog 4 [i64 sd,.sl f false (l.map frA),i64 c] [] (bl true) []:=by
  cases hL : zoE l with
  | true=>
    refine zc Tryz.func4 rfl Tryz.ntmps4 (by simp) (fun hsc=>?_);simp only [Lf.enter,Nat.reduceAdd];clear hsc
    have hU:=@hL
    repeat' (first|(refine goR ?_)|(refine za (fun K hK=>?_))|((refine zb (fun hcd=>?_) (fun hcd=>?_))<;>(try simp only [hcP] at hcd)<;>(try exact cdT))|(refine zd (f:=15) rfl Tryz.call15 (h:=AEq.pure' agT ziE (hq:=?_)))|(refine zd (f:=14) rfl Tryz.call14 (h:=AEq.pure' agT (zeD _ _ (by assumption) (by assumption)) (hq:=?_)))|((refine zh [] (by rw [Tryz.results4,Lf.zy]) (zj ?_) ?_)<;>(try (first|exact zi|exact stT)))|(refine hK _ _ ?_;clear hK K))
  | false=>
    obtain ⟨hl2,hx2⟩:=zoF hL
    by_cases hs : sd = 0 ∨ sd = 1
    · have hl3 : l.length ≤ 100 := by omega
      have hx3 : ∀ x ∈ l,x.b.length ≤ 100000:=fun x hx=>Nat.le_trans (hx2 x hx) (by decide)
      have ht:=ziL (c:=c) (l:=l) hs
      have hr:=zgh (n:=c) hs
      have hlt1:=zk2 (sd:=sd) (c:=c) (l:=l)
      have hlr:=ziD sd 1 c
      have hT : ∀ x ∈ turnF sd l c ++ reactR sd 1 c,zcH sd x:=by
        intro x hx
        rcases List.mem_append.1 hx with h|h
        · exact ht x h
        · exact hr x h
      have hlen : (turnF sd l c ++ reactR sd 1 c).length ≤ 300:=by rw [List.length_append];omega
      obtain ⟨A,hA⟩ : ∃ A,turnF sd l c ++ reactR sd 1 c = A:=⟨_,rfl⟩
      rw [hA] at hT hlen
      have hfj : List.map frA (turnF sd l c) ++ List.map frA (reactR sd 1 c) = List.map frA A:=by rw [← hA];exact List.map_append.symm
      have hnl : ([] : List (List AV)) ++ List.map frA (turnF sd l c) = List.map frA (turnF sd l c):=rfl
      refine zc Tryz.func4 rfl Tryz.ntmps4 (by simp) (fun hsc=>?_);simp only [Lf.enter,Nat.reduceAdd];clear hsc
      have hU:=And.intro @hL ( And.intro @hfj (@hnl))
      repeat' (first|(refine goS ?_)|(refine za (fun K hK=>?_))|((refine zb (fun hcd=>?_) (fun hcd=>?_))<;>(try simp only [hcP] at hcd)<;>(try exact cdT))|(refine zd (f:=16) rfl Tryz.call16 (h:=AEq.pure' agT (zuk _ _ _ _ _ (by assumption) (by assumption) (by assumption) (by assumption) (by assumption)) (hq:=?_)))|(refine zd (f:=17) rfl Tryz.call17 (h:=AEq.pure' agT (zlR _ _ _ (by assumption)) (hq:=?_)))|(refine zd (f:=14) rfl Tryz.call14 (h:=AEq.pure' agT (zeD _ _ (by assumption) (by assumption)) (hq:=?_)))|(refine hK _ _ ?_;clear hK K))
      refine zU [6,9,10,11,12,36,37,38,39,40,41,42,43,44,45,46,47,48,49,50,51,52,53,54,55,56,57,58,59,60] [0] (fun i : Nat=>[(36,i64 i)]) (fun _=>[.row 1 45 6 (A.map frA)]) (fun i=>i ≤ A.length) (fun i=>A.length - i) 0 (fun _=>rfl) rfl rfl (Nat.zero_le _) ?_ rfl (by intro s q x h;simp only [List.mem_cons,Prod.mk.injEq,List.not_mem_nil,or_false] at h;obtain ⟨rfl,_⟩:=h;decide) ?_
      · (refine ⟨⟨_,sT,?_⟩,trivial⟩<;>(try (first|exact zi)))
      · intro i hi
        simp only [vf,List.map_cons,List.map_nil,List.cons_append,List.nil_append]
        by_cases hlt : i < A.length
        · obtain ⟨x, hc⟩ := jM hlt
          obtain ⟨hw,hq⟩:=hT x (List.mem_of_getElem? hc)
          have hm : (List.map frA A)[i]? = some [i64 x.w,i64 x.t,i64 x.g,i64 x.s,bl x.r,.sl x.f false (x.b.map zf)]:=by rw [List.getElem?_map,hc];rfl
          by_cases ht : x.t = -1
          · have hU := @hm
            repeat' (first|(refine goR ?_)|(refine za (fun K hK=>?_))|((refine zb (fun hcd=>?_) (fun hcd=>?_))<;>(try simp only [hcP] at hcd)<;>(try exact cdT))|(refine hK _ _ ?_;clear hK K)|(apply_assumption (exfalso:=false) (symm:=false)))
            refine ⟨i + 1,by omega,by omega,?_,arT,srT⟩
            (refine ⟨⟨_,sT,?_⟩,trivial⟩<;>(try (first|exact zi)))
          · have hok : okQ ⟨x.w,x.t,x.g,x.s,x.r,x.b⟩:=by
              rcases hq with h|h
              · exact absurd h ht
              · exact h
            have hU:=@hm
            repeat' (first|(refine goR ?_)|(refine za (fun K hK=>?_))|((refine zb (fun hcd=>?_) (fun hcd=>?_))<;>(try simp only [hcP] at hcd)<;>(try exact cdT))|(guard_target =~ SOp _ _ ⟨_,.binOp _ _ _ _ _,_,_,_,none⟩ _ _ _;refine zV (ne:=true) rfl (by first|exact jQ|exact jn|exact jR|exact kR|fail) (hc:=rfl) (hK:=?_))|(guard_target =~ SOp _ _ ⟨_,.binOp _ _ _ _ _,_,_,_,some _⟩ _ _ _;refine zV (ne:=true) rfl (by first|exact jQ|exact jn|exact jR|exact kR|fail) (hc:=rfl) (hK:=?_))|(refine zd (f:=18) rfl Tryz.call18 (h:=AEq.pure' agT (zk3 _ _ _ _ _ _ _ (by assumption)) (hq:=?_)))|(refine hK _ _ ?_;clear hK K)|(rw [if_pos rfl]))
            refine ⟨i + 1,by omega,by omega,?_,arT,srT⟩
            (refine ⟨⟨_,sT,?_⟩,trivial⟩<;>(try (first|exact zi)))
        · have hU := True.intro
          repeat' (first|(refine goR ?_)|(refine za (fun K hK=>?_))|((refine zb (fun hcd=>?_) (fun hcd=>?_))<;>(try simp only [hcP] at hcd)<;>(try exact cdT))|(refine zd (f:=15) rfl Tryz.call15 (h:=AEq.pure' agT ziE (hq:=?_)))|((refine zh [] (by rw [Tryz.results4,Lf.zy]) (zj ?_) ?_)<;>(try (first|exact zi|exact stT)))|(refine hK _ _ ?_;clear hK K)|(apply_assumption (exfalso:=false) (symm:=false)))
    · have hs0 : ¬ sd = 0 := fun h => hs (.inl h)
      have hs1 : ¬ sd = 1:=fun h=>hs (.inr h)
      refine zc Tryz.func4 rfl Tryz.ntmps4 (by simp) (fun hsc=>?_);simp only [Lf.enter,Nat.reduceAdd];clear hsc
      have hU:=@hL
      repeat' (first|(refine goR ?_)|(refine za (fun K hK=>?_))|((refine zb (fun hcd=>?_) (fun hcd=>?_))<;>(try simp only [hcP] at hcd)<;>(try exact cdT))|(refine zd (f:=15) rfl Tryz.call15 (h:=AEq.pure' agT ziE (hq:=?_)))|(refine zd (f:=14) rfl Tryz.call14 (h:=AEq.pure' agT (zeD _ _ (by assumption) (by assumption)) (hq:=?_)))|((refine zh [] (by rw [Tryz.results4,Lf.zy]) (zj ?_) ?_)<;>(try (first|exact zi|exact stT)))|(refine hK _ _ ?_;clear hK K))
end Go.Proofs.YtdalcgfnlbofdaaGreatDoor
namespace Go.Proofs.YtdalcgfnlbofdaaGreatDoor
end Go.Proofs.YtdalcgfnlbofdaaGreatDoor
