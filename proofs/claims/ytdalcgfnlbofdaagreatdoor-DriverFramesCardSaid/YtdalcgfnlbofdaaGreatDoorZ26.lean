import Derived.Test.YtdalcgfnlbofdaaGreatDoorTg
import Derived.Test.YtdalcgfnlbofdaaGreatDoorZ25
import Derived.Test.YtdalcgfnlbofdaaGreatDoorLc
set_option linter.unusedVariables false
set_option linter.unusedSimpArgs false
namespace Go.Proofs.YtdalcgfnlbofdaaGreatDoor
open Go Go.Lf Go.Proofs
attribute [local irreducible] Lf.rg Lf.ro Lf.PWp Lf.SOp Lf.ACall Lf.Scoped Lf.dg Lf.dw
set_option maxRecDepth 20000
set_option maxHeartbeats 4000000
theorem zsd {n : Int} (h : loK n = true) : 0 ≤ n ∧ n < 2147483648:=of_decide_eq_true h
theorem zse {n : Int} (b : Bool) (h : loK n = true) : loB n b = beB (hdS n b) 4:=if_pos (zsd h)
theorem jh (n : Int) (u : Bool) (hn : loK n = true) : AEq Tryz.prog 135 [i64 n,bl u] [] (.tu [.sl false false ((loB n u).map zf),bl true]) []:=by
 obtain ⟨h0,h1⟩:=zsd hn
 rw [zse u hn]
 have hp0 : yl n 4 = 0:=vb n 4 (by decide) (by decide) h0 (by rw [ziw];omega)
 have hp1 : yl (n + 2147483648) 4 = 0:=vb _ 4 (by decide) (by decide) (by omega) (by rw [ziw];omega)
 have hq0 : zay [] n 4 = beB n 4:=ziv [] n 4 (by decide) (by decide) h0 (by rw [ziw];omega)
 have hq1 : zay [] (n + 2147483648) 4 = beB (n + 2147483648) 4:=ziv [] _ 4 (by decide) (by decide) (by omega) (by rw [ziw];omega)
 cases u
 all_goals simp only [zkW,zkX]
 all_goals (refine zc Tryz.func135 rfl Tryz.ntmps135 (by simp) (fun hsc=>?_);simp only [Lf.enter,Nat.reduceAdd];clear hsc)
 all_goals (have hU:=And.intro @hp0 ( And.intro @hp1 ( And.intro @hq0 (@hq1))))
 all_goals (repeat' (first|(refine goR ?_)|(refine za (fun K hK=>?_))|((refine zb (fun hcd=>?_) (fun hcd=>?_))<;>(try simp only [hcP] at hcd)<;>(try exact cdT))|(refine zd (f:=134) rfl Tryz.call134 (h:=AEq.pure' agT (vr _ _ _ _ _ (by simp only [List.length_map,List.length_append,List.length_take,List.length_drop,List.length_cons,List.length_nil];omega)) (hq:=?_)))|((refine ze [] (by rw [Tryz.results135,Lf.yb]) (zu ?_ ?_) ?_)<;>(try (first|exact zh|exact stT)))|(refine hK _ _ ?_;clear hK K)))
def rbW (t g p : Int) (e : List (Int × Int)) (wt pa pr la co sp : Int) : Bool:=
 (vv t g 8 && !okN p 1) || ((decide (t = 2) || vv t g 32) && (!loK pa || !okN wt 1)) || !okN co 4 || !loK la || !loK sp || !loK pr || (decide (t = 4) && spE e != 0)
theorem zk8 {n : Int} (h : okN n 1 = true) : 0 ≤ n ∧ n ≤ 255:=jD (by decide) (by decide) (of_decide_eq_true h)
theorem ziW {n k : Int} (h : okN n k = true) : yl n k = 0:=of_decide_eq_true h
theorem zew {n : Int} (h0 : 0 ≤ n) (h1 : n ≤ 255) (X : List UInt8) : List.map zf X ++ [[AV.lit (.int .u8 n)]] = List.map zf (X ++ beB n 1):=by
 rw [List.map_append,zrV n h0 h1]
theorem zk9 {n : Int} (h0 : 0 ≤ n) (h1 : n ≤ 255) : [[AV.lit (.int .u8 n)]] = List.map zf (beB n 1):=(zrV n h0 h1).symm
theorem ziX {t g : Int} (h : vv t g 8 = true) : t = 0 ∨ t = 1 ∨ t = 5:=by
 unfold vv zB kQ at h;simp at h;exact h.2.1
theorem zla {t g : Int} (h : vv t g 32 = true) : t = 1:=by
 unfold vv zB kQ at h;simp at h;exact h.2.1
theorem zoN (t g st p : Int) (fd : Bool) (d : List UInt8) (fs : Bool) (e : List (Int × Int)) (wt pa : Int) (al : Bool) (pr la co sp : Int) (hd : d.length ≤ 1000000) (hl : e.length ≤ 100000) (hg1 : g ≤ 9223372036854775807) (hw : rbW t g p e wt pa pr la co sp = false) : AEq Tryz.prog 85 [.ag [i64 t,i64 g,i64 st,i64 p,.sl fd false (d.map zf),.sl fs false (e.map zV),i64 wt,i64 pa,bl al,i64 pr,i64 la,i64 co,i64 sp]] [] (.tu [.sl false false ((wrB t g p d e wt pa al pr la co sp).map zf),bl true]) []:=by
 unfold rbW at hw
 simp only [Bool.or_eq_false_iff] at hw
 obtain ⟨⟨⟨⟨⟨⟨hpad,hwg⟩,hco⟩,hla⟩,hsp⟩,hpr⟩,hst⟩:=hw
 have hco : okN co 4 = true:=by simpa using hco
 have hla : loK la = true:=by simpa using hla
 have hsp : loK sp = true:=by simpa using hsp
 have hpr : loK pr = true:=by simpa using hpr
 have hcp:=ziW hco
 have hcl : zay [] co 4 = beB co 4:=zbb [] co 4 hcp
 have l1:=zW pa al
 have l2:=zW la false
 have l3:=zW sp false
 have l4:=zW pr false
 have l5:=zaB p
 have l6:=zaB wt
 have l7 : (beB co 4).length = 4:=zM co 4
 have l8:=zev e
 have hP : (vv t g 8 = true ∧ okN p 1 = true ∧ (t = 0 ∨ t = 1 ∨ t = 5)) ∨ vv t g 8 = false:=by
  cases h : vv t g 8 with
  | false=>exact .inr rfl
  | true=>rw [h] at hpad;exact .inl ⟨rfl,by simpa using hpad,ziX h⟩
 have hT : (t = 1 ∧ vv 1 g 32 = true ∧ loK pa = true ∧ okN wt 1 = true) ∨ (t = 1 ∧ vv 1 g 32 = false) ∨ (t = 2 ∧ vv 2 g 32 = false ∧ loK pa = true ∧ okN wt 1 = true) ∨ (t = 3 ∧ vv 3 g 32 = false) ∨ (t = 4 ∧ vv 4 g 32 = false ∧ spE e = 0) ∨ (t = 5 ∧ vv 5 g 32 = false) ∨ (t = 7 ∧ vv 7 g 32 = false) ∨ (t = 8 ∧ vv 8 g 32 = false) ∨ (¬ t = 1 ∧ ¬ t = 2 ∧ ¬ t = 3 ∧ ¬ t = 4 ∧ ¬ t = 5 ∧ ¬ t = 7 ∧ ¬ t = 8 ∧ vv t g 32 = false):=by
  have hn32 : ∀ k : Int,¬ k = 1 → vv k g 32 = false:=by
   intro k hk
   cases h : vv k g 32 with
   | false=>rfl
   | true=>exact absurd (zla h) hk
  by_cases h1 : t = 1
  ·subst h1
   cases h : vv 1 g 32 with
   | false=>exact .inr (.inl ⟨rfl,rfl⟩)
   | true=>rw [h] at hwg;exact .inl ⟨rfl,rfl,by simpa using hwg⟩
  by_cases h2 : t = 2
  ·subst h2;exact .inr (.inr (.inl ⟨rfl,hn32 2 (by decide),by simpa using hwg⟩))
  by_cases h3 : t = 3
  ·exact .inr (.inr (.inr (.inl ⟨h3,hn32 3 (by decide)⟩)))
  by_cases h4 : t = 4
  ·subst h4;exact .inr (.inr (.inr (.inr (.inl ⟨rfl,hn32 4 (by decide),by simpa using hst⟩))))
  by_cases h5 : t = 5
  ·exact .inr (.inr (.inr (.inr (.inr (.inl ⟨h5,hn32 5 (by decide)⟩)))))
  by_cases h7 : t = 7
  ·exact .inr (.inr (.inr (.inr (.inr (.inr (.inl ⟨h7,hn32 7 (by decide)⟩))))))
  by_cases h8 : t = 8
  ·exact .inr (.inr (.inr (.inr (.inr (.inr (.inr (.inl ⟨h8,hn32 8 (by decide)⟩)))))))
  exact .inr (.inr (.inr (.inr (.inr (.inr (.inr (.inr ⟨h1,h2,h3,h4,h5,h7,h8,hn32 t h1⟩)))))))
 have hdm : ∀ X d : List UInt8,List.map zf X ++ List.map zf d = List.map zf (X ++ d):=fun X d=>List.map_append.symm
 rcases hP with ⟨h8,hp,ht8⟩|h8
 ·obtain ⟨hp0, hp1⟩ := zk8 hp
  have hq2:=zk9 hp0 hp1
  have hzm : ∀ X : List UInt8,List.map zf X ++ List.replicate p.toNat [AV.lit (.int .u8 0)] = List.map zf (X ++ List.replicate p.toNat 0):=fun X=>ziU X p.toNat
  rcases hT with ⟨rfl,h32,hpa,hwt⟩|⟨rfl,h32⟩|⟨rfl,h32,hpa,hwt⟩|⟨rfl,h32⟩|⟨rfl,h32,hs4⟩|⟨rfl,h32⟩|⟨rfl,h32⟩|⟨rfl,h32⟩|⟨n1,n2,n3,n4,n5,n7,n8,h32⟩
  ·obtain ⟨hw0, hw1⟩ := zk8 hwt
   have hwp:=ziW hwt
   have hq1:=zew hw0 hw1
   refine zc Tryz.func85 rfl Tryz.ntmps85 (by simp) (fun hsc=>?_);simp only [Lf.enter,Nat.reduceAdd];clear hsc
   have hU:=And.intro @h8 ( And.intro @h32 ( And.intro @hq1 ( And.intro @hq2 ( And.intro @hdm ( And.intro @hzm ( And.intro @hcp (@hcl)))))))
   repeat' (first|(refine goR ?_)|(guard_target =~ PWp _ _ _ _ _ _ _;(guard_target =~ PWp _ _ _ (Code.seq (Code.region 2 _ _) _) _ _ _);refine yp 4 5 1 (by decide) (by rfl) rfl rfl ?_)|(guard_target =~ PWp _ _ _ _ _ _ _;refine zn (id:=10) [0,1,2,3,4,5,6,7,8] [2,7] mixed (by kernel_rfl) (by kernel_rfl) ?_)|(refine za (fun K hK=>?_))|((refine zb (fun hcd=>?_) (fun hcd=>?_))<;>(try simp only [hcP] at hcd)<;>(try exact cdT))|(guard_target =~ SOp _ _ ⟨_,.call ⟨.builtin .append,_,_⟩,_,_,_,none⟩ _ _ _;refine yv (c:=p) rfl sT (by exact Tryz.underlying3) eoT sT sT sT lmT (by rfl) lmT lmT sT sT sT ?_)|(guard_target =~ SOp _ _ ⟨_,.call ⟨.builtin .append,_,_⟩,_,_,_,none⟩ _ _ _;refine zC rfl (he:=eoT) (hK:=?_))|(refine zd (f:=135) rfl Tryz.call135 (h:=AEq.pure' agT (jh _ _ lnT) (hq:=?_)))|(refine zd (f:=107) rfl Tryz.call107 (h:=AEq.pure' agT (jg _ _ _ lnT lnT) (hq:=?_)))|(refine zd (f:=107) rfl Tryz.call107 (h:=AEq.pure' agT (kM _ _ _ lnT lnT) (hq:=?_)))|(guard_target =~ SOp _ _ ⟨_,.buildSlice _ _ _,_,_,_,none⟩ _ _ _;refine zF rfl (he:=eoT) (hK:=?_))|(refine zd (f:=134) rfl Tryz.call134 (h:=AEq.pure' agT (vr _ _ _ _ _ lnT) (hq:=?_)))|((refine ze [] (by rw [Tryz.results85,Lf.yb]) (zu ?_ ?_) ?_)<;>(try (first|exact zh|exact stT)))|(guard_target =~ dw _ _ _ _ _ _ _ _ _ _;first|((first|guard_target =~ dw _ _ _ _ _ (2 :: _) _ _ _ _|guard_target =~ dw _ _ _ _ _ (7 :: _) _ _ _ _);(refine zaq rfl rfl (h:=zQ (h:=zC rfl (he:=eoT) (hK:=zi ⟨rfl,rfl⟩))) (hk:=?_)))|(guard_target =~ dw _ _ _ _ _ (6 :: _) _ _ _ _;(refine vK rfl rfl (h:=(fun τ=>zQ (h:=zF rfl (he:=eoT) (hK:=zi ⟨rfl,rfl⟩)))) (hk:=?_))))|(refine hK _ _ ?_;clear hK K))
   all_goals exact vp (by unfold wrB nuB;simp [h8,h32,eB,wgB,nbB,hwp,List.append_assoc]) id
  ·skip
   refine zc Tryz.func85 rfl Tryz.ntmps85 (by simp) (fun hsc=>?_);simp only [Lf.enter,Nat.reduceAdd];clear hsc
   have hU:=And.intro @h8 ( And.intro @h32 ( And.intro @hq2 ( And.intro @hdm ( And.intro @hzm ( And.intro @hcp (@hcl))))))
   repeat' (first|(refine goR ?_)|(guard_target =~ PWp _ _ _ _ _ _ _;(guard_target =~ PWp _ _ _ (Code.seq (Code.region 2 _ _) _) _ _ _);refine yp 4 5 1 (by decide) (by rfl) rfl rfl ?_)|(refine za (fun K hK=>?_))|((refine zb (fun hcd=>?_) (fun hcd=>?_))<;>(try simp only [hcP] at hcd)<;>(try exact cdT))|(guard_target =~ SOp _ _ ⟨_,.call ⟨.builtin .append,_,_⟩,_,_,_,none⟩ _ _ _;refine yv (c:=p) rfl sT (by exact Tryz.underlying3) eoT sT sT sT lmT (by rfl) lmT lmT sT sT sT ?_)|(guard_target =~ SOp _ _ ⟨_,.call ⟨.builtin .append,_,_⟩,_,_,_,none⟩ _ _ _;refine zC rfl (he:=eoT) (hK:=?_))|(refine zd (f:=135) rfl Tryz.call135 (h:=AEq.pure' agT (jh _ _ lnT) (hq:=?_)))|(refine zd (f:=107) rfl Tryz.call107 (h:=AEq.pure' agT (jg _ _ _ lnT lnT) (hq:=?_)))|(refine zd (f:=107) rfl Tryz.call107 (h:=AEq.pure' agT (kM _ _ _ lnT lnT) (hq:=?_)))|(guard_target =~ SOp _ _ ⟨_,.buildSlice _ _ _,_,_,_,none⟩ _ _ _;refine zF rfl (he:=eoT) (hK:=?_))|(refine zd (f:=134) rfl Tryz.call134 (h:=AEq.pure' agT (vr _ _ _ _ _ lnT) (hq:=?_)))|((refine ze [] (by rw [Tryz.results85,Lf.yb]) (zu ?_ ?_) ?_)<;>(try (first|exact zh|exact stT)))|(refine hK _ _ ?_;clear hK K))
   all_goals exact vp (by unfold wrB nuB;simp [h8,h32,eB,List.append_assoc]) id
  ·exact absurd ht8 (by decide)
  ·exact absurd ht8 (by decide)
  ·exact absurd ht8 (by decide)
  ·skip
   refine zc Tryz.func85 rfl Tryz.ntmps85 (by simp) (fun hsc=>?_);simp only [Lf.enter,Nat.reduceAdd];clear hsc
   have hU:=And.intro @h8 ( And.intro @h32 ( And.intro @hq2 ( And.intro @hdm ( And.intro @hzm ( And.intro @hcp (@hcl))))))
   repeat' (first|(refine goR ?_)|(guard_target =~ PWp _ _ _ _ _ _ _;(guard_target =~ PWp _ _ _ (Code.seq (Code.region 2 _ _) _) _ _ _);refine yp 4 5 1 (by decide) (by rfl) rfl rfl ?_)|(refine za (fun K hK=>?_))|((refine zb (fun hcd=>?_) (fun hcd=>?_))<;>(try simp only [hcP] at hcd)<;>(try exact cdT))|(guard_target =~ SOp _ _ ⟨_,.call ⟨.builtin .append,_,_⟩,_,_,_,none⟩ _ _ _;refine yv (c:=p) rfl sT (by exact Tryz.underlying3) eoT sT sT sT lmT (by rfl) lmT lmT sT sT sT ?_)|(guard_target =~ SOp _ _ ⟨_,.call ⟨.builtin .append,_,_⟩,_,_,_,none⟩ _ _ _;refine zC rfl (he:=eoT) (hK:=?_))|(refine zd (f:=135) rfl Tryz.call135 (h:=AEq.pure' agT (jh _ _ lnT) (hq:=?_)))|(refine zd (f:=107) rfl Tryz.call107 (h:=AEq.pure' agT (jg _ _ _ lnT lnT) (hq:=?_)))|(refine zd (f:=107) rfl Tryz.call107 (h:=AEq.pure' agT (kM _ _ _ lnT lnT) (hq:=?_)))|(guard_target =~ SOp _ _ ⟨_,.buildSlice _ _ _,_,_,_,none⟩ _ _ _;refine zF rfl (he:=eoT) (hK:=?_))|(refine zd (f:=134) rfl Tryz.call134 (h:=AEq.pure' agT (vr _ _ _ _ _ lnT) (hq:=?_)))|((refine ze [] (by rw [Tryz.results85,Lf.yb]) (zu ?_ ?_) ?_)<;>(try (first|exact zh|exact stT)))|(refine hK _ _ ?_;clear hK K))
   all_goals exact vp (by unfold wrB nuB;simp [h8,h32,eB,List.append_assoc]) id
  ·exact absurd ht8 (by decide)
  ·exact absurd ht8 (by decide)
  ·rcases ht8 with rfl | ht8 | ht8
   ·skip
    refine zc Tryz.func85 rfl Tryz.ntmps85 (by simp) (fun hsc=>?_);simp only [Lf.enter,Nat.reduceAdd];clear hsc
    have hU:=And.intro @h8 ( And.intro @h32 ( And.intro @hq2 ( And.intro @hdm ( And.intro @hzm ( And.intro @hcp (@hcl))))))
    repeat' (first|(refine goR ?_)|(guard_target =~ PWp _ _ _ _ _ _ _;(guard_target =~ PWp _ _ _ (Code.seq (Code.region 2 _ _) _) _ _ _);refine yp 4 5 1 (by decide) (by rfl) rfl rfl ?_)|(refine za (fun K hK=>?_))|((refine zb (fun hcd=>?_) (fun hcd=>?_))<;>(try simp only [hcP] at hcd)<;>(try exact cdT))|(guard_target =~ SOp _ _ ⟨_,.call ⟨.builtin .append,_,_⟩,_,_,_,none⟩ _ _ _;refine yv (c:=p) rfl sT (by exact Tryz.underlying3) eoT sT sT sT lmT (by rfl) lmT lmT sT sT sT ?_)|(guard_target =~ SOp _ _ ⟨_,.call ⟨.builtin .append,_,_⟩,_,_,_,none⟩ _ _ _;refine zC rfl (he:=eoT) (hK:=?_))|(refine zd (f:=135) rfl Tryz.call135 (h:=AEq.pure' agT (jh _ _ lnT) (hq:=?_)))|(refine zd (f:=107) rfl Tryz.call107 (h:=AEq.pure' agT (jg _ _ _ lnT lnT) (hq:=?_)))|(refine zd (f:=107) rfl Tryz.call107 (h:=AEq.pure' agT (kM _ _ _ lnT lnT) (hq:=?_)))|(guard_target =~ SOp _ _ ⟨_,.buildSlice _ _ _,_,_,_,none⟩ _ _ _;refine zF rfl (he:=eoT) (hK:=?_))|(refine zd (f:=134) rfl Tryz.call134 (h:=AEq.pure' agT (vr _ _ _ _ _ lnT) (hq:=?_)))|((refine ze [] (by rw [Tryz.results85,Lf.yb]) (zu ?_ ?_) ?_)<;>(try (first|exact zh|exact stT)))|(refine hK _ _ ?_;clear hK K))
    all_goals exact vp (by unfold wrB nuB;simp [h8,h32,eB,List.append_assoc]) id
   ·exact absurd ht8 n1
   ·exact absurd ht8 n5
 ·rcases hT with ⟨rfl, h32, hpa, hwt⟩ | ⟨rfl, h32⟩ | ⟨rfl, h32, hpa, hwt⟩ | ⟨rfl, h32⟩ | ⟨rfl, h32, hs4⟩ | ⟨rfl, h32⟩ | ⟨rfl, h32⟩ | ⟨rfl, h32⟩ | ⟨n1, n2, n3, n4, n5, n7, n8, h32⟩
  ·obtain ⟨hw0, hw1⟩ := zk8 hwt
   have hwp:=ziW hwt
   have hq1:=zew hw0 hw1
   refine zc Tryz.func85 rfl Tryz.ntmps85 (by simp) (fun hsc=>?_);simp only [Lf.enter,Nat.reduceAdd];clear hsc
   have hU:=And.intro @h8 ( And.intro @h32 ( And.intro @hq1 ( And.intro @hdm ( And.intro @hcp (@hcl)))))
   repeat' (first|(refine goR ?_)|(guard_target =~ PWp _ _ _ _ _ _ _;(guard_target =~ PWp _ _ _ (Code.seq (Code.region 2 _ _) _) _ _ _);refine yp 4 5 1 (by decide) (by rfl) rfl rfl ?_)|(guard_target =~ PWp _ _ _ _ _ _ _;refine zn (id:=10) [0,1,2,3,4,5,6,7,8] [2,7] mixed (by kernel_rfl) (by kernel_rfl) ?_)|(refine za (fun K hK=>?_))|((refine zb (fun hcd=>?_) (fun hcd=>?_))<;>(try simp only [hcP] at hcd)<;>(try exact cdT))|(guard_target =~ SOp _ _ ⟨_,.call ⟨.builtin .append,_,_⟩,_,_,_,none⟩ _ _ _;refine zC rfl (he:=eoT) (hK:=?_))|(refine zd (f:=135) rfl Tryz.call135 (h:=AEq.pure' agT (jh _ _ lnT) (hq:=?_)))|(refine zd (f:=107) rfl Tryz.call107 (h:=AEq.pure' agT (jg _ _ _ lnT lnT) (hq:=?_)))|(refine zd (f:=107) rfl Tryz.call107 (h:=AEq.pure' agT (kM _ _ _ lnT lnT) (hq:=?_)))|(refine zd (f:=134) rfl Tryz.call134 (h:=AEq.pure' agT (vr _ _ _ _ _ lnT) (hq:=?_)))|((refine ze [] (by rw [Tryz.results85,Lf.yb]) (zu ?_ ?_) ?_)<;>(try (first|exact zh|exact stT)))|(guard_target =~ dw _ _ _ _ _ _ _ _ _ _;first|((first|guard_target =~ dw _ _ _ _ _ (2 :: _) _ _ _ _|guard_target =~ dw _ _ _ _ _ (7 :: _) _ _ _ _);(refine zaq rfl rfl (h:=zQ (h:=zC rfl (he:=eoT) (hK:=zi ⟨rfl,rfl⟩))) (hk:=?_)))|(guard_target =~ dw _ _ _ _ _ (6 :: _) _ _ _ _;(refine vK rfl rfl (h:=(fun τ=>zQ (h:=zF rfl (he:=eoT) (hK:=zi ⟨rfl,rfl⟩)))) (hk:=?_))))|(refine hK _ _ ?_;clear hK K))
   all_goals exact vp (by unfold wrB nuB;simp [h8,h32,eB,wgB,nbB,hwp,List.append_assoc]) id
  rotate_left
  ·obtain ⟨hw0, hw1⟩ := zk8 hwt
   have hwp:=ziW hwt
   have hq1:=zew hw0 hw1
   refine zc Tryz.func85 rfl Tryz.ntmps85 (by simp) (fun hsc=>?_);simp only [Lf.enter,Nat.reduceAdd];clear hsc
   have hU:=And.intro @h8 ( And.intro @h32 ( And.intro @hq1 ( And.intro @hdm ( And.intro @hcp (@hcl)))))
   repeat' (first|(refine goR ?_)|(guard_target =~ PWp _ _ _ _ _ _ _;(guard_target =~ PWp _ _ _ (Code.seq (Code.region 2 _ _) _) _ _ _);refine yp 4 5 1 (by decide) (by rfl) rfl rfl ?_)|(guard_target =~ PWp _ _ _ _ _ _ _;refine zn (id:=10) [0,1,2,3,4,5,6,7,8] [2,7] mixed (by kernel_rfl) (by kernel_rfl) ?_)|(refine za (fun K hK=>?_))|((refine zb (fun hcd=>?_) (fun hcd=>?_))<;>(try simp only [hcP] at hcd)<;>(try exact cdT))|(guard_target =~ SOp _ _ ⟨_,.call ⟨.builtin .append,_,_⟩,_,_,_,none⟩ _ _ _;refine zC rfl (he:=eoT) (hK:=?_))|(refine zd (f:=135) rfl Tryz.call135 (h:=AEq.pure' agT (jh _ _ lnT) (hq:=?_)))|(refine zd (f:=107) rfl Tryz.call107 (h:=AEq.pure' agT (jg _ _ _ lnT lnT) (hq:=?_)))|(refine zd (f:=134) rfl Tryz.call134 (h:=AEq.pure' agT (vr _ _ _ _ _ lnT) (hq:=?_)))|((refine ze [] (by rw [Tryz.results85,Lf.yb]) (zu ?_ ?_) ?_)<;>(try (first|exact zh|exact stT)))|(guard_target =~ dw _ _ _ _ _ _ _ _ _ _;first|((first|guard_target =~ dw _ _ _ _ _ (2 :: _) _ _ _ _|guard_target =~ dw _ _ _ _ _ (7 :: _) _ _ _ _);(refine zaq rfl rfl (h:=zQ (h:=zC rfl (he:=eoT) (hK:=zi ⟨rfl,rfl⟩))) (hk:=?_)))|(guard_target =~ dw _ _ _ _ _ (6 :: _) _ _ _ _;(refine vK rfl rfl (h:=(fun τ=>zQ (h:=zF rfl (he:=eoT) (hK:=zi ⟨rfl,rfl⟩)))) (hk:=?_))))|(refine hK _ _ ?_;clear hK K))
   all_goals exact vp (by unfold wrB nuB;simp [h8,h32,eB,wgB,nbB,hwp,List.append_assoc]) id
  all_goals (refine zc Tryz.func85 rfl Tryz.ntmps85 (by simp) (fun hsc=>?_);simp only [Lf.enter,Nat.reduceAdd];clear hsc)
  all_goals (have hU:=And.intro @h8 ( And.intro @h32 ( And.intro @hdm ( And.intro @hcp (@hcl)))))
  all_goals (repeat' (first|(refine goS ?_)|(guard_target =~ PWp _ _ _ _ _ _ _;(guard_target =~ PWp _ _ _ (Code.seq (Code.region 2 _ _) _) _ _ _);refine yp 4 5 1 (by decide) (by rfl) rfl rfl ?_)|(refine za (fun K hK=>?_))|((refine zb (fun hcd=>?_) (fun hcd=>?_))<;>(try simp only [hcP] at hcd)<;>(try exact cdT))|(guard_target =~ rg _ _ _ (⟨_,_,_,_,_,some _⟩ :: _) _ _ _;(first|refine zv gT (fun hcd=>?_) (fun hcd=>?_)|refine zp gT (fun hcd=>?_) (fun hcd=>?_))<;>(try simp only [hcd])<;>(try (simp only [Bool.not_eq_true',Bool.not_eq_false'] at hcd;try simp only [hcd]))<;>(refine vC (Γ2:=_) ewT ?_)<;>(try simp only [hcP] at hcd)<;>(try exact cdT))|(refine zd (f:=135) rfl Tryz.call135 (h:=AEq.pure' agT (jh _ _ lnT) (hq:=?_)))|(refine zd (f:=107) rfl Tryz.call107 (h:=AEq.pure' agT (jg _ _ _ lnT lnT) (hq:=?_)))|(refine zd (f:=107) rfl Tryz.call107 (h:=AEq.pure' agT (kM _ _ _ lnT lnT) (hq:=?_)))|(refine zd (f:=84) rfl Tryz.call84 (h:=AEq.pure' agT (zfA _ _ _ lnT) (hq:=?_)))|(refine zd (f:=134) rfl Tryz.call134 (h:=AEq.pure' agT (vr _ _ _ _ _ lnT) (hq:=?_)))|((refine ze [] (by rw [Tryz.results85,Lf.yb]) (zu ?_ ?_) ?_)<;>(try (first|exact zh|exact stT)))|(refine hK _ _ ?_;clear hK K)))
  all_goals exact vp (by unfold wrB nuB;simp [*,eB,nbB,List.append_assoc]) id
end Go.Proofs.YtdalcgfnlbofdaaGreatDoor
