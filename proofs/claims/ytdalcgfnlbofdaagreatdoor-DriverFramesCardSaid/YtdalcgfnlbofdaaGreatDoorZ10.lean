import Derived.Test.YtdalcgfnlbofdaaGreatDoorTg
import Derived.Test.YtdalcgfnlbofdaaGreatDoorZ09
import Derived.Test.YtdalcgfnlbofdaaGreatDoorLc
import Derived.Test.YtdalcgfnlbofdaaGreatDoorZ01
import Derived.Test.YtdalcgfnlbofdaaGreatDoorZ08
set_option linter.unusedVariables false
set_option linter.unusedSimpArgs false
namespace Go.Proofs.YtdalcgfnlbofdaaGreatDoor
open Go Go.Lf Go.Proofs
attribute [local irreducible] Lf.rg Lf.ro Lf.PWp Lf.SOp Lf.ACall Lf.Scoped Lf.dg Lf.dw
set_option maxRecDepth 20000
set_option maxHeartbeats 4000000
attribute [local irreducible] wt
theorem zuL (xs : List Fl) (s : Nat) (m n : Int) (h : xs.length ≤ 100000) (hS : zO xs ≤ 4000000000) (hb : ∀ f ∈ xs,f.n.size ≤ 1000000000 ∧ f.v.size ≤ 1000000000) (h1 : 0 ≤ n) (h2 : n ≤ 2147483647) : AEq Tryz.prog 175 [.ptr 0 0,i64 n] [.box [.row 1 s,i64 (zO xs),i64 m],.row s 103 3 (xs.map flA)] (i64 0) [.box [.row 1 (s + 1),i64 (zO (keptL xs n)),i64 n],.row (s + 1) 103 3 ((keptL xs n).map flA)]:=by
 have hd : decide (0 ≤ n ∧ n ≤ 2147483647) = true:=by rw [decide_eq_true_eq];omega
 refine zc Tryz.func175 rfl Tryz.ntmps175 (by simp) (fun hsc=>?_);simp only [Lf.enter,Nat.reduceAdd];clear hsc
 have hU:=@hd
 repeat' (first|(refine goR ?_)|(refine za (fun K hK=>?_))|((refine zb (fun hcd=>?_) (fun hcd=>?_))<;>(try simp only [hcP] at hcd)<;>(try exact cdT))|(refine zd (f:=200) rfl Tryz.call200 (h:=AEq.sub' [_,_] (hc:=zcv _ _ _ _ (by assumption) (by assumption) (by assumption)) (hq:=?_)))|(refine zd (f:=149) rfl Tryz.call149 (h:=AEq.pure' agT (zrs _) (hq:=?_)))|((refine ze [0,1] (by rw [Tryz.results175,Lf.zt]) (zj ?_) ?_)<;>(try (first|exact zh|exact stT)))|(refine hK _ _ ?_;clear hK K))
theorem zrv (xs : List Fl) (s : Nat) (z m : Int) (n v : ByteArray) (h : xs.length ≤ 100000) : AEq Tryz.prog 226 [.ptr 0 0,.lit (.string n),.lit (.string v)] [.box [.row 1 s,i64 z,i64 m],.row s 103 3 (xs.map flA)] (.tu [i64 (fnI xs.reverse n v),bl (fnB xs.reverse n v)]) [.box [.row 1 s,i64 z,i64 m],.row s 103 3 (xs.map flA)]:=by
 refine zc Tryz.func226 rfl Tryz.ntmps226 (by simp) (fun hsc=>?_);simp only [Lf.enter,Nat.reduceAdd];clear hsc
 have hU:=True.intro
 repeat' (first|(refine goR ?_)|(refine za (fun K hK=>?_))|(refine hK _ _ ?_;clear hK K))
 refine zU [6,7,8,9,10,11,12,13,14,15,16,17,18,19,20,21,22,23,24,25,26,27,28,29,30,31,32,33,34,35,36,37,38] [0,1] (fun q : Nat × Int=>[(9,i64 (q.1 + 1)),(8,i64 q.2)]) (fun _=>[.box [.row 1 s,i64 z,i64 m],.row s 103 3 (xs.map flA)]) (fun q=>q.1 ≤ xs.length ∧ 0 ≤ q.2 ∧ v8 n v xs.reverse 1 = v8 n v (xs.reverse.drop q.1) (q.1 + 1) ∧ (q.2 = 0 → yA n xs.reverse 1 = yA n (xs.reverse.drop q.1) (q.1 + 1)) ∧ (q.2 ≠ 0 → yA n xs.reverse 1 = q.2)) (fun q=>xs.length - q.1) (0,0) (fun _=>rfl) rfl rfl ⟨Nat.zero_le _,by decide,rfl,fun _=>rfl,fun h=>absurd rfl h⟩ ?_ rfl (by intro s i x h;simp only [List.mem_cons,Prod.mk.injEq,List.not_mem_nil,or_false] at h;rcases h with ⟨rfl,_⟩|⟨rfl,_⟩<;>decide) ?_
 ·(refine ⟨⟨_,sT,?_⟩,⟨_,sT,?_⟩,trivial⟩<;>(try (first|exact zh)))
 ·rintro ⟨c, r⟩ ⟨h1, h2, h3, h4, h5⟩
  dsimp only at h1 h2 h3 h4 h5 ⊢
  simp only [yn,List.map_cons,List.map_nil,List.cons_append,List.nil_append]
  have hrl : xs.reverse.length = xs.length:=List.length_reverse
  by_cases hlt : c < xs.length
  ·obtain ⟨x, hx⟩ := yy (l := xs.reverse) (i := c) (by omega)
   have hxi : xs.reverse[((c : Int) + 1).toNat - 1]? = some x:=by rw [show ((c : Int) + 1).toNat - 1 = c from by omega];exact hx
   rw [yJ hx,v8] at h3
   rw [yJ hx,yA] at h4
   by_cases hn : x.n = n
   ·by_cases hv : x.v = v
    ·rw [if_pos ⟨hn, hv⟩] at h3
     obtain ⟨e1,e2⟩:=zlT h3 (by omega)
     have hU:=And.intro @hn (@hv)
     repeat' (first|(refine goR ?_)|(refine za (fun K hK=>?_))|((refine zb (fun hcd=>?_) (fun hcd=>?_))<;>(try simp only [hcP] at hcd)<;>(try exact cdT))|(refine zd (f:=228) rfl Tryz.call228 (h:=AEq.sub' [_,_] (hc:=zcu _ _ _ _) (hq:=?_)))|(refine zd (f:=229) rfl Tryz.call229 (h:=AEq.sub' [_,_] (hc:=zpo _ _ _ _ _ _ aoT aoT aoT aoT) (hq:=?_)))|((refine ze [0,1] (by rw [Tryz.results226,Lf.yb]) (zu ?_ ?_) ?_)<;>(try (first|exact zh|exact stT)))|(refine hK _ _ ?_;clear hK K))
     all_goals first|exact zT e1.symm|exact zq e2.symm
    ·rw [if_neg (by simp [hv])] at h3
     rw [if_pos hn] at h4
     by_cases hr : r = 0
     ·subst hr
      have hU:=And.intro @hn (@hv)
      repeat' (first|(refine goR ?_)|(refine za (fun K hK=>?_))|((refine zb (fun hcd=>?_) (fun hcd=>?_))<;>(try simp only [hcP] at hcd)<;>(try exact cdT))|(refine zd (f:=228) rfl Tryz.call228 (h:=AEq.sub' [_,_] (hc:=zcu _ _ _ _) (hq:=?_)))|(refine zd (f:=229) rfl Tryz.call229 (h:=AEq.sub' [_,_] (hc:=zpo _ _ _ _ _ _ aoT aoT aoT aoT) (hq:=?_)))|(refine hK _ _ ?_;clear hK K))
      refine ⟨(c + 1,(c : Int) + 1),⟨by dsimp only;omega,by dsimp only;omega,h3,fun e=>by dsimp only at e;omega,fun _=>h4 rfl⟩,by dsimp only;omega,?_,arT,srT⟩
      (refine ⟨⟨_,sT,?_⟩,⟨_,sT,?_⟩,trivial⟩<;>(try (first|exact zh)))
     ·have hU := And.intro @hn (@hv)
      repeat' (first|(refine goR ?_)|(refine za (fun K hK=>?_))|((refine zb (fun hcd=>?_) (fun hcd=>?_))<;>(try simp only [hcP] at hcd)<;>(try exact cdT))|(refine zd (f:=228) rfl Tryz.call228 (h:=AEq.sub' [_,_] (hc:=zcu _ _ _ _) (hq:=?_)))|(refine zd (f:=229) rfl Tryz.call229 (h:=AEq.sub' [_,_] (hc:=zpo _ _ _ _ _ _ aoT aoT aoT aoT) (hq:=?_)))|(refine hK _ _ ?_;clear hK K))
      refine ⟨(c + 1,r),⟨by dsimp only;omega,h2,h3,fun e=>absurd e hr,h5⟩,by dsimp only;omega,?_,arT,srT⟩
      (refine ⟨⟨_,sT,?_⟩,⟨_,sT,?_⟩,trivial⟩<;>(try (first|exact zh)))
   ·rw [if_neg (by simp [hn])] at h3
    rw [if_neg hn] at h4
    have hU:=@hn
    repeat' (first|(refine goR ?_)|(refine za (fun K hK=>?_))|((refine zb (fun hcd=>?_) (fun hcd=>?_))<;>(try simp only [hcP] at hcd)<;>(try exact cdT))|(refine zd (f:=228) rfl Tryz.call228 (h:=AEq.sub' [_,_] (hc:=zcu _ _ _ _) (hq:=?_)))|(refine zd (f:=229) rfl Tryz.call229 (h:=AEq.sub' [_,_] (hc:=zpo _ _ _ _ _ _ aoT aoT aoT aoT) (hq:=?_)))|(refine hK _ _ ?_;clear hK K))
    refine ⟨(c + 1,r),⟨by dsimp only;omega,h2,h3,h4,h5⟩,by dsimp only;omega,?_,arT,srT⟩
    (refine ⟨⟨_,sT,?_⟩,⟨_,sT,?_⟩,trivial⟩<;>(try (first|exact zh)))
  ·obtain rfl : c = xs.length := by omega
   have h6 : xs.reverse.drop xs.length = []:=by rw [List.drop_eq_nil_of_le (by omega)]
   rw [h6,v8] at h3
   rw [h6,yA] at h4
   have h7 : yA n xs.reverse 1 = r:=by
    by_cases hr : r = 0
    ·rw [h4 hr,hr]
    ·exact h5 hr
   obtain ⟨e1,e2⟩:=zed h3 h7
   repeat' (first|(refine goR ?_)|(refine za (fun K hK=>?_))|((refine zb (fun hcd=>?_) (fun hcd=>?_))<;>(try simp only [hcP] at hcd)<;>(try exact cdT))|(refine zd (f:=228) rfl Tryz.call228 (h:=AEq.sub' [_,_] (hc:=zcu _ _ _ _) (hq:=?_)))|((refine ze [0,1] (by rw [Tryz.results226,Lf.yb]) (zu ?_ ?_) ?_)<;>(try (first|exact zh|exact stT)))|(refine hK _ _ ?_;clear hK K)|(apply_assumption (exfalso:=false) (symm:=false)))
   all_goals first|exact zT e1.symm|exact zq e2.symm
end Go.Proofs.YtdalcgfnlbofdaaGreatDoor
namespace Go.Proofs.YtdalcgfnlbofdaaGreatDoor
open Go Go.Lf Go.Proofs
attribute [local irreducible] Lf.rg Lf.ro Lf.PWp Lf.SOp Lf.ACall Lf.Scoped Lf.dg Lf.dw
set_option maxRecDepth 20000
set_option maxHeartbeats 4000000
theorem zdm : ∀ (l : List Fl) (g : Nat), zO (l.take g) ≤ zO l
 | [],g=>by rw [List.take_nil];exact Int.le_refl _
 | x :: l,0=>by rw [List.take_zero,sumW_nil];exact (vi _).1
 | x :: l,g + 1=>by
  have:=zdm l g
  rw [List.take_succ_cons,zO,zO];omega
theorem zhY {l : List Fl} {i : Nat} {x : Fl} (h : l[i]? = some x) : zO (l.take (i + 1)) = zO (l.take i) + wt x:=by
 rw [zf9 h,jv];simp only [zO];omega
theorem znW {l : List Fl} {i : Nat} {x : Fl} {n m : Int} (h : l[i]? = some x) : kP (l.drop i) n m = if m < n + wt x then 0 else kP (l.drop (i + 1)) (n + wt x) m + 1:=by
 rw [yJ h,kP]
attribute [local irreducible] wt
theorem znX (f : Bool) (l : List Fl) (most : Int) (h : l.length ≤ 100000) (hS : zO l ≤ 4000000000) (hb : ∀ f ∈ l,f.n.size ≤ 1000000000 ∧ f.v.size ≤ 1000000000) : AEq Tryz.prog 165 [.sl f false (l.map flA),i64 most] [] (.sl false false ((l.take (kP l 0 most)).map flA)) []:=by
 refine zc Tryz.func165 rfl Tryz.ntmps165 (by simp) (fun hsc=>?_);simp only [Lf.enter,Nat.reduceAdd];clear hsc
 have hU:=True.intro
 repeat' (first|(refine goR ?_)|(refine za (fun K hK=>?_))|(refine hK _ _ ?_;clear hK K))
 refine zo [4,5,6,7,8,9,10,11,12,13,14,15,16,17,18,19,20,21,22,23,24,25] (fun i : Nat=>[(6,i64 i),(5,i64 (zO (l.take i)))]) (fun _=>[]) (fun i=>i ≤ l.length ∧ kP l 0 most = i + kP (l.drop i) (zO (l.take i)) most) (fun i=>l.length - i) 0 ⟨Nat.zero_le _,by rw [List.take_zero,sumW_nil,List.drop_zero,Nat.zero_add]⟩ ?_ rfl ?_
 ·(refine ⟨⟨_,sT,?_⟩,⟨_,sT,?_⟩,trivial⟩<;>(try (first|exact zh)))
 ·rintro i ⟨hi, hk⟩
  simp only [yn,List.map_cons,List.map_nil,List.cons_append,List.nil_append]
  by_cases hlt : i < l.length
  ·obtain ⟨x, hx⟩ := yy hlt
   have hxb:=hb x (List.mem_of_getElem? hx)
   have hz:=zdm l (i + 1)
   have hp:=(vi (l.take (i + 1))).1
   have hp1:=(vi (l.take i)).1
   have hs:=zhY hx
   rw [znW hx] at hk
   rw [hs] at hz hp
   by_cases hm : most < zO (l.take i) + wt x
   ·rw [if_pos hm, Nat.add_zero] at hk
    repeat' (first|(refine goR ?_)|(refine za (fun K hK=>?_))|((refine zb (fun hcd=>?_) (fun hcd=>?_))<;>(try simp only [hcP] at hcd)<;>(try exact cdT))|(refine zd (f:=168) rfl Tryz.call168 (h:=AEq.pure' agT (zct _ (by omega) (by omega)) (hq:=?_)))|(guard_target =~ SOp _ _ ⟨_,.slice _ _ _ _ _,_,_,_,none⟩ _ _ _;refine kj rfl (hg:=(fun _=>gT)) (hK:=?_))|((refine ze [] (by rw [Tryz.results165,Lf.zt]) (zj ?_) ?_)<;>(try (first|exact zh|exact stT)))|(refine hK _ _ ?_;clear hK K))
    all_goals exact zA (by rw [hk])
   ·rw [if_neg hm, ← hs] at hk
    have hU:=@hs
    repeat' (first|(refine goR ?_)|(refine za (fun K hK=>?_))|((refine zb (fun hcd=>?_) (fun hcd=>?_))<;>(try simp only [hcP] at hcd)<;>(try exact cdT))|(refine zd (f:=168) rfl Tryz.call168 (h:=AEq.pure' agT (zct _ (by omega) (by omega)) (hq:=?_)))|(refine hK _ _ ?_;clear hK K))
    refine ⟨i + 1,⟨by omega,by rw [hk];omega⟩,by omega,?_,arT,srT⟩
    (refine ⟨⟨_,sT,?_⟩,⟨_,sT,?_⟩,trivial⟩<;>(try (first|exact zh)))
    all_goals exact zT hs.symm
  ·have he : kP l 0 most = l.length := by rw [hk, List.drop_eq_nil_of_le (by omega)]; simp only [kP]; omega
   have ht : l.take l.length = l:=List.take_length
   repeat' (first|(refine goR ?_)|(refine za (fun K hK=>?_))|((refine zb (fun hcd=>?_) (fun hcd=>?_))<;>(try simp only [hcP] at hcd)<;>(try exact cdT))|((refine ze [] (by rw [Tryz.results165,Lf.zt]) (zj ?_) ?_)<;>(try (first|exact zh|exact stT)))|(refine hK _ _ ?_;clear hK K)|(apply_assumption (exfalso:=false) (symm:=false)))
   all_goals (rw [he,ht];cases f<;>first|exact zb5|exact vD)
def fl1 (f : Fl) : List Fl:=[flN f]
theorem znY (f : Fl) : (fl1 f).length = 1:=rfl
theorem fl1_is {f : Fl} : [[AV.lit (Value.string f.n),AV.lit (Value.string f.v),AV.lit (Value.bool false)]] = List.map flA (fl1 f):=rfl
def zhZ (f : Fl) (l : List Fl) : List Fl:=flN f :: l
theorem fl1_app {f : Fl} {l : List Fl} : List.map flA (fl1 f) ++ List.map flA l = List.map flA (zhZ f l):=rfl
theorem vQ (n v : ByteArray) (k : Bool) (h1 : n.size ≤ 1000000000) (h2 : v.size ≤ 1000000000) : AEq Tryz.prog 168 [.ag [.lit (.string n),.lit (.string v),.lit (.bool k)]] [] (i64 (wt ⟨n,v,k⟩)) []:=zct ⟨n,v,k⟩ h1 h2
theorem wt_no (f : Fl) : wt ⟨f.n,f.v,false⟩ = wt f:=zuH f
theorem zeg (f1 : Bool) (R : List Fl) (m : Int) (f : Fl) (h1 : f.n.size ≤ 1000000000) (h2 : f.v.size ≤ 1000000000) (h3 : m < wt f) : AEq Tryz.prog 117 [.ag [.sl f1 false (R.map flA),i64 m],.ag (flA f)] [] (.ag [.sl true false [],i64 m]) []:=by
 refine zc Tryz.func117 rfl Tryz.ntmps117 (by simp) (fun hsc=>?_);simp only [Lf.enter,Nat.reduceAdd];clear hsc
 have hU:=@wt_no
 repeat' (first|(refine goR ?_)|(refine za (fun K hK=>?_))|(guard_target =~ PWp _ _ _ _ _ _ _;refine zG mixed (by kernel_rfl) ?_)|((refine zb (fun hcd=>?_) (fun hcd=>?_))<;>(try simp only [hcP] at hcd)<;>(try exact cdT))|((refine zY [] exT (by rfl) (by rw [Tryz.results117,Lf.yM];(try simp (disch:=omega) only [Lf.zD,go_sem,seval,↓reduceIte,hU]);rfl) sT sT (zj ?_) ?_)<;>(try (first|exact zh|exact stT)))|(guard_target =~ dg _ _ _ _ _ _ _;first|(guard_target =~ dg _ _ _ (⟨_,.call ⟨.value (.func 168),_,_⟩,_,_,_,none⟩ :: _) _ _ _;(refine yY (x:=_) (h:=zQ (h:=zd (f:=168) rfl Tryz.call168 (h:=AEq.pure' agT (vQ _ _ _ (by assumption) (by assumption)) (hq:=zi ⟨rfl,rfl⟩)))) (hk:=?_))))|(refine hK _ _ ?_;clear hK K))
theorem zh0 (f1 : Bool) (R : List Fl) (m : Int) (f : Fl) (h1 : f.n.size ≤ 1000000000) (h2 : f.v.size ≤ 1000000000) (h3 : m < wt f) : AEq Tryz.prog 117 [.ag [.sl f1 false (R.map flA),i64 m],.ag (flA f)] [] (.ag [.sl true false (xsE.reverse.map flA),i64 m]) []:=zeg f1 R m f h1 h2 h3
theorem zkv (f1 : Bool) (R : List Fl) (m : Int) (f : Fl) (h : R.length ≤ 100000) (hS : zO R ≤ 4000000000) (hb : ∀ f ∈ R,f.n.size ≤ 1000000000 ∧ f.v.size ≤ 1000000000) (h1 : f.n.size ≤ 1000000000) (h2 : f.v.size ≤ 1000000000) (h3 : wt f ≤ m) (h4 : m ≤ 4000000000) (hne : R.take (kP R 0 (m - wt f)) = []) : AEq Tryz.prog 117 [.ag [.sl f1 false (R.map flA),i64 m],.ag (flA f)] [] (.ag [.sl true false ((fl1 f).map flA),i64 m]) []:=by
 have hp:=j7 f
 have hfl:=zaw (m - wt f) R 0
 refine zc Tryz.func117 rfl Tryz.ntmps117 (by simp) (fun hsc=>?_);simp only [Lf.enter,Nat.reduceAdd];clear hsc
 have hU:=And.intro @wt_no ( And.intro @fl1_is ( And.intro @fl1_app (@hne)))
 repeat' (first|(refine goR ?_)|(guard_target =~ PWp _ _ _ _ _ _ _;refine zn (id:=4) [0,1,2,3,4,5,6,7,8,9,10,11,12,13,14] [1,10,14] mixed (by kernel_rfl) (by kernel_rfl) ?_)|(refine za (fun K hK=>?_))|(guard_target =~ PWp _ _ _ _ _ _ _;refine zG mixed (by kernel_rfl) ?_)|((refine zb (fun hcd=>?_) (fun hcd=>?_))<;>(try simp only [hcP] at hcd)<;>(try exact cdT))|((refine zY [] exT (by rfl) (by rw [Tryz.results117,Lf.yM];(try simp (disch:=omega) only [Lf.zD,go_sem,seval,↓reduceIte,hU]);rfl) sT sT (zj ?_) ?_)<;>(try (first|exact zh|exact stT)))|(guard_target =~ dg _ _ _ _ _ _ _;first|(guard_target =~ dg _ _ _ (⟨_,.call ⟨.value (.func 168),_,_⟩,_,_,_,none⟩ :: _) _ _ _;(refine yY (x:=_) (h:=zQ (h:=zd (f:=168) rfl Tryz.call168 (h:=AEq.pure' agT (vQ _ _ _ (by assumption) (by assumption)) (hq:=zi ⟨rfl,rfl⟩)))) (hk:=?_))))|(guard_target =~ dw _ _ _ _ _ _ _ _ _ _;first|(guard_target =~ dw _ _ _ _ _ (1 :: _) _ _ _ _;(refine zaq rfl rfl (h:=zQ (h:=zF rfl (he:=eoT) (hK:=zi ⟨rfl,rfl⟩))) (hk:=?_)))|(guard_target =~ dw _ _ _ _ _ (7 :: _) _ _ _ _;(refine vK rfl rfl (h:=(fun τ=>zQ (h:=zd (f:=168) rfl Tryz.call168 (h:=AEq.pure' agT (vQ _ _ _ (by assumption) (by assumption)) (hq:=zi ⟨rfl,rfl⟩))))) (hk:=?_)))|(guard_target =~ dw _ _ _ _ _ (9 :: _) _ _ _ _;(refine vK rfl rfl (h:=(fun τ=>zQ (h:=zd (f:=165) rfl Tryz.call165 (h:=AEq.pure' agT (znX _ _ _ (by assumption) (by assumption) (by assumption)) (hq:=zi ⟨rfl,rfl⟩))))) (hk:=?_)))|(guard_target =~ dw _ _ _ _ _ (10 :: _) _ _ _ _;(refine zaq rfl rfl (h:=zQ (h:=zcj rfl sT eoT sT sT sT (by first|rfl|assumption|fail) sT (zi ⟨rfl,rfl⟩))) (hk:=?_)))|(guard_target =~ dw _ _ _ _ _ (13 :: _) _ _ _ _;(refine vK rfl rfl (h:=(fun τ=>zQ (h:=vH rfl (by first|exact zdf|exact zhj|fail) (hK:=zi ⟨rfl,rfl⟩)))) (hk:=?_)))|(guard_target =~ dw _ _ _ _ _ (14 :: _) _ _ _ _;(refine kO rfl rfl (h:=zcT (h:=z0 rfl (hK:=zi ⟨rfl,rfl⟩))) (hk:=?_))))|(refine hK _ _ ?_;clear hK K))
theorem zkw (f1 : Bool) (R : List Fl) (m : Int) (f : Fl) (h : R.length ≤ 100000) (hS : zO R ≤ 4000000000) (hb : ∀ f ∈ R,f.n.size ≤ 1000000000 ∧ f.v.size ≤ 1000000000) (h1 : f.n.size ≤ 1000000000) (h2 : f.v.size ≤ 1000000000) (h3 : wt f ≤ m) (h4 : m ≤ 4000000000) (hne : ¬ R.take (kP R 0 (m - wt f)) = []) : AEq Tryz.prog 117 [.ag [.sl f1 false (R.map flA),i64 m],.ag (flA f)] [] (.ag [.sl false false ((zhZ f (R.take (kP R 0 (m - wt f)))).map flA),i64 m]) []:=by
 have hp:=j7 f
 have hfl:=zaw (m - wt f) R 0
 have hfl1:=znY f
 have hne2 : List.map flA (R.take (kP R 0 (m - wt f))) ≠ []:=by intro e;exact hne (List.map_eq_nil_iff.1 e)
 refine zc Tryz.func117 rfl Tryz.ntmps117 (by simp) (fun hsc=>?_);simp only [Lf.enter,Nat.reduceAdd];clear hsc
 have hU:=And.intro @wt_no ( And.intro @fl1_is (@fl1_app))
 repeat' (first|(refine goR ?_)|(guard_target =~ PWp _ _ _ _ _ _ _;refine zn (id:=4) [0,1,2,3,4,5,6,7,8,9,10,11,12,13,14] [1,10,14] mixed (by kernel_rfl) (by kernel_rfl) ?_)|(refine za (fun K hK=>?_))|(guard_target =~ PWp _ _ _ _ _ _ _;refine zG mixed (by kernel_rfl) ?_)|((refine zb (fun hcd=>?_) (fun hcd=>?_))<;>(try simp only [hcP] at hcd)<;>(try exact cdT))|((refine zY [] exT (by rfl) (by rw [Tryz.results117,Lf.yM];(try simp (disch:=omega) only [Lf.zD,go_sem,seval,↓reduceIte,hU]);rfl) sT sT (zj ?_) ?_)<;>(try (first|exact zh|exact stT)))|(guard_target =~ dg _ _ _ _ _ _ _;first|(guard_target =~ dg _ _ _ (⟨_,.call ⟨.value (.func 168),_,_⟩,_,_,_,none⟩ :: _) _ _ _;(refine yY (x:=_) (h:=zQ (h:=zd (f:=168) rfl Tryz.call168 (h:=AEq.pure' agT (vQ _ _ _ (by assumption) (by assumption)) (hq:=zi ⟨rfl,rfl⟩)))) (hk:=?_))))|(guard_target =~ dw _ _ _ _ _ _ _ _ _ _;first|(guard_target =~ dw _ _ _ _ _ (1 :: _) _ _ _ _;(refine zaq rfl rfl (h:=zQ (h:=zF rfl (he:=eoT) (hK:=zi ⟨rfl,rfl⟩))) (hk:=?_)))|(guard_target =~ dw _ _ _ _ _ (7 :: _) _ _ _ _;(refine vK rfl rfl (h:=(fun τ=>zQ (h:=zd (f:=168) rfl Tryz.call168 (h:=AEq.pure' agT (vQ _ _ _ (by assumption) (by assumption)) (hq:=zi ⟨rfl,rfl⟩))))) (hk:=?_)))|(guard_target =~ dw _ _ _ _ _ (9 :: _) _ _ _ _;(refine vK rfl rfl (h:=(fun τ=>zQ (h:=zd (f:=165) rfl Tryz.call165 (h:=AEq.pure' agT (znX _ _ _ (by assumption) (by assumption) (by assumption)) (hq:=zi ⟨rfl,rfl⟩))))) (hk:=?_)))|(guard_target =~ dw _ _ _ _ _ (10 :: _) _ _ _ _;(refine zaq rfl rfl (h:=zQ (h:=y6 rfl (he:=eoT) (hne:=by first|exact .inl rfl|exact .inr (by assumption)|exact .inr (by simp;done)|fail) (hK:=zi ⟨rfl,rfl⟩))) (hk:=?_)))|(guard_target =~ dw _ _ _ _ _ (13 :: _) _ _ _ _;(refine zlK rfl rfl (h:=zQ (h:=vH rfl (by first|exact zdf|exact zhj|fail) (hK:=zi ⟨rfl,rfl⟩))) (hk:=?_)))|(guard_target =~ dw _ _ _ _ _ (14 :: _) _ _ _ _;(refine kO rfl rfl (h:=zcT (h:=z0 rfl (hK:=zi ⟨rfl,rfl⟩))) (hk:=?_))))|(refine hK _ _ ?_;clear hK K))
theorem zh1 {σ : Sto} {ρ : Rz} {w : World} {f q : Bool} {xs : List (List AV)} {r : List AV} {v : Value} (h : VR σ ρ w (.ag (.sl f q xs :: r)) v) : VR σ ρ w (.ag (.sl false q xs :: r)) v:=by
 simp only [VR] at h ⊢
 obtain ⟨vs,rfl,h⟩:=h
 refine ⟨vs,rfl,?_⟩
 cases vs with
 | nil=>simp [VRl] at h
 | cons u us=>
  simp only [VRl,VR] at h ⊢
  obtain ⟨⟨a,cap,sz,h1,h2,h3,_,h5⟩,h6⟩:=h
  exact ⟨⟨a,cap,sz,h1,h2,h3,by simp,h5⟩,h6⟩
theorem zuM (f1 : Bool) (R : List Fl) (m : Int) (f : Fl) (h : R.length ≤ 100000) (hS : zO R ≤ 4000000000) (hb : ∀ f ∈ R,f.n.size ≤ 1000000000 ∧ f.v.size ≤ 1000000000) (h1 : f.n.size ≤ 1000000000) (h2 : f.v.size ≤ 1000000000) (h3 : wt f ≤ m) (h4 : m ≤ 4000000000) : AEq Tryz.prog 117 [.ag [.sl f1 false (R.map flA),i64 m],.ag (flA f)] [] (.ag [.sl false false ((zhZ f (R.take (kP R 0 (m - wt f)))).map flA),i64 m]) []:=by
 by_cases hne : R.take (kP R 0 (m - wt f)) = []
 ·refine jy (zkv f1 R m f h hS hb h1 h2 h3 h4 hne) (fun ρ w v hr _ hv => ⟨ρ, hr, ?_, .refl _ _ _ _ (Nat.le_refl _)⟩)
  rw [hne]
  exact zh1 hv
 ·exact zkw f1 R m f h hS hb h1 h2 h3 h4 hne
theorem zuN (f1 : Bool) (R : List Fl) (m n : Int) (h : R.length ≤ 100000) (hS : zO R ≤ 4000000000) (hb : ∀ f ∈ R,f.n.size ≤ 1000000000 ∧ f.v.size ≤ 1000000000) : AEq Tryz.prog 115 [.ag [.sl f1 false (R.map flA),i64 m],i64 n] [] (.ag [.sl false false ((R.take (kP R 0 n)).map flA),i64 n]) []:=by
 refine zc Tryz.func115 rfl Tryz.ntmps115 (by simp) (fun hsc=>?_);simp only [Lf.enter,Nat.reduceAdd];clear hsc
 have hU:=True.intro
 repeat' (first|(refine goR ?_)|(refine za (fun K hK=>?_))|(refine zd (f:=165) rfl Tryz.call165 (h:=AEq.pure' agT (znX _ _ _ (by assumption) (by assumption) (by assumption)) (hq:=?_)))|((refine zY [] exT (by rfl) (by rw [Tryz.results115,Lf.yM];(try simp (disch:=omega) only [Lf.zD,go_sem,seval,↓reduceIte,hU]);rfl) sT sT (zj ?_) ?_)<;>(try (first|exact zh|exact stT)))|(refine hK _ _ ?_;clear hK K))
end Go.Proofs.YtdalcgfnlbofdaaGreatDoor
namespace Go.Proofs.YtdalcgfnlbofdaaGreatDoor
open Go Go.Lf Go.Proofs
attribute [local irreducible] Lf.rg Lf.ro Lf.PWp Lf.SOp Lf.ACall Lf.Scoped Lf.dg Lf.dw
set_option maxRecDepth 20000
set_option maxHeartbeats 4000000
theorem zrw (f1 : Bool) (R : List Fl) (m : Int) (n v : ByteArray) (h : R.length ≤ 100000) : AEq Tryz.prog 209 [.ag [.sl f1 false (R.map flA),i64 m],.lit (.string n),.lit (.string v)] [] (.tu [i64 (fnI R n v),bl (fnB R n v)]) []:=by
 refine zc Tryz.func209 rfl Tryz.ntmps209 (by simp) (fun hsc=>?_);simp only [Lf.enter,Nat.reduceAdd];clear hsc
 have hU:=True.intro
 repeat' (first|(refine goR ?_)|(refine za (fun K hK=>?_))|(refine hK _ _ ?_;clear hK K))
 refine zo [6,7,8,10,11,12,13,14,15,16,17,18,19,20,21,22,23,24,25,26,27,28,29,30,31,32,33,34,35,36] (fun i : Nat=>[(8,i64 i)]) (fun _=>[.box [.sl f1 false (R.map flA),i64 m]]) (fun i=>i ≤ R.length ∧ v8 n v R 1 = v8 n v (R.drop i) (i + 1)) (fun i=>R.length - i) 0 ⟨Nat.zero_le _,rfl⟩ ?_ rfl ?_
 ·(refine ⟨⟨_,sT,?_⟩,trivial⟩<;>(try (first|exact zh)))
 ·rintro i ⟨hi, hk⟩
  simp only [yn,List.map_cons,List.map_nil,List.cons_append,List.nil_append]
  by_cases hlt : i < R.length
  ·obtain ⟨x, hx⟩ := yy hlt
   rw [yJ hx,v8] at hk
   by_cases hn : x.n = n
   ·by_cases hv : x.v = v
    ·rw [if_pos ⟨hn, hv⟩] at hk
     obtain ⟨e1,e2⟩:=zlT hk (by omega)
     have hU:=And.intro @hn (@hv)
     repeat' (first|(refine goR ?_)|(refine za (fun K hK=>?_))|((refine zb (fun hcd=>?_) (fun hcd=>?_))<;>(try simp only [hcP] at hcd)<;>(try exact cdT))|((refine ze [] (by rw [Tryz.results209,Lf.yb]) (zu ?_ ?_) ?_)<;>(try (first|exact zh|exact stT)))|(refine hK _ _ ?_;clear hK K))
     all_goals first|exact zT e1.symm|exact zq e2.symm
    ·rw [if_neg (by simp [hv])] at hk
     have hU:=And.intro @hn (@hv)
     repeat' (first|(refine goR ?_)|(refine za (fun K hK=>?_))|((refine zb (fun hcd=>?_) (fun hcd=>?_))<;>(try simp only [hcP] at hcd)<;>(try exact cdT))|(refine hK _ _ ?_;clear hK K))
     refine ⟨i + 1,⟨by omega,hk⟩,by omega,?_,arT,srT⟩
     (refine ⟨⟨_,sT,?_⟩,trivial⟩<;>(try (first|exact zh)))
   ·rw [if_neg (by simp [hn])] at hk
    have hU:=@hn
    repeat' (first|(refine goR ?_)|(refine za (fun K hK=>?_))|((refine zb (fun hcd=>?_) (fun hcd=>?_))<;>(try simp only [hcP] at hcd)<;>(try exact cdT))|(refine hK _ _ ?_;clear hK K))
    refine ⟨i + 1,⟨by omega,hk⟩,by omega,?_,arT,srT⟩
    (refine ⟨⟨_,sT,?_⟩,trivial⟩<;>(try (first|exact zh)))
  ·have hm : v8 n v R 1 = 0 := by rw [hk, List.drop_eq_nil_of_le (by omega), v8]
   repeat' (first|(refine goR ?_)|(refine za (fun K hK=>?_))|((refine zb (fun hcd=>?_) (fun hcd=>?_))<;>(try simp only [hcP] at hcd)<;>(try exact cdT))|(refine hK _ _ ?_;clear hK K)|(apply_assumption (exfalso:=false) (symm:=false)))
   refine zo [6,7,9,37,38,39,40,41,42,43,44,45,46,47,48,49,50,51,52,53] (fun i : Nat=>[(9,i64 i)]) (fun _=>[.box [.sl f1 false (R.map flA),i64 m]]) (fun i=>i ≤ R.length ∧ yA n R 1 = yA n (R.drop i) (i + 1)) (fun i=>R.length - i) 0 ⟨Nat.zero_le _,rfl⟩ ?_ rfl ?_
   ·(refine ⟨⟨_,sT,?_⟩,trivial⟩<;>(try (first|exact zh)))
   ·rintro i ⟨hi, hk⟩
    simp only [yn,List.map_cons,List.map_nil,List.cons_append,List.nil_append]
    by_cases hlt : i < R.length
    ·obtain ⟨x, hx⟩ := yy hlt
     rw [yJ hx,yA] at hk
     by_cases hn : x.n = n
     ·rw [if_pos hn] at hk
      obtain ⟨e1,e2⟩:=zed hm hk
      have hU:=@hn
      repeat' (first|(refine goR ?_)|(refine za (fun K hK=>?_))|((refine zb (fun hcd=>?_) (fun hcd=>?_))<;>(try simp only [hcP] at hcd)<;>(try exact cdT))|((refine ze [] (by rw [Tryz.results209,Lf.yb]) (zu ?_ ?_) ?_)<;>(try (first|exact zh|exact stT)))|(refine hK _ _ ?_;clear hK K))
      all_goals first|exact zT e1.symm|exact zq e2.symm
     ·rw [if_neg hn] at hk
      have hU:=@hn
      repeat' (first|(refine goR ?_)|(refine za (fun K hK=>?_))|((refine zb (fun hcd=>?_) (fun hcd=>?_))<;>(try simp only [hcP] at hcd)<;>(try exact cdT))|(refine hK _ _ ?_;clear hK K))
      refine ⟨i + 1,⟨by omega,hk⟩,by omega,?_,arT,srT⟩
      (refine ⟨⟨_,sT,?_⟩,trivial⟩<;>(try (first|exact zh)))
    ·have h0 : yA n R 1 = 0 := by rw [hk, List.drop_eq_nil_of_le (by omega), yA]
     obtain ⟨e1,e2⟩:=zed hm h0
     repeat' (first|(refine goR ?_)|(refine za (fun K hK=>?_))|((refine zb (fun hcd=>?_) (fun hcd=>?_))<;>(try simp only [hcP] at hcd)<;>(try exact cdT))|((refine ze [] (by rw [Tryz.results209,Lf.yb]) (zu ?_ ?_) ?_)<;>(try (first|exact zh|exact stT)))|(refine hK _ _ ?_;clear hK K)|(apply_assumption (exfalso:=false) (symm:=false)))
     all_goals first|exact zT e1.symm|exact zq e2.symm
structure Dd where
 (f : Fl) (z : Int)
@[go_sem] def ddA (d : Dd) : List AV:=[.lit (.string d.f.n),.lit (.string d.f.v),bl d.f.k,i64 d.z]
@[go_sem] theorem zte {κ : List Nat} {σ : Sto} (l : List Dd) : List.map (fzl κ σ) (l.map ddA) = l.map ddA:=vo (fun _=>rfl) l
def addX (xs : List Fl) (m : Int) (f : Fl) : List Fl:=keptL xs (m - wt f) ++ [flN f]
theorem znZ (xs : List Fl) (m : Int) (f : Fl) : keptL xs (m - wt f) ++ [flN f] = addX xs m f:=rfl
theorem zkx (xs : List Fl) (m : Int) (f : Fl) : (addX xs m f).length ≤ xs.length + 1:=by
 have:=jx (m - wt f) xs
 unfold addX
 rw [List.length_append,List.length_singleton];omega
theorem zky {xs : List Fl} {m : Int} {f : Fl} (h : wt f ≤ m) : zO (addX xs m f) ≤ m:=by
 have:=ko (m - wt f) (by omega) xs
 unfold addX
 rw [jv]
 simp only [zO,zuH];omega
def snI (S : List Int) (n : Int) : List Int:=S ++ [n]
def snF (F : List Fl) (f : Fl) : List Fl:=F ++ [f]
def zn0 (f : Fl) : List Fl:=[f]
def stF (i : Int) : Fl:=⟨(vh i).1,(vh i).2,false⟩
def dAt (xs : List Fl) (i : Int) : Option Fl:=if i ≤ 61 then (if 1 ≤ i then some (stF i) else none) else xs.reverse[(i - 61).toNat - 1]?
attribute [local irreducible] wt zO keptL flN addX vh zn0 snI snF
theorem zgc (xs : List Fl) (s : Nat) (m : Int) (n v : ByteArray) (k : Bool) (h : xs.length ≤ 100000) (hS : zO xs ≤ 4000000000) (hb : ∀ f ∈ xs,f.n.size ≤ 1000000000 ∧ f.v.size ≤ 1000000000) (h1 : n.size ≤ 1000000000) (h2 : v.size ≤ 1000000000) (h3 : 0 ≤ m) (h4 : m < wt ⟨n,v,k⟩) : AEq Tryz.prog 204 [.ptr 0 0,.ag [.lit (.string n),.lit (.string v),.lit (.bool k)]] [.box [.row 1 s,i64 (zO xs),i64 m],.row s 103 3 (xs.map flA)] (.tu []) [.box [.row 1 (s + 1),i64 (zO xsE),i64 m],.row (s + 1) 103 3 (xsE.map flA)]:=zhX xs s m ⟨n,v,k⟩ h hS hb h1 h2 h3 h4
end Go.Proofs.YtdalcgfnlbofdaaGreatDoor
namespace Go.Proofs.YtdalcgfnlbofdaaGreatDoor
open Go Go.Lf Go.Proofs
attribute [local irreducible] Lf.rg Lf.ro Lf.PWp Lf.SOp Lf.ACall Lf.Scoped Lf.dg Lf.dw
set_option maxRecDepth 20000
set_option maxHeartbeats 4000000
attribute [local irreducible] wt zO keptL flN addX vh zn0 snI snF dAt xsE
end Go.Proofs.YtdalcgfnlbofdaaGreatDoor
namespace Go.Proofs.YtdalcgfnlbofdaaGreatDoor
open Go Go.Lf Go.Proofs
attribute [local irreducible] Lf.rg Lf.ro Lf.PWp Lf.SOp Lf.ACall Lf.Scoped Lf.dg
set_option maxRecDepth 20000
set_option maxHeartbeats 4000000
structure DT where
 (xs : List Fl) (s : Nat) (m : Int)
structure DQ where
 (F : List Fl) (S : List Int) (t : DT)
def fG (xs : List Fl) (r : Rp) : Option Fl:=if r.i = 0 then some ⟨⟨r.nm.toArray⟩,⟨#[]⟩,false⟩ else dAt xs r.i
def fV (r : Rp) (g : Fl) : Fl:=if r.k = 1 then g else ⟨g.n,⟨r.vl.toArray⟩,decide (r.k = 4)⟩
def zgd (t : DT) (f : Fl) : DT:=if wt f ≤ t.m then ⟨addX t.xs t.m f,t.s + 2,t.m⟩ else ⟨xsE,t.s + 1,t.m⟩
def zkz (q : DQ) (r : Rp) : DQ × Int:=
 if r.k = 5 then (if 0 < q.F.length then (q,13) else (⟨q.F,snI q.S r.sz,⟨keptL q.t.xs r.sz,q.t.s + 1,r.sz⟩⟩,0))
 else match fG q.t.xs r with
  | none=>(q,12)
  | some g=>(⟨snF q.F (fV r g),q.S,if r.k = 2 then zgd q.t (fV r g) else q.t⟩,0)
def zv2 : Nat → List UInt8 → DQ → DQ × Int
 | 0,_,q=>(q,0)
 | n + 1,b,q=>if b.length = 0 then (q,0) else if (rgM b).e ≠ 0 then (q,(rgM b).e) else if (zkz q (rgM b)).2 ≠ 0 then zkz q (rgM b) else zv2 n (b.drop (rgM b).n.toNat) (zkz q (rgM b)).1
end Go.Proofs.YtdalcgfnlbofdaaGreatDoor
