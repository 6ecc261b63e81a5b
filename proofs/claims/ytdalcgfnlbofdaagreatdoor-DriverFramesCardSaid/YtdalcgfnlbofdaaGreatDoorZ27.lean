import Derived.Test.YtdalcgfnlbofdaaGreatDoorTg
import Derived.Test.YtdalcgfnlbofdaaGreatDoorZ26
import Derived.Test.YtdalcgfnlbofdaaGreatDoorLc
set_option linter.unusedVariables false
set_option linter.unusedSimpArgs false
namespace Go.Proofs.YtdalcgfnlbofdaaGreatDoor
open Go Go.Lf Go.Proofs
attribute [local irreducible] Lf.rg Lf.ro Lf.PWp Lf.SOp Lf.ACall Lf.Scoped Lf.dg Lf.dw
set_option maxRecDepth 20000
set_option maxHeartbeats 4000000
def jj (w t g st p : Int) (d : List UInt8) (e : List (Int × Int)) (wt pa : Int) (al : Bool) (pr la co sp : Int) : Prop:=
 wrW t g p e wt pa pr la co sp = false ∧ (w = 0 ∨ w = 1) ∧ kK ⟨(wrB t g p d e wt pa al pr la co sp).length,t,g,st,false⟩ ∧ y9 t g st (wrB t g p d e wt pa al pr la co sp) = (0,0) ∧ (⟨t,g,st,p,d,e,wt,pa,al,pr,la,co,sp⟩ : Gm) = gm (rfM t g st (wrB t g p d e wt pa al pr la co sp))
theorem ziY (t g p : Int) (d : List UInt8) (e : List (Int × Int)) (wt pa : Int) (al : Bool) (pr la co sp : Int) (hw : wrW t g p e wt pa pr la co sp = false) : (wrB t g p d e wt pa al pr la co sp).length ≤ 1000 + d.length + 6 * e.length:=by
 have hn:=ziT t g e wt pa al pr la co sp
 obtain ⟨hc,_⟩:=zfF t g p e wt pa pr la co sp hw
 have h5:=zaB p
 unfold wrB eB
 rcases hc with ⟨h8,hp⟩|h8
 ·obtain ⟨hp0, hp1⟩ := jD (by decide) (by decide) hp
  have ht1 : p ≤ 255:=hp1
  rw [if_pos h8]
  simp only [List.length_append,List.length_replicate,List.length_nil]
  omega
 ·rw [if_neg (by rw [h8]; simp)]
  simp only [List.length_append,List.length_nil]
  omega
theorem zlb (b : List UInt8) : 0 ≤ zJ b 1 ∧ zJ b 1 ≤ 255:=by
 refine ⟨(vc b 1).1,?_⟩
 cases b with
 | nil=>unfold zJ;rw [if_neg (by simp)];decide
 | cons x l=>
  have:=zcI (x :: l) 0 x rfl
  rw [List.drop_zero] at this
  rw [this]
  have:=UInt8.toNat_lt x
  omega
theorem zoO {m : Int} (h0 : 0 ≤ m) (h1 : m < 4294967296) : 0 ≤ yB m ∧ yB m < 2147483648:=by unfold yB;split<;>omega
theorem zoP (t g : Int) (b : List UInt8) (a : Int) : (0 ≤ (zR t g b a).wt ∧ (zR t g b a).wt ≤ 255) ∧ (0 ≤ (zR t g b a).pa ∧ (zR t g b a).pa < 2147483648) ∧ (0 ≤ (zR t g b a).pr ∧ (zR t g b a).pr < 2147483648) ∧ (0 ≤ (zR t g b a).la ∧ (zR t g b a).la < 2147483648) ∧ (0 ≤ (zR t g b a).co ∧ (zR t g b a).co ≤ 4294967295) ∧ (0 ≤ (zR t g b a).sp ∧ (zR t g b a).sp < 2147483648):=by
 have hg : ∀ (c : List UInt8),0 ≤ zJ c 4 ∧ zJ c 4 ≤ 4294967295:=fun c=>by have:=vc c 4;omega
 have hl : ∀ (c : List UInt8),0 ≤ yB (zJ c 4) ∧ yB (zJ c 4) < 2147483648:=fun c=>zoO (vc c 4).1 (vc c 4).2
 have hz : (0 : Int) ≤ 0 ∧ (0 : Int) < 2147483648:=by decide
 have hz2 : (0 : Int) ≤ 0 ∧ (0 : Int) ≤ 255:=by decide
 have hz3 : (0 : Int) ≤ 0 ∧ (0 : Int) ≤ 4294967295:=by decide
 unfold zR
 repeat' split
 all_goals (refine ⟨?_,?_,?_,?_,?_,?_⟩<;>first|exact hz|exact hz2|exact hz3|exact zlb _|exact hl _|exact hg _)
theorem zoQ (t g s : Int) (b : List UInt8) : (0 ≤ (yq t g s b).1.wt ∧ (yq t g s b).1.wt ≤ 255) ∧ (0 ≤ (yq t g s b).1.pa ∧ (yq t g s b).1.pa < 2147483648) ∧ (0 ≤ (yq t g s b).1.pr ∧ (yq t g s b).1.pr < 2147483648) ∧ (0 ≤ (yq t g s b).1.la ∧ (yq t g s b).1.la < 2147483648) ∧ (0 ≤ (yq t g s b).1.co ∧ (yq t g s b).1.co ≤ 4294967295) ∧ (0 ≤ (yq t g s b).1.sp ∧ (yq t g s b).1.sp < 2147483648):=by
 have hn:=zoP t g b (yL t g b)
 have h0 : (0 ≤ fm0.wt ∧ fm0.wt ≤ 255) ∧ (0 ≤ fm0.pa ∧ fm0.pa < 2147483648) ∧ (0 ≤ fm0.pr ∧ fm0.pr < 2147483648) ∧ (0 ≤ fm0.la ∧ fm0.la < 2147483648) ∧ (0 ≤ fm0.co ∧ fm0.co ≤ 4294967295) ∧ (0 ≤ fm0.sp ∧ fm0.sp < 2147483648):=by decide
 unfold yq zbe
 dsimp only
 repeat' split
 all_goals first|exact h0|exact hn
theorem zab {n : Int} (h : 0 ≤ n ∧ n < 2147483648) : loK n = true:=decide_eq_true h
theorem zcO {n : Int} (h : 0 ≤ n ∧ n ≤ 255) : okN n 1 = true:=ziS (vb n 1 (by decide) (by decide) h.1 (by rw [zv8];exact h.2))
theorem zex {n : Int} (h : 0 ≤ n ∧ n ≤ 4294967295) : okN n 4 = true:=ziS (vb n 4 (by decide) (by decide) h.1 (by rw [ziw];exact h.2))
theorem zvb {w t g st p : Int} {d : List UInt8} {e : List (Int × Int)} {wt pa : Int} {al : Bool} {pr la co sp : Int} (h : jj w t g st p d e wt pa al pr la co sp) : rbW t g p e wt pa pr la co sp = false:=by
 obtain ⟨hw,_,hk,hf,he⟩:=h
 have hp:=(zbT hf).2
 rw [← hp] at he
 obtain ⟨b1,b2,b3,b4,b5,b6⟩:=zoQ t g st (wrB t g p d e wt pa al pr la co sp)
 have e1 : wt = _:=congrArg Gm.wt he
 have e2 : pa = _:=congrArg Gm.pa he
 have e3 : pr = _:=congrArg Gm.pr he
 have e4 : la = _:=congrArg Gm.la he
 have e5 : co = _:=congrArg Gm.co he
 have e6 : sp = _:=congrArg Gm.sp he
 have k1 : okN wt 1 = true:=zcO (by rw [e1];exact b1)
 have k2 : loK pa = true:=zab (by rw [e2];exact b2)
 have k3 : loK pr = true:=zab (by rw [e3];exact b3)
 have k4 : loK la = true:=zab (by rw [e4];exact b4)
 have k5 : okN co 4 = true:=zex (by rw [e5];exact b5)
 have k6 : loK sp = true:=zab (by rw [e6];exact b6)
 unfold wrW at hw
 rw [Bool.or_eq_false_iff] at hw
 obtain ⟨h1,h2⟩:=hw
 unfold rbW
 rw [k1,k2,k3,k4,k5,k6,h1]
 by_cases h4 : t = 4
 ·subst h4
  unfold nuW at h2
  rw [if_neg (by decide),if_neg (by decide),if_neg (by decide),if_neg (by decide),if_neg (by decide),if_neg (by decide),if_pos rfl] at h2
  rw [h2];simp
 ·rw [decide_eq_false h4];simp
theorem ziZ (t g st p : Int) (fd : Bool) (d : List UInt8) (fs : Bool) (e : List (Int × Int)) (wt pa : Int) (al : Bool) (pr la co sp : Int) (w : Int) (hd : d.length ≤ 900000) (hl : e.length ≤ 10000) (hg1 : g ≤ 9223372036854775807) (hem : jj w t g st p d e wt pa al pr la co sp) : AEq Tryz.prog 38 [.ag [i64 t,i64 g,i64 st,i64 p,.sl fd false (d.map zf),.sl fs false (e.map zV),i64 wt,i64 pa,bl al,i64 pr,i64 la,i64 co,i64 sp],i64 w] [] (.tu [.ag [i64 w,i64 t,i64 g,i64 st,bl false,.sl false false ((wrB t g p d e wt pa al pr la co sp).map zf)],i64 0]) []:=by
 obtain ⟨hw,hww,hok,hf,he⟩:=hem
 have hwl:=ziY t g p d e wt pa al pr la co sp hw
 generalize hB : (wrB t g p d e wt pa al pr la co sp) = B at hok hf he hwl ⊢
 have hz:=(zbT hf).1
 obtain ⟨hz1,hz2⟩:=zfD t g st B
 have hz3 : (yq t g st B).1.d.length ≤ 1000000000:=by omega
 have hz4 : (yq t g st B).1.st.length ≤ 1000000:=by omega
 have hsm : decide ((⟨t,g,st,p,d,e,wt,pa,al,pr,la,co,sp⟩ : Gm) = (⟨((yq t g st B).1).t,((yq t g st B).1).g,((yq t g st B).1).s,((yq t g st B).1).p,((yq t g st B).1).d,((yq t g st B).1).st,((yq t g st B).1).wt,((yq t g st B).1).pa,((yq t g st B).1).al,((yq t g st B).1).pr,((yq t g st B).1).la,((yq t g st B).1).co,((yq t g st B).1).sp⟩ : Gm)) = true:=decide_eq_true (he.trans (zbT hf).2.symm)
 rcases hww with rfl|rfl
 all_goals (refine zc Tryz.func38 rfl Tryz.ntmps38 (by simp) (fun hsc=>?_);simp only [Lf.enter,Nat.reduceAdd];clear hsc)
 all_goals (have hU:=And.intro @hB ( And.intro @hz (@hsm)))
 all_goals (repeat' (first|(refine goR ?_)|(refine za (fun K hK=>?_))|((refine zb (fun hcd=>?_) (fun hcd=>?_))<;>(try simp only [hcP] at hcd)<;>(try exact cdT))|(guard_target =~ SOp _ _ ⟨_,.binOp _ _ _ _ _,_,_,_,some _⟩ _ _ _;refine zZ (ne:=true) rfl (by first|exact zbi|exact zar|exact zbj|exact jR|fail) (hc:=rfl) (hK:=?_))|(refine zd (f:=70) rfl Tryz.call70 (h:=AEq.pure' agT (zr9 _ _ _ _ _ _ _ _ _ _ _ _ _ _ _ _ _ _ _ _ _ _ _ _ _ _ _ _ _ _ aoT aoT) (hq:=?_)))|(refine zd (f:=18) rfl Tryz.call18 (h:=AEq.pure' agT (ya _ _ _ _ _ _ _ aoT aoT) (hq:=?_)))|(guard_target =~ SOp _ _ ⟨_,.binOp _ _ _ _ _,_,_,_,none⟩ _ _ _;refine zZ (ne:=true) rfl (by first|exact zbi|exact zar|exact zbj|exact jR|fail) (hc:=rfl) (hK:=?_))|(refine zd (f:=82) rfl Tryz.call82 (h:=AEq.pure' agT (zva _ _ _ _ _ _ _ _ _ _ _ _ _ _ _ _ aoT aoT aoT aoT) (hq:=?_)))|((refine zY [] exT (by rfl) (by rw [Tryz.results38];exact Lf.jP roT roT) sT sT (zu ?_ ?_) ?_)<;>(try (first|exact zh|exact stT)))|(refine hK _ _ ?_;clear hK K)))
theorem zi0 (t g st p : Int) (fd : Bool) (d : List UInt8) (fs : Bool) (e : List (Int × Int)) (wt pa : Int) (al : Bool) (pr la co sp : Int) (w : Int) (hd : d.length ≤ 900000) (hl : e.length ≤ 10000) (hg1 : g ≤ 9223372036854775807) (hem : jj w t g st p d e wt pa al pr la co sp) : AEq Tryz.prog 40 [.ag [i64 t,i64 g,i64 st,i64 p,.sl fd false (d.map zf),.sl fs false (e.map zV),i64 wt,i64 pa,bl al,i64 pr,i64 la,i64 co,i64 sp],i64 w] [] (.tu [.ag [i64 w,i64 t,i64 g,i64 st,bl false,.sl false false ((wrB t g p d e wt pa al pr la co sp).map zf)],bl true]) []:=by
 have hrb:=zvb hem
 obtain ⟨hw,hww,hok,hf,he⟩:=hem
 have hwl:=ziY t g p d e wt pa al pr la co sp hw
 generalize hB : (wrB t g p d e wt pa al pr la co sp) = B at hok hf he hwl ⊢
 have hd0 : decide (kK ⟨B.length,t,g,st,false⟩) = true:=decide_eq_true hok
 have hog:=hok
 obtain ⟨_,_,_,_,hg0,hg2,_,_⟩:=hog
 dsimp only at hg0 hg2
 have hg3 : g < 256:=by omega
 have hz : rfR t g st B = rfM t g st B:=if_pos hf
 obtain ⟨hz1,hz2⟩:=zfD t g st B
 have hpg:=(zbT hf).2
 have hz3 : (rfM t g st B).d.length ≤ 1000000000:=by rw [← show (yq t g st B).1.d = (rfM t g st B).d from congrArg Gm.d hpg];omega
 have hz4 : (rfM t g st B).st.length ≤ 1000000:=by rw [← show (yq t g st B).1.st = (rfM t g st B).st from congrArg Gm.st hpg];omega
 have hsm : decide ((⟨t,g,st,p,d,e,wt,pa,al,pr,la,co,sp⟩ : Gm) = (⟨(rfM t g st B).t,(rfM t g st B).g,(rfM t g st B).s,(rfM t g st B).p,(rfM t g st B).d,(rfM t g st B).st,(rfM t g st B).wt,(rfM t g st B).pa,(rfM t g st B).al,(rfM t g st B).pr,(rfM t g st B).la,(rfM t g st B).co,(rfM t g st B).sp⟩ : Gm)) = true:=decide_eq_true he
 rcases hww with rfl|rfl
 all_goals (refine zc Tryz.func40 rfl Tryz.ntmps40 (by simp) (fun hsc=>?_);simp only [Lf.enter,Nat.reduceAdd];clear hsc)
 all_goals (have hU:=And.intro @hB ( And.intro @hd0 ( And.intro @hf ( And.intro @hz (@hsm)))))
 all_goals (repeat' (first|(refine goR ?_)|(refine za (fun K hK=>?_))|((refine zb (fun hcd=>?_) (fun hcd=>?_))<;>(try simp only [hcP] at hcd)<;>(try exact cdT))|(refine zd (f:=63) rfl Tryz.call63 (h:=AEq.pure' agT (zoH _ _ _ _ _ _ _ aoT aoT aoT) (hq:=?_)))|(refine zd (f:=62) rfl Tryz.call62 (h:=AEq.pure' agT (zoB _ _ _ _ _ _ _ aoT) (hq:=?_)))|(refine zd (f:=85) rfl Tryz.call85 (h:=AEq.pure' agT (zoN _ _ _ _ _ _ _ _ _ _ _ _ _ _ _ aoT aoT aoT aoT) (hq:=?_)))|(refine zd (f:=72) rfl Tryz.call72 (h:=AEq.pure' agT (zoF _ _ _ _ _ _ _ _ _ _ _ _ _ _ _ _ _ _ _ _ _ _ _ _ _ _ _ _ _ _ aoT aoT) (hq:=?_)))|((refine zY [] exT (by rfl) (by rw [Tryz.results40];exact Lf.jP roT roT) sT sT (zu ?_ ?_) ?_)<;>(try (first|exact zh|exact stT)))|(refine hK _ _ ?_;clear hK K)))
/-! What is written is read again. -/
theorem zsf {α : Type} {l : List α} {i : Nat} (h : i < l.length) : ∃ x,l[i]? = some x:=⟨l[i],List.getElem?_eq_getElem h⟩
theorem zlc {α : Type} {l : List α} {i : Nat} {x : α} (h : l[i]? = some x) : l.drop i = x :: l.drop (i + 1):=by
 obtain ⟨h1,h2⟩:=List.getElem?_eq_some_iff.1 h
 rw [List.drop_eq_getElem_cons h1,h2]
theorem zgp {α : Type} {l : List α} {i : Nat} {x : α} (h : l[i]? = some x) : l.take (i + 1) = l.take i ++ [x]:=by
 rw [List.take_add_one,h];rfl
theorem vt (n : Int) (k : Nat) (r : List UInt8) (h0 : 1 ≤ k) (h4 : k ≤ 4) (h : yl n k = 0) : zJ (beB n k ++ r) k = n:=by
 have hb:=jD (by omega) (by omega) h
 rw [jU _ (by omega) (by omega)] at hb
 unfold zJ
 rw [if_pos ⟨yg (by omega),by rw [List.length_append,zM];omega⟩,show ((k : Int)).toNat = k from by omega,List.take_left' (zM n k),zfu n hb.1]
 rw [show ((k : Int)).toNat = k from by omega] at hb
 exact Int.emod_eq_of_lt hb.1 (by omega)
theorem zoR (P X : List UInt8) : (P ++ X).drop ((P.length : Int)).toNat = X:=by
 rw [show ((P.length : Int)).toNat = P.length from by omega,List.drop_left]
theorem zvc {n : Int} (h : 0 ≤ n ∧ n < 2147483648) : yl n 4 = 0:=vb n 4 (by decide) (by decide) h.1 (by rw [ziw];omega)
theorem zsg {n : Int} (h : 0 ≤ n ∧ n < 2147483648) : yl (n + 2147483648) 4 = 0:=vb _ 4 (by decide) (by decide) (by omega) (by rw [ziw];omega)
theorem zi1 {n : Int} (h : 0 ≤ n ∧ n ≤ 4294967295) : yl n 4 = 0:=vb n 4 (by decide) (by decide) h.1 (by rw [ziw];omega)
theorem zoS {n : Int} (h : 0 ≤ n ∧ n ≤ 255) : yl n 1 = 0:=vb n 1 (by decide) (by decide) h.1 (by rw [zv8];omega)
theorem zsh {n : Int} (b : Bool) (r : List UInt8) (h : 0 ≤ n ∧ n < 2147483648) : zJ (loB n b ++ r) 4 = hdS n b:=by
 rw [zse b (zab h)]
 cases b
 ·rw [zkX];exact vt n 4 r (by decide) (by decide) (zvc h)
 ·rw [zkW];exact vt _ 4 r (by decide) (by decide) (zsg h)
theorem zmr {n : Int} (b : Bool) (h : 0 ≤ n ∧ n < 2147483648) : yB (hdS n b) = n ∧ hiN (hdS n b) = b:=by
 cases b
 ·rw [zkX];exact ⟨if_pos h.2,decide_eq_false (by omega)⟩
 ·rw [zkW]
  refine ⟨?_,decide_eq_true (by omega)⟩
  unfold yB;rw [if_neg (by omega)];omega
theorem ztk {b P R : List UInt8} {n : Int} {h : Bool} (hb : b = P ++ (loB n h ++ R)) (hn : 0 ≤ n ∧ n < 2147483648) : zJ (b.drop ((P.length : Int)).toNat) 4 = hdS n h ∧ yB (zJ (b.drop ((P.length : Int)).toNat) 4) = n ∧ hiN (zJ (b.drop ((P.length : Int)).toNat) 4) = h ∧ shB b P.length 4 = false ∧ yh b P.length 4 = P.length + 4:=by
 have hl : b.length = P.length + (4 + R.length):=by rw [hb,List.length_append,List.length_append,zW]
 have hg : zJ (b.drop ((P.length : Int)).toNat) 4 = hdS n h:=by rw [hb,zoR];exact zsh h R hn
 rw [hg]
 exact ⟨rfl,(zmr h hn).1,(zmr h hn).2,decide_eq_false (by omega),if_pos (by omega)⟩
theorem zwc {b P R : List UInt8} {n : Int} (hb : b = P ++ (beB n 4 ++ R)) (hn : 0 ≤ n ∧ n ≤ 4294967295) : zJ (b.drop ((P.length : Int)).toNat) 4 = n ∧ shB b P.length 4 = false ∧ yh b P.length 4 = P.length + 4:=by
 have hl : b.length = P.length + (4 + R.length):=by rw [hb,List.length_append,List.length_append,zM]
 refine ⟨by rw [hb,zoR];exact vt n 4 R (by decide) (by decide) (zi1 hn),decide_eq_false (by omega),if_pos (by omega)⟩
theorem zAW {b P R : List UInt8} {n : Int} (hb : b = P ++ (beB n 1 ++ R)) (hn : 0 ≤ n ∧ n ≤ 255) : zJ (b.drop ((P.length : Int)).toNat) 1 = n ∧ yh b P.length 1 = P.length + 1:=by
 have hl : b.length = P.length + (1 + R.length):=by rw [hb,List.length_append,List.length_append,zM]
 exact ⟨by rw [hb,zoR];exact vt n 1 R (by decide) (by decide) (zoS hn),if_pos (by omega)⟩
theorem zi2 (s : Int × Int) (r : List UInt8) (h : zcH s) : zov (zis s ++ r) = s:=by
 obtain ⟨h1,h2⟩:=h
 have e : zis s ++ r = beB s.1 2 ++ (beB s.2 4 ++ r):=by rw [zis,List.append_assoc]
 have ed : (zis s ++ r).drop 2 = beB s.2 4 ++ r:=by rw [e,List.drop_left' (zM s.1 2)]
 unfold zov
 rw [ed,e]
 have a:=vt s.1 2 (beB s.2 4 ++ r) (by decide) (by decide) h1
 have b:=vt s.2 4 r (by decide) (by decide) h2
 have a' : zJ (beB s.1 2 ++ (beB s.2 4 ++ r)) 2 = s.1:=a
 have b' : zJ (beB s.2 4 ++ r) 4 = s.2:=b
 rw [a',b']
theorem zoT (l : List (Int × Int)) (h : spE l = 0) : ∀ s ∈ l,zcH s:=by
 induction l with
 | nil=>intro s hs;simp at hs
 | cons t l ih=>
  have h1' : (if zcH t then spE l else 5) = 0:=h
  split at h1'
  ·rename_i ht
   intro s hs
   simp only [List.mem_cons] at hs
   rcases hs with rfl|hs
   ·exact ht
   ·exact ih h1' s hs
  ·cases h1'
theorem zoU (l : List (Int × Int)) (h : ∀ s ∈ l,zcH s) (k : Nat) (hk : k ≤ l.length) : zgw (spF l) k = l.take k:=by
 induction k with
 | zero=>rfl
 | succ k ih=>
  obtain ⟨s,hs⟩:=zsf (l:=l) (i:=k) (by omega)
  have hd : (spF l).drop (6 * k) = zis s ++ spF (l.drop (k + 1)):=by
   have e : l = l.take k ++ s :: l.drop (k + 1):=by rw [← zlc hs,List.take_append_drop]
   have e2 : spF l = spF (l.take k) ++ (zis s ++ spF (l.drop (k + 1))):=by
    conv=>lhs;rw [e]
    simp [spF]
   rw [e2,List.drop_left' (by rw [jV,List.length_take];omega)]
  show zgw (spF l) k ++ [zov ((spF l).drop (6 * k))] = _
  rw [ih (by omega),hd,zi2 s _ (h s (List.mem_of_getElem? hs)),zgp hs]
theorem zld (l : List (Int × Int)) (h : spE l = 0) : zeq (spB l) = l ∧ zmh (spB l) = 0:=by
 have e : spB l = spF l:=if_pos h
 have hl:=jV l
 rw [e]
 unfold zeq zmh
 rw [if_pos (by omega),if_pos (by omega),hl,show 6 * l.length / 6 = l.length from by omega,zoU l (zoT l h) _ (Nat.le_refl _),List.take_length]
 exact ⟨rfl,rfl⟩
structure Can (t g s p : Int) (d : List UInt8) (e : List (Int × Int)) (wt pa : Int) (al : Bool) (pr la co sp : Int) : Prop where
 g0 : 0 ≤ g
 g1 : g < 256
 st : vj t s = true
 pad : (zB t g 8 = true ∧ 0 ≤ p ∧ p ≤ 255) ∨ (zB t g 8 = false ∧ p = -1)
 de : (t = 4 ∧ d = [] ∧ spE e = 0) ∨ (¬ t = 4 ∧ e = [])
 wg : (((t = 1 ∧ zB 1 g 32 = true) ∨ t = 2) ∧ (0 ≤ pa ∧ pa < 2147483648) ∧ (0 ≤ wt ∧ wt ≤ 255)) ∨ (¬ ((t = 1 ∧ zB 1 g 32 = true) ∨ t = 2) ∧ pa = 0 ∧ wt = 0 ∧ al = false)
 hpr : (t = 5 ∧ 0 ≤ pr ∧ pr < 2147483648) ∨ (¬ t = 5 ∧ pr = 0)
 hla : (t = 7 ∧ 0 ≤ la ∧ la < 2147483648) ∨ (¬ t = 7 ∧ la = 0)
 hco : ((t = 3 ∨ t = 7) ∧ 0 ≤ co ∧ co ≤ 4294967295) ∨ (¬ (t = 3 ∨ t = 7) ∧ co = 0)
 hsp : (t = 8 ∧ 0 ≤ sp ∧ sp < 2147483648) ∨ (¬ t = 8 ∧ sp = 0)
theorem zms {t g s p : Int} {d : List UInt8} {e : List (Int × Int)} {wt pa : Int} {al : Bool} {pr la co sp : Int} (h : Can t g s p d e wt pa al pr la co sp) {b P R : List UInt8} (hb : b = P ++ (nuB t g e wt pa al pr la co sp ++ R)) :
    zR t g b P.length = ⟨wt,pa,al,pr,la,co,sp,false,if t = 4 then P.length else P.length + (nuB t g e wt pa al pr la co sp).length⟩:=by
  obtain ⟨g0,g1,hst,hpad,hde,hwg,hpr,hla,hco,hsp⟩:=h
  have key : ∀ (c : t = 1 ∧ zB 1 g 32 = true ∨ t = 2),(0 ≤ pa ∧ pa < 2147483648) ∧ (0 ≤ wt ∧ wt ≤ 255):=fun c=>by
    rcases hwg with ⟨_,a,b⟩|⟨n,_⟩
    · exact ⟨a,b⟩
    · exact absurd c n
  have wgh : ∀ {b P R : List UInt8},(0 ≤ pa ∧ pa < 2147483648) → (0 ≤ wt ∧ wt ≤ 255) → b = P ++ (wgB pa al wt ++ R) → zJ (b.drop (yh b P.length 4).toNat) 1 = wt ∧ yB (zJ (b.drop ((P.length : Int)).toNat) 4) = pa ∧ hiN (zJ (b.drop ((P.length : Int)).toNat) 4) = al ∧ shB b P.length 5 = false ∧ yh b (yh b P.length 4) 1 = P.length + 5 ∧ (wgB pa al wt).length = 5:=by
    intro b P R hpa hwt hb
    have hw : wgB pa al wt = loB pa al ++ beB wt 1:=by unfold wgB;rw [zeu (zoS hwt)];rfl
    rw [hw,List.append_assoc] at hb
    obtain ⟨_,a2,a3,a4,a5⟩:=ztk hb hpa
    have hb2 : b = (P ++ loB pa al) ++ (beB wt 1 ++ R):=by rw [hb];simp
    have hl2 : ((P ++ loB pa al).length : Int) = P.length + 4:=by rw [List.length_append,zW];rfl
    obtain ⟨c1,c2⟩:=zAW hb2 hwt
    rw [hl2] at c1 c2
    have hl : b.length = P.length + (4 + (1 + R.length)):=by rw [hb];simp [zW,zM]
    refine ⟨by rw [a5];exact c1,a2,a3,decide_eq_false (by omega),by rw [a5,c2];omega,by rw [hw,List.length_append,zW,zM]⟩
  by_cases t1 : t = 1
  · subst t1
    have z1 : pr = 0:=by omega
    have z2 : la = 0:=by omega
    have z3 : co = 0:=by omega
    have z4 : sp = 0:=by omega
    subst z1 z2 z3 z4
    by_cases hh : zB 1 g 32 = true
    · have hz : vv 1 g 32 = true := by rw [zaa g0]; exact hh
      have hn : nuB 1 g e wt pa al 0 0 0 0 = wgB pa al wt:=by unfold nuB;rw [if_pos rfl,if_pos hz]
      rw [hn] at hb ⊢
      obtain ⟨hpa,hwt⟩:=key (.inl ⟨rfl,hh⟩)
      obtain ⟨k1,k2,k3,k4,k5,k6⟩:=wgh hpa hwt hb
      unfold zR
      rw [if_pos rfl,if_pos hh,k1,k2,k3,k4,k5,k6,if_neg (by decide)]
      rfl
    · have hz : ¬ vv 1 g 32 = true := by rw [zaa g0]; exact hh
      have hn : nuB 1 g e wt pa al 0 0 0 0 = []:=by unfold nuB;rw [if_pos rfl,if_neg hz]
      obtain ⟨_,rfl,rfl,rfl⟩ : ¬ ((1 : Int) = 1 ∧ zB 1 g 32 = true ∨ (1 : Int) = 2) ∧ pa = 0 ∧ wt = 0 ∧ al = false:=by
        rcases hwg with ⟨c,_⟩|h
        · rcases c with ⟨_, c⟩ | c
          · exact absurd c hh
          · exact absurd c (by decide)
        · exact h
      rw [hn]
      unfold zR
      rw [if_pos rfl,if_neg hh,if_neg (by decide)]
      simp
  by_cases t2 : t = 2
  · subst t2
    have z1 : pr = 0:=by omega
    have z2 : la = 0:=by omega
    have z3 : co = 0:=by omega
    have z4 : sp = 0:=by omega
    subst z1 z2 z3 z4
    have hn : nuB 2 g e wt pa al 0 0 0 0 = wgB pa al wt:=by unfold nuB;rw [if_neg (by decide),if_pos rfl]
    rw [hn] at hb ⊢
    obtain ⟨hpa,hwt⟩:=key (.inr rfl)
    obtain ⟨k1,k2,k3,k4,k5,k6⟩:=wgh hpa hwt hb
    unfold zR
    rw [if_neg (by decide),if_pos rfl,k1,k2,k3,k4,k5,k6,if_neg (by decide)]
    rfl
  obtain ⟨rfl,rfl,rfl⟩ : pa = 0 ∧ wt = 0 ∧ al = false:=by
    rcases hwg with ⟨c,_⟩|h
    · rcases c with ⟨c, _⟩ | c
      · exact absurd c t1
      · exact absurd c t2
    · exact h.2
  by_cases t3 : t = 3
  · subst t3
    have z1 : pr = 0:=by omega
    have z2 : la = 0:=by omega
    have z4 : sp = 0:=by omega
    have hc : 0 ≤ co ∧ co ≤ 4294967295:=by omega
    subst z1 z2 z4
    have hn : nuB 3 g e 0 0 false 0 0 co 0 = beB co 4:=by unfold nuB;rw [if_neg (by decide),if_neg (by decide),if_pos rfl,zeu (zi1 hc)];rfl
    rw [hn] at hb ⊢
    obtain ⟨k1,k2,k3⟩:=zwc hb hc
    unfold zR
    rw [if_neg (by decide),if_neg (by decide),if_pos rfl,k1,k2,k3,if_neg (by decide),zM]
    rfl
  by_cases t5 : t = 5
  · subst t5
    have z2 : la = 0:=by omega
    have z3 : co = 0:=by omega
    have z4 : sp = 0:=by omega
    have hc : 0 ≤ pr ∧ pr < 2147483648:=by omega
    subst z2 z3 z4
    have hn : nuB 5 g e 0 0 false pr 0 0 0 = loB pr false:=by unfold nuB;rw [if_neg (by decide),if_neg (by decide),if_neg (by decide),if_pos rfl]
    rw [hn] at hb ⊢
    obtain ⟨_,k1,_,k2,k3⟩:=ztk hb hc
    unfold zR
    rw [if_neg (by decide),if_neg (by decide),if_neg (by decide),if_pos rfl,k1,k2,k3,if_neg (by decide),zW]
    rfl
  by_cases t7 : t = 7
  · subst t7
    have z1 : pr = 0:=by omega
    have z4 : sp = 0:=by omega
    have hc : 0 ≤ co ∧ co ≤ 4294967295:=by omega
    have hl : 0 ≤ la ∧ la < 2147483648:=by omega
    subst z1 z4
    have hn : nuB 7 g e 0 0 false 0 la co 0 = loB la false ++ beB co 4:=by unfold nuB;rw [if_neg (by decide),if_neg (by decide),if_neg (by decide),if_neg (by decide),if_pos rfl,zeu (zi1 hc)];rfl
    rw [hn,List.append_assoc] at hb
    rw [hn]
    obtain ⟨_,k1,_,k2,k3⟩:=ztk hb hl
    have hb2 : b = (P ++ loB la false) ++ (beB co 4 ++ R):=by rw [hb];simp
    have hl2 : ((P ++ loB la false).length : Int) = P.length + 4:=by rw [List.length_append,zW];rfl
    obtain ⟨c1,_,c3⟩:=zwc hb2 hc
    rw [hl2] at c1 c3
    have hbl : b.length = P.length + (4 + (4 + R.length)):=by rw [hb];simp [zW,zM]
    have k8 : shB b P.length 8 = false:=decide_eq_false (by omega)
    unfold zR
    rw [if_neg (by decide),if_neg (by decide),if_neg (by decide),if_neg (by decide),if_pos rfl,k1,k3,c1,c3,k8,if_neg (by decide),List.length_append,zW,zM]
    congr 1
  by_cases t8 : t = 8
  · subst t8
    have z1 : pr = 0:=by omega
    have z2 : la = 0:=by omega
    have z3 : co = 0:=by omega
    have hc : 0 ≤ sp ∧ sp < 2147483648:=by omega
    subst z1 z2 z3
    have hn : nuB 8 g e 0 0 false 0 0 0 sp = loB sp false:=by unfold nuB;rw [if_neg (by decide),if_neg (by decide),if_neg (by decide),if_neg (by decide),if_neg (by decide),if_pos rfl]
    rw [hn] at hb ⊢
    obtain ⟨_,k1,_,k2,k3⟩:=ztk hb hc
    unfold zR
    rw [if_neg (by decide),if_neg (by decide),if_neg (by decide),if_neg (by decide),if_neg (by decide),if_pos rfl,k1,k2,k3,if_neg (by decide),zW]
    rfl
  have z1 : pr = 0:=by omega
  have z2 : la = 0:=by omega
  have z3 : co = 0:=by omega
  have z4 : sp = 0:=by omega
  subst z1 z2 z3 z4
  unfold zR
  rw [if_neg t1,if_neg t2,if_neg t3,if_neg t5,if_neg t7,if_neg t8]
  by_cases t4 : t = 4
  · rw [if_pos t4]
  · have hn : nuB t g e 0 0 false 0 0 0 0 = [] := by unfold nuB; rw [if_neg t1, if_neg t2, if_neg t3, if_neg t5, if_neg t7, if_neg t8, if_neg t4]
    rw [hn,if_neg t4]
    simp
theorem zoV {t g s p : Int} {d : List UInt8} {e : List (Int × Int)} {wt pa : Int} {al : Bool} {pr la co sp : Int} (h : Can t g s p d e wt pa al pr la co sp) : nuW t g e wt pa pr la co sp = false:=by
 obtain ⟨g0,g1,hst,hpad,hde,hwg,hpr,hla,hco,hsp⟩:=h
 have lk : ∀ n : Int,0 ≤ n ∧ n < 2147483648 → loK n = true:=fun n h=>zab h
 have hwk : wgW pa wt = false:=by
  unfold wgW
  rcases hwg with ⟨_,a,b⟩|⟨_,a,b,_⟩
  ·rw [zab a,zcO b];rfl
  ·rw [a,b,zab (by decide),zcO (by decide)];rfl
 have k1 : loK pr = true:=lk _ (by omega)
 have k2 : loK la = true:=lk _ (by omega)
 have k3 : loK sp = true:=lk _ (by omega)
 have k4 : okN co 4 = true:=zex (by omega)
 unfold nuW
 rw [hwk,k1,k2,k3,k4]
 by_cases t4 : t = 4
 ·rcases hde with ⟨_, _, hs⟩ | ⟨n, _⟩
  ·rw [hs,t4];simp
  ·exact absurd t4 n
 ·repeat' split
  all_goals first|rfl|(exact absurd (by assumption) t4)
theorem rt {t g s p : Int} {d : List UInt8} {e : List (Int × Int)} {wt pa : Int} {al : Bool} {pr la co sp : Int} (h : Can t g s p d e wt pa al pr la co sp) (hl : vL t g (wrB t g p d e wt pa al pr la co sp).length = true) :
    wrW t g p e wt pa pr la co sp = false ∧ (yq t g s (wrB t g p d e wt pa al pr la co sp)).2 = (0,0) ∧ gm (yq t g s (wrB t g p d e wt pa al pr la co sp)).1 = ⟨t,g,s,p,d,e,wt,pa,al,pr,la,co,sp⟩:=by
  have hW:=zoV h
  have h':=h
  obtain ⟨g0,g1,hst,hpad,hde,hwg,hpr,hla,hco,hsp⟩:=h'
  generalize hB : wrB t g p d e wt pa al pr la co sp = B at hl ⊢
  have e0 : yq t g s B = zbe t g s B:=by
    unfold yq;rw [if_neg (by rw [hst];simp),if_neg (by rw [hl];simp)]
  rw [e0]
  rcases hpad with ⟨h8,hp⟩|⟨h8,rfl⟩
  · have hz8 : vv t g 8 = true := by rw [zaa g0]; exact h8
    have ht4 : ¬ t = 4:=by have:=ziX hz8;omega
    have hB2 : B = beB p 1 ++ (nuB t g e wt pa al pr la co sp ++ (d ++ List.replicate p.toNat 0)):=by
      rw [← hB];unfold wrB;rw [if_pos hz8];unfold eB;simp
    have hlp : ((beB p 1).length : Int) = 1:=by rw [zM];rfl
    have hN:=zms h hB2
    rw [hlp,if_neg ht4] at hN
    have hBl : B.length = 1 + ((nuB t g e wt pa al pr la co sp).length + (d.length + p.toNat)):=by rw [hB2];simp [zM]
    have hg1 : zJ B 1 = p:=by rw [hB2];exact vt p 1 _ (by decide) (by decide) (zoS hp)
    have hA : yL t g B = 1:=by unfold yL;rw [if_pos h8];exact if_pos (by omega)
    have hP : vS t g B = p:=by unfold vS;rw [if_pos h8];exact hg1
    have hS : (zB t g 8 && shB B 0 1) = false:=by rw [h8,Bool.true_and];exact decide_eq_false (by omega)
    rw [vT hP ((congrArg (zR t g B) hA).trans hN) hS rfl (by dsimp only;omega)]
    refine ⟨by unfold wrW;rw [hW,hz8,zcO hp];rfl,rfl,?_⟩
    dsimp only
    rw [if_neg ht4]
    unfold gm
    dsimp only
    have hby : byL B (1 + (nuB t g e wt pa al pr la co sp).length) ((B.length : Int) - (1 + (nuB t g e wt pa al pr la co sp).length) - max p 0) = d:=by
      have hE : byE B (1 + (nuB t g e wt pa al pr la co sp).length) ((B.length : Int) - (1 + (nuB t g e wt pa al pr la co sp).length) - max p 0) = 0:=by
        unfold byE;rw [if_neg (by omega),if_neg (by omega)]
      unfold byL
      rw [if_pos hE]
      have hB3 : B = (beB p 1 ++ nuB t g e wt pa al pr la co sp) ++ (d ++ List.replicate p.toNat 0):=by rw [hB2];simp
      have hd : B.drop ((1 : Int) + (nuB t g e wt pa al pr la co sp).length).toNat = d ++ List.replicate p.toNat 0:=by
        rw [hB3,List.drop_left' (by rw [List.length_append,zM];omega)]
      rw [hd,List.take_left' (by omega)]
    rw [hby]
    rcases hde with ⟨c,_⟩|⟨_,rfl⟩
    · exact absurd c ht4
    · rfl
  · have hz8 : ¬ vv t g 8 = true := by rw [zaa g0, h8]; simp
    have hB2 : B = [] ++ (nuB t g e wt pa al pr la co sp ++ d):=by
      rw [← hB];unfold wrB;rw [if_neg hz8];unfold eB;simp
    have hN:=zms h hB2
    rw [show ((([] : List UInt8).length : Nat) : Int) = 0 from rfl] at hN
    have hBl : B.length = (nuB t g e wt pa al pr la co sp).length + d.length:=by rw [hB2];simp
    have hA : yL t g B = 0:=by unfold yL;rw [if_neg (by rw [h8];simp)]
    have hP : vS t g B = -1:=by unfold vS;rw [if_neg (by rw [h8];simp)]
    have hS : (zB t g 8 && shB B 0 1) = false:=by rw [h8];rfl
    have hWf : wrW t g (-1) e wt pa pr la co sp = false:=by unfold wrW;rw [hW,zaa g0,h8];rfl
    rw [vT hP ((congrArg (zR t g B) hA).trans hN) hS rfl (by dsimp only;split<;>omega)]
    refine ⟨hWf,rfl,?_⟩
    dsimp only
    rcases hde with ⟨ht4,rfl,hs⟩|⟨ht4,rfl⟩
    · subst ht4
      have hn : nuB 4 g e wt pa al pr la co sp = spB e:=by unfold nuB;rw [if_neg (by decide),if_neg (by decide),if_neg (by decide),if_neg (by decide),if_neg (by decide),if_neg (by decide),if_pos rfl]
      rw [hn] at hB2
      have hB3 : B = spB e:=by rw [hB2];simp
      rw [if_pos rfl,hB3]
      unfold gm
      dsimp only
      rw [(zld e hs).1]
    · rw [if_neg ht4, if_neg ht4]
      unfold gm
      dsimp only
      have hby : byL B (0 + (nuB t g [] wt pa al pr la co sp).length) ((B.length : Int) - (0 + (nuB t g [] wt pa al pr la co sp).length) - max (-1) 0) = d:=by
        have hE : byE B (0 + (nuB t g [] wt pa al pr la co sp).length) ((B.length : Int) - (0 + (nuB t g [] wt pa al pr la co sp).length) - max (-1) 0) = 0:=by
          unfold byE;rw [if_neg (by omega),if_neg (by omega)]
        unfold byL
        rw [if_pos hE]
        have hd : B.drop ((0 : Int) + (nuB t g [] wt pa al pr la co sp).length).toNat = d:=by
          rw [hB2,List.nil_append,List.drop_left' (by omega)]
        rw [hd,List.take_of_length_le (by omega)]
      rw [hby]
theorem zvd {w t g s p : Int} {d : List UInt8} {e : List (Int × Int)} {wt pa : Int} {al : Bool} {pr la co sp : Int} (h : Can t g s p d e wt pa al pr la co sp) (hl : vL t g (wrB t g p d e wt pa al pr la co sp).length = true) (hw : w = 0 ∨ w = 1) (hk : kK ⟨(wrB t g p d e wt pa al pr la co sp).length, t, g, s, false⟩) :
    jj w t g s p d e wt pa al pr la co sp:=by
  obtain ⟨a,b,c⟩:=rt h hl
  have hf : y9 t g s (wrB t g p d e wt pa al pr la co sp) = (0,0):=by rw [← (zet t g s _).1];exact b
  exact ⟨a,hw,hk,hf,by rw [← (zbT hf).2];exact c.symm⟩
end Go.Proofs.YtdalcgfnlbofdaaGreatDoor
