import Derived.Test.YtdalcgfnlbofdaaGreatDoorPg
import Derived.Test.YtdalcgfnlbofdaaGreatDoorY23
import Derived.Test.YtdalcgfnlbofdaaGreatDoorY24
import Derived.Test.YtdalcgfnlbofdaaGreatDoorY09
import Derived.Test.YtdalcgfnlbofdaaGreatDoorY06
import Derived.Test.YtdalcgfnlbofdaaGreatDoorPc
import Derived.Test.YtdalcgfnlbofdaaGreatDoorY17
set_option linter.unusedVariables false
set_option linter.unusedSimpArgs false
namespace Go.Proofs.YtdalcgfnlbofdaaGreatDoor
open Go Go.Lf Go.Proofs
attribute [local irreducible] Lf.rg Lf.ro Lf.PWp Lf.SOp Lf.ACall Lf.Scoped Lf.dg
set_option maxRecDepth 20000
set_option maxHeartbeats 4000000
theorem zex {w t g s p : Int} {d : List UInt8} {e : List (Int × Int)} {wt pa : Int} {al : Bool} {pr la co sp : Int} (n : Nat) (hn : (wrB t g p d e wt pa al pr la co sp).length = n) (h : Can t g s p d e wt pa al pr la co sp) (hl : vP t g n = true) (hw : w = 0 ∨ w = 1) (ht : 0 ≤ t ∧ t ≤ 255) (hs : 0 ≤ s ∧ s ≤ 2147483647) (hN : n ≤ 16777215) : kJ w t g s p d e wt pa al pr la co sp:=by
 refine zio h (by rw [hn];exact hl) hw ?_
 have:=h.g0
 have:=h.g1
 rw [hn]
 unfold km
 dsimp only
 omega
theorem zfw {n : Int} (h : 0 ≤ n ∧ n ≤ 4294967295) : (nbB n 4).length = 4:=by
 rw [zcE (zil (zew h))]
 exact zN _ _
def kr (fl : List Fl) : List UInt8:=(zlr [0] fl [⟨2,false,false,false⟩] ⟨xsE,0,0⟩).o
def kT (k : Int) : Int:=if k = 1 then 1 else if k = 2 then 0 else if k = 3 then 4 else if k = 4 then 8 else if k = 5 then 3 else if k = 6 then 6 else 7
def kG (k : Int) (e : Bool) : Int:=(if e = true then 1 else 0) + (if k = 1 then 4 else 0)
def kD (k n : Int) (fl : List Fl) : List UInt8:=if k = 1 then kr fl else if k = 2 then List.replicate n.toNat 0 else if k = 6 then [0,0,0,0,0,0,0,UInt8.ofNat n.toNat] else []
def kE (k : Int) (ss : List (Int × Int)) : List (Int × Int):=if k = 3 then ss else []
def ifK (k a n : Int) : Int:=if k = a then n else 0
theorem zdv {fl : List Fl} (h : fl.length ≤ 100) (hz : ∀ f ∈ fl,f.n.size ≤ 1000 ∧ f.v.size ≤ 1000) : (kr fl).length ≤ 1800 + 8018 * fl.length:=by
 obtain ⟨Q,hQ⟩ : ∃ Q,zlr [0] fl [⟨2,false,false,false⟩] ⟨xsE,0,0⟩ = Q:=⟨_,rfl⟩
 have:=(zng hQ (zq4 (by decide) (by decide)) (by decide) (by decide) (by decide) h hz).2.2
 unfold kr
 rw [hQ];exact this
theorem zfx {fl : List Fl} (h : zdu fl = true) : fl.length ≤ 20 ∧ ∀ f ∈ fl,f.n.size ≤ 1000 ∧ f.v.size ≤ 1000:=by
 unfold zdu zt6 at h
 split at h
 ·simp at h
 ·refine ⟨by omega, ?_⟩
  have h2 : zlK 200 fl = false:=by simpa using h
  clear h
  rename_i hn
  clear hn
  induction fl with
  | nil=>intro f hf;simp at hf
  | cons x l ih=>
   intro f hf
   unfold zlK at h2
   split at h2
   ·cases h2
   ·rename_i hx
    rcases List.mem_cons.1 hf with rfl|hf
    ·unfold znV at hx;simp at hx;omega
    ·exact ih h2 f hf
theorem ziq {w k t n : Int} {e : Bool} {fl : List Fl} {ss : List (Int × Int)} (h : rsB ⟨k, t, n, e, fl, ss⟩ = true) (h8 : ¬ k = 8) (hw : w = 0 ∨ w = 1) :
    kJ w (kT k) (kG k e) t (-1) (kD k n fl) (kE k ss) 0 0 false 0 (ifK k 7 n) (ifK k 5 n) (ifK k 4 n):=by
  unfold rsB at h
  dsimp only at h
  have h:=of_decide_eq_true h
  rcases h with ⟨rfl,h1,h2,rfl,h3,h4⟩|⟨rfl,h1,h2,h3,h4,h5,h6⟩|⟨rfl,rfl,rfl,rfl,h1,h2⟩|⟨rfl,rfl,h1,h2,h3,h4,h5,h6⟩|⟨rfl,rfl,h1,h2,h3,h4,h5,h6⟩|⟨rfl,rfl,h1,h2,rfl,h3,h4⟩|⟨rfl,rfl,h1,h2,rfl,h3,h4⟩|⟨rfl,_⟩
  · obtain ⟨hf, hz⟩ := zfx h3
    have hl:=zdv (fl:=fl) (by omega) hz
    refine zex (kr fl).length ?_ ⟨?_,?_,?_,.inr ⟨?_,rfl⟩,.inr ⟨by decide,rfl⟩,.inr ⟨?_,rfl,rfl,rfl⟩,.inr ⟨by decide,rfl⟩,.inr ⟨by decide,rfl⟩,.inr ⟨by decide,rfl⟩,.inr ⟨by decide,rfl⟩⟩ rfl hw (by decide) ⟨by omega,h2⟩ (by omega)
    · cases e<;>rfl
    · cases e<;>decide
    · cases e<;>decide
    · show vg 1 t = true
      unfold vg
      rw [if_neg (by decide),if_pos (by decide)]
      simp;omega
    · cases e<;>decide
    · cases e<;>decide
  · refine zex n.toNat ?_ ⟨?_, ?_, ?_, .inr ⟨?_, rfl⟩, .inr ⟨by decide, rfl⟩, .inr ⟨by cases e <;> decide, rfl, rfl, rfl⟩, .inr ⟨by decide, rfl⟩, .inr ⟨by decide, rfl⟩, .inr ⟨by decide, rfl⟩, .inr ⟨by decide, rfl⟩⟩ rfl hw (by decide) ⟨by omega, h4⟩ (by omega)
    · have : wrB (kT 2) (kG 2 e) (-1) (kD 2 n fl) (kE 2 ss) 0 0 false 0 (ifK 2 7 n) (ifK 2 5 n) (ifK 2 4 n) = List.replicate n.toNat 0 := by cases e <;> rfl
      rw [this,List.length_replicate]
    · cases e<;>decide
    · cases e<;>decide
    · show vg 0 t = true
      unfold vg
      rw [if_neg (by decide),if_pos (by decide)]
      simp;omega
    · cases e<;>decide
  · unfold zoP at h2
    simp only [Bool.and_eq_true,decide_eq_true_eq] at h2
    have hB : wrB (kT 3) (kG 3 false) (-1) (kD 3 0 fl) (kE 3 ss) 0 0 false 0 (ifK 3 7 0) (ifK 3 5 0) (ifK 3 4 0) = spF ss:=by
      show [] ++ spB ss ++ [] = spF ss
      unfold spB;rw [if_pos h2.2];simp
    refine zex (6 * ss.length) (by rw [hB,j4]) ⟨by decide,by decide,by decide,.inr ⟨by decide,rfl⟩,.inl ⟨rfl,rfl,h2.2⟩,.inr ⟨by decide,rfl,rfl,rfl⟩,.inr ⟨by decide,rfl⟩,.inr ⟨by decide,rfl⟩,.inr ⟨by decide,rfl⟩,.inr ⟨by decide,rfl⟩⟩ ?_ hw (by decide) (by decide) (by omega)
    show vP 4 0 (6 * ss.length) = true
    rw [zdl,if_neg (by decide)]
    exact decide_eq_true (by omega)
  · refine zex 4 ?_ ⟨by decide, by decide, ?_, .inr ⟨by decide, rfl⟩, .inr ⟨by decide, rfl⟩, .inr ⟨by decide, rfl, rfl, rfl⟩, .inr ⟨by decide, rfl⟩, .inr ⟨by decide, rfl⟩, .inr ⟨by decide, rfl⟩, .inl ⟨rfl, by show 0 ≤ n; omega, by show n < 2147483648; omega⟩⟩ (by decide) hw (by decide) ⟨h3, h4⟩ (by omega)
    · show (([] : List UInt8) ++ loB n false ++ []).length = 4
      rw [List.append_nil,List.nil_append]
      exact z7 n false
    · show vg 8 t = true
      unfold vg
      rw [if_neg (by decide),if_neg (by decide)]
  · refine zex 4 ?_ ⟨by decide, by decide, ?_, .inr ⟨by decide, rfl⟩, .inr ⟨by decide, rfl⟩, .inr ⟨by decide, rfl, rfl, rfl⟩, .inr ⟨by decide, rfl⟩, .inr ⟨by decide, rfl⟩, .inl ⟨.inl rfl, by show 0 ≤ n; omega, by show n ≤ 4294967295; omega⟩, .inr ⟨by decide, rfl⟩⟩ (by decide) hw (by decide) ⟨by omega, h4⟩ (by omega)
    · show (([] : List UInt8) ++ nbB n 4 ++ []).length = 4
      rw [List.append_nil,List.nil_append]
      exact zfw ⟨h5,h6⟩
    · show vg 3 t = true
      unfold vg
      rw [if_neg (by decide),if_pos (by decide)]
      simp;omega
  · refine zex 8 rfl ⟨by decide,by decide,by decide,.inr ⟨by decide,rfl⟩,.inr ⟨by decide,rfl⟩,.inr ⟨by decide,rfl,rfl,rfl⟩,.inr ⟨by decide,rfl⟩,.inr ⟨by decide,rfl⟩,.inr ⟨by decide,rfl⟩,.inr ⟨by decide,rfl⟩⟩ (by decide) hw (by decide) (by decide) (by omega)
  · refine zex 8 ?_ ⟨by decide, by decide, by decide, .inr ⟨by decide, rfl⟩, .inr ⟨by decide, rfl⟩, .inr ⟨by decide, rfl, rfl, rfl⟩, .inr ⟨by decide, rfl⟩, .inl ⟨rfl, by show 0 ≤ n; omega, by show n < 2147483648; omega⟩, .inl ⟨.inr rfl, (show (0 : Int) ≤ 0 by decide), (show (0 : Int) ≤ 4294967295 by decide)⟩, .inr ⟨by decide, rfl⟩⟩ (by decide) hw (by decide) (by decide) (by omega)
    · show (([] : List UInt8) ++ (loB n false ++ nbB 0 4) ++ []).length = 8
      rw [List.append_nil,List.nil_append,List.length_append,z7 n false,zfw (by decide)]
  · exact absurd rfl h8
end Go.Proofs.YtdalcgfnlbofdaaGreatDoor
namespace Go.Proofs.YtdalcgfnlbofdaaGreatDoor
open Go Go.Lf Go.Proofs
attribute [local irreducible] Lf.rg Lf.ro Lf.PWp Lf.SOp Lf.ACall Lf.Scoped Lf.dg Lf.dw
set_option maxRecDepth 20000
set_option maxHeartbeats 4000000
theorem vK (k t n : Int) (e : Bool) (fl : List Fl) (ss : List (Int × Int)) (h1 : fl.length ≤ 9223372036854775807) (h2 : ss.length ≤ 1000000) : AEq Tryz.prog 36 [.ag [i64 k,i64 t,i64 n,bl e,.sl false false (fl.map flA),.sl false false (ss.map yq)]] [] (bl (rsB ⟨k,t,n,e,fl,ss⟩)) []:=zkQ ⟨k,t,n,e,fl,ss⟩ h1 h2
def lz0 : List Int:=[0]
def lo2 : List Op4:=[⟨2,false,false,false⟩]
def zoQ (m : UInt8) : List UInt8:=[0,0,0,0,0,0,0,m]
theorem znX {n : Int} (h0 : 0 ≤ n) (h1 : n ≤ 255) : n = ((UInt8.ofNat n.toNat).toNat : Int):=by
 rw [UInt8.toNat_ofNat']
 omega
theorem zkR (k t n : Int) (e : Bool) (fl : List Fl) (ss : List (Int × Int)) (hf : fl.length ≤ 100) (hz : ∀ f ∈ fl,f.n.size ≤ 1000 ∧ f.v.size ≤ 1000) : AEq Tryz.prog 81 [.ag [i64 k,i64 t,i64 n,bl e,.sl false false (fl.map flA),.sl false false (ss.map yq)]] [] (.ag [i64 1,i64 4,i64 0,i64 0,.sl false false ((kr fl).map zf),.sl true false [],i64 0,i64 0,bl false,i64 0,i64 0,i64 0,i64 0]) []:=by
 rcases hQ : zlr lz0 fl lo2 ⟨xsE,0,0⟩ with ⟨o,⟨xt,st,mt⟩⟩
 have ho : kr fl = o:=by
  show (zlr lz0 fl lo2 ⟨xsE,0,0⟩).o = o
  rw [hQ]
 have hsl : lz0.length ≤ 100:=by decide
 have hol : lo2.length ≤ 100000:=by decide
 have hok : TOk ⟨xsE,0,0⟩:=zq4 (by decide) (by decide)
 have hzz : zhG lz0 = false:=by decide
 have hx : xsE.length ≤ 30000:=by decide
 rw [ho]
 refine zc Tryz.func81 rfl Tryz.ntmps81 (by simp) (fun hsc=>?_);simp only [Lf.enter,Nat.reduceAdd];clear hsc
 have hU:=True.intro
 repeat' (first|(refine goR ?_)|(refine za (fun K hK=>?_))|(guard_target =~ SOp _ _ ⟨_,.buildSlice _ _ _,_,_,_,none⟩ _ _ _;refine yF (xs:=List.map (zgR) (lz0)) rfl (he:=eoT) (hc:=hcT) (hK:=?_))|(guard_target =~ SOp _ _ ⟨_,.buildSlice _ _ _,_,_,_,none⟩ _ _ _;refine yF (xs:=List.map (opA) (lo2)) rfl (he:=eoT) (hc:=hcT) (hK:=?_))|(refine zd (f:=131) rfl Tryz.call131 (h:=AEq.sub' [_,_,_] (hc:=zq5 _ _ _ _ _ _ _ _ _ aoT aoT aoT aoT _ _ _ aoT aoT aoT _ _ _ _ aoT) (hq:=?_)))|(refine zd (f:=68) rfl Tryz.call68 (h:=AEq.sub' [] (hc:=znf _ aoT aoT) (hq:=?_)))|((refine yv [] exT (by rfl) (by rw [Tryz.results81,Lf.jh];(try simp (disch:=omega) only [Lf.zG,go_sem,seval,↓reduceIte,hU]);rfl) sT sT (zj ?_) ?_)<;>(try (first|exact zi|exact stT)))|(refine hK _ _ ?_;clear hK K))
theorem zir (t n : Int) (e : Bool) (fl : List Fl) (ss : List (Int × Int)) (hf : fl.length ≤ 100) (hz : ∀ f ∈ fl,f.n.size ≤ 1000 ∧ f.v.size ≤ 1000) : AEq Tryz.prog 37 [.ag [i64 1,i64 t,i64 n,bl e,.sl false false (fl.map flA),.sl false false (ss.map yq)]] [] (.ag [i64 1,i64 4,i64 0,i64 0,.sl false false ((kr fl).map zf),.sl true false [],i64 0,i64 0,bl false,i64 0,i64 0,i64 0,i64 0]) []:=by
 refine zc Tryz.func37 rfl Tryz.ntmps37 (by simp) (fun hsc=>?_);simp only [Lf.enter,Nat.reduceAdd];clear hsc
 have hU:=True.intro
 repeat' (first|(refine goR ?_)|(refine za (fun K hK=>?_))|((refine zb (fun hcd=>?_) (fun hcd=>?_))<;>(try simp only [hcP] at hcd)<;>(try exact cdT))|(refine zd (f:=81) rfl Tryz.call81 (h:=AEq.pure' agT (zkR _ _ _ _ _ _ (by assumption) (by assumption)) (hq:=?_)))|((refine yv [] exT (by rfl) (by rw [Tryz.results37,Lf.jh];(try simp (disch:=omega) only [Lf.zG,go_sem,seval,↓reduceIte,hU]);rfl) sT sT (zj ?_) ?_)<;>(try (first|exact zi|exact stT)))|(refine hK _ _ ?_;clear hK K))
theorem zis (t n : Int) (e : Bool) (fl : List Fl) (ss : List (Int × Int)) (hn : 0 ≤ n ∧ n ≤ 16384) : AEq Tryz.prog 37 [.ag [i64 2,i64 t,i64 n,bl e,.sl false false (fl.map flA),.sl false false (ss.map yq)]] [] (.ag [i64 0,i64 0,i64 0,i64 0,.sl false false (List.map zf (List.replicate n.toNat 0)),.sl true false [],i64 0,i64 0,bl false,i64 0,i64 0,i64 0,i64 0]) []:=by
 have hmr : List.replicate n.toNat [AV.lit (Value.int IntKind.u8 0)] = List.map zf (List.replicate n.toNat 0):=by rw [List.map_replicate];rfl
 refine zc Tryz.func37 rfl Tryz.ntmps37 (by simp) (fun hsc=>?_);simp only [Lf.enter,Nat.reduceAdd];clear hsc
 have hU:=@hmr
 repeat' (first|(refine goR ?_)|(refine za (fun K hK=>?_))|((refine zb (fun hcd=>?_) (fun hcd=>?_))<;>(try simp only [hcP] at hcd)<;>(try exact cdT))|(guard_target =~ SOp _ _ ⟨_,.makeSlice _ _ _,_,_,_,none⟩ _ _ _;refine zeR rfl (he:=eoT) (hK:=?_))|((refine yv [] exT (by rfl) (by rw [Tryz.results37,Lf.jh];(try simp (disch:=omega) only [Lf.zG,go_sem,seval,↓reduceIte,hU]);rfl) sT sT (zj ?_) ?_)<;>(try (first|exact zi|exact stT)))|(refine hK _ _ ?_;clear hK K))
theorem znY (t n : Int) (e : Bool) (fl : List Fl) (ss : List (Int × Int)) : AEq Tryz.prog 37 [.ag [i64 3,i64 t,i64 n,bl e,.sl false false (fl.map flA),.sl false false (ss.map yq)]] [] (.ag [i64 4,i64 0,i64 0,i64 0,.sl true false [],.sl false false (ss.map yq),i64 0,i64 0,bl false,i64 0,i64 0,i64 0,i64 0]) []:=by
 refine zc Tryz.func37 rfl Tryz.ntmps37 (by simp) (fun hsc=>?_);simp only [Lf.enter,Nat.reduceAdd];clear hsc
 have hU:=True.intro
 repeat' (first|(refine goR ?_)|(refine za (fun K hK=>?_))|((refine zb (fun hcd=>?_) (fun hcd=>?_))<;>(try simp only [hcP] at hcd)<;>(try exact cdT))|((refine yv [] exT (by rfl) (by rw [Tryz.results37,Lf.jh];(try simp (disch:=omega) only [Lf.zG,go_sem,seval,↓reduceIte,hU]);rfl) sT sT (zj ?_) ?_)<;>(try (first|exact zi|exact stT)))|(refine hK _ _ ?_;clear hK K))
theorem znZ (t n : Int) (e : Bool) (fl : List Fl) (ss : List (Int × Int)) : AEq Tryz.prog 37 [.ag [i64 4,i64 t,i64 n,bl e,.sl false false (fl.map flA),.sl false false (ss.map yq)]] [] (.ag [i64 8,i64 0,i64 0,i64 0,.sl true false [],.sl true false [],i64 0,i64 0,bl false,i64 0,i64 0,i64 0,i64 n]) []:=by
 refine zc Tryz.func37 rfl Tryz.ntmps37 (by simp) (fun hsc=>?_);simp only [Lf.enter,Nat.reduceAdd];clear hsc
 have hU:=True.intro
 repeat' (first|(refine goR ?_)|(refine za (fun K hK=>?_))|((refine zb (fun hcd=>?_) (fun hcd=>?_))<;>(try simp only [hcP] at hcd)<;>(try exact cdT))|((refine yv [] exT (by rfl) (by rw [Tryz.results37,Lf.jh];(try simp (disch:=omega) only [Lf.zG,go_sem,seval,↓reduceIte,hU]);rfl) sT sT (zj ?_) ?_)<;>(try (first|exact zi|exact stT)))|(refine hK _ _ ?_;clear hK K))
theorem zn0 (t n : Int) (e : Bool) (fl : List Fl) (ss : List (Int × Int)) : AEq Tryz.prog 37 [.ag [i64 5,i64 t,i64 n,bl e,.sl false false (fl.map flA),.sl false false (ss.map yq)]] [] (.ag [i64 3,i64 0,i64 0,i64 0,.sl true false [],.sl true false [],i64 0,i64 0,bl false,i64 0,i64 0,i64 n,i64 0]) []:=by
 refine zc Tryz.func37 rfl Tryz.ntmps37 (by simp) (fun hsc=>?_);simp only [Lf.enter,Nat.reduceAdd];clear hsc
 have hU:=True.intro
 repeat' (first|(refine goR ?_)|(refine za (fun K hK=>?_))|((refine zb (fun hcd=>?_) (fun hcd=>?_))<;>(try simp only [hcP] at hcd)<;>(try exact cdT))|((refine yv [] exT (by rfl) (by rw [Tryz.results37,Lf.jh];(try simp (disch:=omega) only [Lf.zG,go_sem,seval,↓reduceIte,hU]);rfl) sT sT (zj ?_) ?_)<;>(try (first|exact zi|exact stT)))|(refine hK _ _ ?_;clear hK K))
theorem zn1 (t : Int) (m : UInt8) (e : Bool) (fl : List Fl) (ss : List (Int × Int)) : AEq Tryz.prog 37 [.ag [i64 6,i64 t,i64 (m.toNat : Int),bl e,.sl false false (fl.map flA),.sl false false (ss.map yq)]] [] (.ag [i64 6,i64 0,i64 0,i64 0,.sl true false ((zoQ m).map zf),.sl true false [],i64 0,i64 0,bl false,i64 0,i64 0,i64 0,i64 0]) []:=by
 have hm:=m.toNat_lt
 refine zc Tryz.func37 rfl Tryz.ntmps37 (by simp) (fun hsc=>?_);simp only [Lf.enter,Nat.reduceAdd];clear hsc
 have hU:=True.intro
 repeat' (first|(refine goR ?_)|(refine za (fun K hK=>?_))|((refine zb (fun hcd=>?_) (fun hcd=>?_))<;>(try simp only [hcP] at hcd)<;>(try exact cdT))|(guard_target =~ SOp _ _ ⟨_,.buildSlice _ _ _,_,_,_,none⟩ _ _ _;refine yF (xs:=List.map (zf) (zoQ m)) rfl (he:=eoT) (hc:=hcT) (hK:=?_))|((refine yv [] exT (by rfl) (by rw [Tryz.results37,Lf.jh];(try simp (disch:=omega) only [Lf.zG,go_sem,seval,↓reduceIte,hU]);rfl) sT sT (zj ?_) ?_)<;>(try (first|exact zi|exact stT)))|(refine hK _ _ ?_;clear hK K))
theorem zn2 (t n : Int) (e : Bool) (fl : List Fl) (ss : List (Int × Int)) : AEq Tryz.prog 37 [.ag [i64 7,i64 t,i64 n,bl e,.sl false false (fl.map flA),.sl false false (ss.map yq)]] [] (.ag [i64 7,i64 0,i64 0,i64 0,.sl true false [],.sl true false [],i64 0,i64 0,bl false,i64 0,i64 n,i64 0,i64 0]) []:=by
 refine zc Tryz.func37 rfl Tryz.ntmps37 (by simp) (fun hsc=>?_);simp only [Lf.enter,Nat.reduceAdd];clear hsc
 have hU:=True.intro
 repeat' (first|(refine goR ?_)|(refine za (fun K hK=>?_))|((refine zb (fun hcd=>?_) (fun hcd=>?_))<;>(try simp only [hcP] at hcd)<;>(try exact cdT))|((refine yv [] exT (by rfl) (by rw [Tryz.results37,Lf.jh];(try simp (disch:=omega) only [Lf.zG,go_sem,seval,↓reduceIte,hU]);rfl) sT sT (zj ?_) ?_)<;>(try (first|exact zi|exact stT)))|(refine hK _ _ ?_;clear hK K))
def zuI (w : Int) (f : Gm) : Rq:=⟨w,f.t,f.g,f.s,false,wrB f.t f.g f.p f.d f.st f.wt f.pa f.al f.pr f.la f.co f.sp⟩
def emG (w : Int) (f : Gm) : Prop:=kJ w f.t f.g f.s f.p f.d f.st f.wt f.pa f.al f.pr f.la f.co f.sp
def zt8 (r : Rq) : Option Gm:=if okQ r then some (gm (rfM r.t r.g r.s r.b)) else none
theorem zn3 {w : Int} {f : Gm} (h : emG w f) : zt8 (zuI w f) = some f:=by
 obtain ⟨_,_,h1,h2,h3⟩:=h
 unfold zt8
 rw [if_pos (show okQ (zuI w f) from ⟨h1,h2⟩)]
 exact congrArg some h3.symm
structure Asm where
 (on : Bool) (f : Gm) (b : List UInt8)
structure Itm where
 (w : Int) (f : Gm) (bk : Bool) (fl : List Fl)
structure Wy where
 (z : List Int) (y : List Op4) (ps : List Int) (p : Int)
def zlM (t : Int) : Prop:=t = 1 ∨ t = 5
instance (t : Int) : Decidable (zlM t):=by unfold zlM;infer_instance
structure Us where
 (a0 a1 : Asm) (d0 d1 : DT) (o : List Itm)
end Go.Proofs.YtdalcgfnlbofdaaGreatDoor
