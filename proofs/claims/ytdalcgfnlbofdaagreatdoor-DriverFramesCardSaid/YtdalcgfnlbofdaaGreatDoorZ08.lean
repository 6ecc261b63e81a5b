import Derived.Test.YtdalcgfnlbofdaaGreatDoorTg
import Derived.Test.YtdalcgfnlbofdaaGreatDoorZ06
import Derived.Test.YtdalcgfnlbofdaaGreatDoorZ05
import Derived.Test.YtdalcgfnlbofdaaGreatDoorLc
import Derived.Test.YtdalcgfnlbofdaaGreatDoorZ07
import Derived.Test.YtdalcgfnlbofdaaGreatDoorZ01
import Derived.Laws.Strings
set_option linter.unusedVariables false
set_option linter.unusedSimpArgs false
namespace Go.Proofs.YtdalcgfnlbofdaaGreatDoor
open Go Go.Lf Go.Proofs
attribute [local irreducible] Lf.rg Lf.ro Lf.PWp Lf.SOp Lf.ACall Lf.Scoped Lf.dg Lf.dw
set_option maxRecDepth 20000
set_option maxHeartbeats 4000000
structure Rp where
 (k i : Int) (nm : List UInt8) (ns : Bool) (vl : List UInt8) (vs : Bool) (sz n e : Int)
def zro (e : Int) : Rp:=⟨0,0,[],false,[],false,0,0,e⟩
def rgV (b : List UInt8) (k i : Int) (nm : List UInt8) (ns : Bool) (a : Nat) : Rp:=
 if (slG (b.drop a) (b.length : Int)).2.2.2 ≠ 0 then zro (slG (b.drop a) (b.length : Int)).2.2.2
 else ⟨k,i,nm,ns,(slG (b.drop a) (b.length : Int)).1,(slG (b.drop a) (b.length : Int)).2.1,0,(a : Int) + (slG (b.drop a) (b.length : Int)).2.2.1,0⟩
def rgN (b : List UInt8) (k : Int) (a : Nat) : Rp:=
 if (slG (b.drop a) (b.length : Int)).2.2.2 ≠ 0 then zro (slG (b.drop a) (b.length : Int)).2.2.2
 else rgV b k 0 (slG (b.drop a) (b.length : Int)).1 (slG (b.drop a) (b.length : Int)).2.1 (a + (slG (b.drop a) (b.length : Int)).2.2.1.toNat)
def rgK (b : List UInt8) (k : Int) (p : Int × Int × Int) : Rp:=
 if p.2.2 ≠ 0 then zro p.2.2
 else if k = 5 then ⟨5,0,[],false,[],false,p.1,p.2.1,0⟩
 else if k = 1 then (if p.1 = 0 then zro 12 else ⟨1,p.1,[],false,[],false,0,p.2.1,0⟩)
 else if p.1 = 0 then rgN b k p.2.1.toNat
 else rgV b k p.1 [] false p.2.1.toNat
def rgM (b : List UInt8) : Rp := match b[0]? with
 | none=>zro 3
 | some x=>rgK b (zhN x.toNat) (pgG b (biI (zhN x.toNat)))
attribute [local irreducible] pgG slG zhN frI biI txB
end Go.Proofs.YtdalcgfnlbofdaaGreatDoor
namespace Go.Proofs.YtdalcgfnlbofdaaGreatDoor
open Go Go.Lf Go.Proofs
attribute [local irreducible] Lf.rg Lf.ro Lf.PWp Lf.SOp Lf.ACall Lf.Scoped Lf.dg Lf.dw
set_option maxRecDepth 20000
set_option maxHeartbeats 4000000
attribute [local irreducible] pgG slG zhN frI biI txB
end Go.Proofs.YtdalcgfnlbofdaaGreatDoor
namespace Go.Proofs.YtdalcgfnlbofdaaGreatDoor
open Go Go.Lf Go.Proofs
attribute [local irreducible] Lf.rg Lf.ro Lf.PWp Lf.SOp Lf.ACall Lf.Scoped Lf.dg
set_option maxRecDepth 20000
set_option maxHeartbeats 4000000
end Go.Proofs.YtdalcgfnlbofdaaGreatDoor
namespace Go.Proofs.YtdalcgfnlbofdaaGreatDoor
open Go Go.Lf Go.Proofs
attribute [local irreducible] Lf.rg Lf.ro Lf.PWp Lf.SOp Lf.ACall Lf.Scoped Lf.dg Lf.dw
set_option maxRecDepth 20000
set_option maxHeartbeats 4000000
def stTab : List (ByteArray × ByteArray):=[(⟨#[58,97,117,116,104,111,114,105,116,121]⟩,⟨#[]⟩),(⟨#[58,109,101,116,104,111,100]⟩,⟨#[71,69,84]⟩),(⟨#[58,109,101,116,104,111,100]⟩,⟨#[80,79,83,84]⟩),(⟨#[58,112,97,116,104]⟩,⟨#[47]⟩),(⟨#[58,112,97,116,104]⟩,⟨#[47,105,110,100,101,120,46,104,116,109,108]⟩),(⟨#[58,115,99,104,101,109,101]⟩,⟨#[104,116,116,112]⟩),(⟨#[58,115,99,104,101,109,101]⟩,⟨#[104,116,116,112,115]⟩),(⟨#[58,115,116,97,116,117,115]⟩,⟨#[50,48,48]⟩),(⟨#[58,115,116,97,116,117,115]⟩,⟨#[50,48,52]⟩),(⟨#[58,115,116,97,116,117,115]⟩,⟨#[50,48,54]⟩),(⟨#[58,115,116,97,116,117,115]⟩,⟨#[51,48,52]⟩),(⟨#[58,115,116,97,116,117,115]⟩,⟨#[52,48,48]⟩),(⟨#[58,115,116,97,116,117,115]⟩,⟨#[52,48,52]⟩),(⟨#[58,115,116,97,116,117,115]⟩,⟨#[53,48,48]⟩),(⟨#[97,99,99,101,112,116,45,99,104,97,114,115,101,116]⟩,⟨#[]⟩),(⟨#[97,99,99,101,112,116,45,101,110,99,111,100,105,110,103]⟩,⟨#[103,122,105,112,44,32,100,101,102,108,97,116,101]⟩),(⟨#[97,99,99,101,112,116,45,108,97,110,103,117,97,103,101]⟩,⟨#[]⟩),(⟨#[97,99,99,101,112,116,45,114,97,110,103,101,115]⟩,⟨#[]⟩),(⟨#[97,99,99,101,112,116]⟩,⟨#[]⟩),(⟨#[97,99,99,101,115,115,45,99,111,110,116,114,111,108,45,97,108,108,111,119,45,111,114,105,103,105,110]⟩,⟨#[]⟩),(⟨#[97,103,101]⟩,⟨#[]⟩),(⟨#[97,108,108,111,119]⟩,⟨#[]⟩),(⟨#[97,117,116,104,111,114,105,122,97,116,105,111,110]⟩,⟨#[]⟩),(⟨#[99,97,99,104,101,45,99,111,110,116,114,111,108]⟩,⟨#[]⟩),(⟨#[99,111,110,116,101,110,116,45,100,105,115,112,111,115,105,116,105,111,110]⟩,⟨#[]⟩),(⟨#[99,111,110,116,101,110,116,45,101,110,99,111,100,105,110,103]⟩,⟨#[]⟩),(⟨#[99,111,110,116,101,110,116,45,108,97,110,103,117,97,103,101]⟩,⟨#[]⟩),(⟨#[99,111,110,116,101,110,116,45,108,101,110,103,116,104]⟩,⟨#[]⟩),(⟨#[99,111,110,116,101,110,116,45,108,111,99,97,116,105,111,110]⟩,⟨#[]⟩),(⟨#[99,111,110,116,101,110,116,45,114,97,110,103,101]⟩,⟨#[]⟩),(⟨#[99,111,110,116,101,110,116,45,116,121,112,101]⟩,⟨#[]⟩),(⟨#[99,111,111,107,105,101]⟩,⟨#[]⟩),(⟨#[100,97,116,101]⟩,⟨#[]⟩),(⟨#[101,116,97,103]⟩,⟨#[]⟩),(⟨#[101,120,112,101,99,116]⟩,⟨#[]⟩),(⟨#[101,120,112,105,114,101,115]⟩,⟨#[]⟩),(⟨#[102,114,111,109]⟩,⟨#[]⟩),(⟨#[104,111,115,116]⟩,⟨#[]⟩),(⟨#[105,102,45,109,97,116,99,104]⟩,⟨#[]⟩),(⟨#[105,102,45,109,111,100,105,102,105,101,100,45,115,105,110,99,101]⟩,⟨#[]⟩),(⟨#[105,102,45,110,111,110,101,45,109,97,116,99,104]⟩,⟨#[]⟩),(⟨#[105,102,45,114,97,110,103,101]⟩,⟨#[]⟩),(⟨#[105,102,45,117,110,109,111,100,105,102,105,101,100,45,115,105,110,99,101]⟩,⟨#[]⟩),(⟨#[108,97,115,116,45,109,111,100,105,102,105,101,100]⟩,⟨#[]⟩),(⟨#[108,105,110,107]⟩,⟨#[]⟩),(⟨#[108,111,99,97,116,105,111,110]⟩,⟨#[]⟩),(⟨#[109,97,120,45,102,111,114,119,97,114,100,115]⟩,⟨#[]⟩),(⟨#[112,114,111,120,121,45,97,117,116,104,101,110,116,105,99,97,116,101]⟩,⟨#[]⟩),(⟨#[112,114,111,120,121,45,97,117,116,104,111,114,105,122,97,116,105,111,110]⟩,⟨#[]⟩),(⟨#[114,97,110,103,101]⟩,⟨#[]⟩),(⟨#[114,101,102,101,114,101,114]⟩,⟨#[]⟩),(⟨#[114,101,102,114,101,115,104]⟩,⟨#[]⟩),(⟨#[114,101,116,114,121,45,97,102,116,101,114]⟩,⟨#[]⟩),(⟨#[115,101,114,118,101,114]⟩,⟨#[]⟩),(⟨#[115,101,116,45,99,111,111,107,105,101]⟩,⟨#[]⟩),(⟨#[115,116,114,105,99,116,45,116,114,97,110,115,112,111,114,116,45,115,101,99,117,114,105,116,121]⟩,⟨#[]⟩),(⟨#[116,114,97,110,115,102,101,114,45,101,110,99,111,100,105,110,103]⟩,⟨#[]⟩),(⟨#[117,115,101,114,45,97,103,101,110,116]⟩,⟨#[]⟩),(⟨#[118,97,114,121]⟩,⟨#[]⟩),(⟨#[118,105,97]⟩,⟨#[]⟩),(⟨#[119,119,119,45,97,117,116,104,101,110,116,105,99,97,116,101]⟩,⟨#[]⟩)]
def vh (i : Int) : ByteArray × ByteArray:=if 1 ≤ i then stTab.getD (i.toNat - 1) (⟨#[]⟩,⟨#[]⟩) else (⟨#[]⟩,⟨#[]⟩)
@[go_sem] def zfb (f : ByteArray × ByteArray) : List AV:=[.lit (.string f.1),.lit (.string f.2),bl false]
abbrev comA : List AV:=(stTab.take 14).flatMap fun p=>[str p.1,str p.2]
abbrev ztb : List AV:=(stTab.drop 14).map fun p=>str p.1
theorem zy (f : Nat → Nat) : rnl f comA = comA:=rfl
theorem zz (f : Nat → Nat) : rnl f ztb = ztb:=rfl
theorem km : stTab.length = 61:=rfl
theorem zau (i : Int) (h : 1 ≤ i ∧ i ≤ 61) : ∃ h2 : i.toNat - 1 < stTab.length,vh i = stTab[i.toNat - 1]:=by
 refine ⟨by rw [km];omega,?_⟩
 unfold vh
 rw [if_pos h.1,List.getD_eq_getElem?_getD,List.getElem?_eq_getElem (by rw [km];omega)];rfl
theorem zfc (i : Int) (h : i < 1 ∨ 61 < i) : vh i = (⟨#[]⟩,⟨#[]⟩):=by
 unfold vh
 split
 ·rw [List.getD_eq_getElem?_getD,List.getElem?_eq_none (by rw [km];omega)];rfl
 ·rfl
theorem zrp (p : ByteArray × ByteArray → Bool) (h : stTab.all p = true) (i : Int) (hi : 1 ≤ i ∧ i ≤ 61) : p (vh i) = true:=by
 obtain ⟨h2,e⟩:=zau i hi
 rw [e]
 exact List.all_eq_true.1 h _ (List.getElem_mem h2)
theorem zfd (p : ByteArray × ByteArray → Bool) (h : (stTab.drop 14).all p = true) (i : Int) (hi : 15 ≤ i ∧ i ≤ 61) : p (vh i) = true:=by
 obtain ⟨h2,e⟩:=zau i ⟨by omega,hi.2⟩
 rw [e]
 refine List.all_eq_true.1 h _ ?_
 rw [List.mem_iff_getElem?]
 refine ⟨i.toNat - 15,?_⟩
 rw [List.getElem?_drop,List.getElem?_eq_some_iff]
 refine ⟨by rw [km];omega,?_⟩
 congr 1
 omega
theorem jS (i : Int) (hi : 1 ≤ i ∧ i ≤ 61) : (vh i).1 ≠ ⟨#[]⟩:=by
 have:=zrp (fun f=>decide (f.1 ≠ ⟨#[]⟩)) (by decide) i hi
 simpa using this
theorem zuG (i : Int) (hi : 15 ≤ i ∧ i ≤ 61) (h : (vh i).1 = ⟨#[97,99,99,101,112,116,45,101,110,99,111,100,105,110,103]⟩) : (vh i).2 = ⟨#[103,122,105,112,44,32,100,101,102,108,97,116,101]⟩:=by
 have:=zfd (fun f=>decide (f.1 = ⟨#[97,99,99,101,112,116,45,101,110,99,111,100,105,110,103]⟩ → f.2 = ⟨#[103,122,105,112,44,32,100,101,102,108,97,116,101]⟩)) (by decide) i hi
 exact of_decide_eq_true this h
theorem zrq (i : Int) (hi : 15 ≤ i ∧ i ≤ 61) (h : ¬ (vh i).1 = ⟨#[97,99,99,101,112,116,45,101,110,99,111,100,105,110,103]⟩) : (vh i).2 = ⟨#[]⟩:=by
 have:=zfd (fun f=>decide (¬ f.1 = ⟨#[97,99,99,101,112,116,45,101,110,99,111,100,105,110,103]⟩ → f.2 = ⟨#[]⟩)) (by decide) i hi
 exact of_decide_eq_true this h
theorem zl (i : Int) (h : 15 ≤ i ∧ i ≤ 61) : ztb[(i - 1 - 14).toNat * 1]? = some (str (vh i).1):=by
 obtain ⟨h2,e⟩:=zau i ⟨by omega,by omega⟩
 have hj : 14 + (i - 1 - 14).toNat * 1 = i.toNat - 1:=by omega
 rw [List.getElem?_map,List.getElem?_drop,hj,List.getElem?_eq_getElem h2,e]
 rfl
theorem zk (i : Int) (h : 1 ≤ i ∧ i ≤ 14) : List.take 2 (List.drop ((i - 1).toNat * 2) comA) = [str (vh i).1,str (vh i).2]:=by
 have hi : i = 1 ∨ i = 2 ∨ i = 3 ∨ i = 4 ∨ i = 5 ∨ i = 6 ∨ i = 7 ∨ i = 8 ∨ i = 9 ∨ i = 10 ∨ i = 11 ∨ i = 12 ∨ i = 13 ∨ i = 14:=by omega
 rcases hi with rfl|rfl|rfl|rfl|rfl|rfl|rfl|rfl|rfl|rfl|rfl|rfl|rfl|rfl<;>rfl
@[go_sem] theorem zCu (a b : ByteArray) : (a.toList == b.toList) = decide (a = b):=by
 obtain ⟨⟨a⟩⟩:=a;obtain ⟨⟨b⟩⟩:=b
 rw [ByteArray.toList_eq,ByteArray.toList_eq]
 by_cases h : a = b<;>simp [h]
theorem zr : comA.length = 28:=rfl
theorem zhT : AEq Tryz.prog 245 [] [] (.ag comA) []:=by
 refine zc Tryz.func245 rfl Tryz.ntmps245 (by simp) (fun hsc=>?_);simp only [Lf.enter,Nat.reduceAdd];clear hsc
 have hU:=True.intro
 repeat' (first|(refine goR ?_)|(refine za (fun K hK=>?_))|((refine zY [] exT (by rfl) (by rw [Tryz.results245,Lf.yM];(try simp (disch:=omega) only [Lf.zD,go_sem,seval,↓reduceIte,hU]);rfl) sT sT (zj ?_) ?_)<;>(try (first|exact zh|exact stT)))|(refine hK _ _ ?_;clear hK K))
theorem zkp : AEq Tryz.prog 246 [] [] (.ag ztb) []:=by
 refine zc Tryz.func246 rfl Tryz.ntmps246 (by simp) (fun hsc=>?_);simp only [Lf.enter,Nat.reduceAdd];clear hsc
 have hU:=True.intro
 repeat' (first|(refine goR ?_)|(refine za (fun K hK=>?_))|((refine zY [] exT (by rfl) (by rw [Tryz.results246,Lf.yM];(try simp (disch:=omega) only [Lf.zD,go_sem,seval,↓reduceIte,hU]);rfl) sT sT (zj ?_) ?_)<;>(try (first|exact zh|exact stT)))|(refine hK _ _ ?_;clear hK K))
theorem zbJ (i : Int) (h : 1 ≤ i ∧ i ≤ 61) : AEq Tryz.prog 234 [i64 i] [] (.tu [.ag (zfb (vh i)),bl true]) []:=by
 refine zc Tryz.func234 rfl Tryz.ntmps234 (by simp) (fun hsc=>?_);simp only [Lf.enter,Nat.reduceAdd];clear hsc
 repeat' (first|(guard_target =~ PWp _ _ _ _ _ _ _;first|(refine za (fun K hK=>?_))|(refine zaE ?_)|(refine k9 ?_)|(refine zdC ?_)|(refine zbX ?_)|((refine zeG (by (try simp (disch:=omega) only [go_sem,seval,↓reduceIte,zy,zz,zl,zk,zr,if_pos])<;>rfl) (fun hcd=>?_) (fun hcd=>?_))<;>(try simp only [hcP] at hcd)<;>(try exact cdT)))|(guard_target =~ rg _ _ _ _ _ _ _;first|(guard_target =~ rg _ _ _ (⟨_,.move _,_,_,_,none⟩ :: _) _ _ _;first|(refine zlA rfl (by (try simp (disch:=omega) only [go_sem,seval,↓reduceIte,zy,zz,zl,zk,zr,if_pos])<;>rfl) ?_))|(guard_target =~ rg _ _ _ (⟨_,.binOp _ _ _ _ _,_,_,_,none⟩ :: _) _ _ _;first|(refine zlA rfl (by (try simp (disch:=omega) only [go_sem,seval,↓reduceIte,zy,zz,zl,zk,zr,if_pos])<;>rfl) ?_)|(refine zmD rfl ?_)|(refine zs0 rfl ?_))|(guard_target =~ rg _ _ _ (⟨_,.assign _,_,_,_,none⟩ :: _) _ _ _;first|(refine zts rfl (by (try simp (disch:=omega) only [go_sem,seval,↓reduceIte,zy,zz,zl,zk,zr,if_pos])<;>rfl) ?_))|(guard_target =~ rg _ _ _ (⟨_,.load _ _,_,_,_,none⟩ :: _) _ _ _;first|(refine zlA rfl (by (try simp (disch:=omega) only [go_sem,seval,↓reduceIte,zy,zz,zl,zk,zr,if_pos])<;>rfl) ?_))|(guard_target =~ rg _ _ _ (⟨_,.fieldAddr _ _ _,_,_,_,none⟩ :: _) _ _ _;first|(refine zlA rfl (by (try simp (disch:=omega) only [go_sem,seval,↓reduceIte,zy,zz,zl,zk,zr,if_pos])<;>rfl) ?_))|(guard_target =~ rg _ _ _ (⟨_,.index _ _ _,_,_,_,none⟩ :: _) _ _ _;first|(refine zlA rfl (by (try simp (disch:=omega) only [go_sem,seval,↓reduceIte,zy,zz,zl,zk,zr,if_pos])<;>rfl) ?_))|(guard_target =~ rg _ _ _ (⟨_,.move _,_,_,_,some _⟩ :: _) _ _ _;first|(refine zjR rfl (by simp only [go_sem,seval,↓reduceIte,zy,zz,zl,zk,zr,if_pos]<;>rfl) (by first|(simp only [go_sem,seval,↓reduceIte,zy,zz,zl,zk,zr,if_pos];done)|(simp only [go_sem,seval,↓reduceIte,zy,zz,zl,zk,zr,if_pos];rfl)|rfl) (by (try simp (disch:=omega) only [go_sem,seval,↓reduceIte,zy,zz,zl,zk,zr,if_pos])<;>rfl) ?_))|(guard_target =~ rg _ _ _ (⟨_,.pick _ _ _,_,_,_,none⟩ :: _) _ _ _;first|(refine zlA rfl (by (try simp (disch:=omega) only [go_sem,seval,↓reduceIte,zy,zz,zl,zk,zr,if_pos])<;>rfl) ?_))|(guard_target =~ rg _ _ _ (⟨_,.binOp _ _ _ _ _,_,_,_,some _⟩ :: _) _ _ _;first|(refine zjR rfl (by simp only [go_sem,seval,↓reduceIte,zy,zz,zl,zk,zr,if_pos]<;>rfl) (by first|(simp only [go_sem,seval,↓reduceIte,zy,zz,zl,zk,zr,if_pos];done)|(simp only [go_sem,seval,↓reduceIte,zy,zz,zl,zk,zr,if_pos];rfl)|rfl) (by (try simp (disch:=omega) only [go_sem,seval,↓reduceIte,zy,zz,zl,zk,zr,if_pos])<;>rfl) ?_))|(guard_target =~ rg _ _ _ [] _ _ _;first|(refine zgQ ?_))|(refine zmD rfl ?_)|(refine zs0 rfl ?_))|(guard_target =~ SOp _ _ _ _ _ _;first|(guard_target =~ SOp _ _ ⟨_,.store _ _ _,_,_,_,none⟩ _ _ _;first|(refine z0 rfl (by (try simp (disch:=omega) only [go_sem,seval,↓reduceIte,zy,zz,zl,zk,zr,if_pos])<;>rfl) (by (try simp (disch:=omega) only [go_sem,seval,↓reduceIte,zy,zz,zl,zk,zr,if_pos])<;>rfl) (by first|(simp (disch:=omega) only [go_sem,seval,↓reduceIte,zy,zz,zl,zk,zr,if_pos];done)|rfl) (by (try simp (disch:=omega) only [go_sem,seval,↓reduceIte,zy,zz,zl,zk,zr,if_pos])<;>rfl) (by (try simp (disch:=omega) only [go_sem,seval,↓reduceIte,zy,zz,zl,zk,zr,if_pos])<;>rfl) (by first|(simp (disch:=omega) only [go_sem,seval,↓reduceIte,zy,zz,zl,zk,zr,if_pos];done)|rfl) (by first|(simp (disch:=omega) only [go_sem,seval,↓reduceIte,zy,zz,zl,zk,zr,if_pos];done)|rfl) (by first|(simp (disch:=omega) only [go_sem,seval,↓reduceIte,zy,zz,zl,zk,zr,if_pos];done)|rfl) (by (try simp (disch:=omega) only [go_sem,seval,↓reduceIte,zy,zz,zl,zk,zr,if_pos])<;>rfl) (by (try simp (disch:=omega) only [go_sem,seval,↓reduceIte,zy,zz,zl,zk,zr,if_pos])<;>rfl) ?_))|(guard_target =~ SOp _ _ ⟨_,.call ⟨.value (.func 245),_,_⟩,_,_,_,none⟩ _ _ _;first|(refine zd (f:=245) rfl Tryz.call245 (by (try simp (disch:=omega) only [go_sem,seval,↓reduceIte,zy,zz,zl,zk,zr,if_pos])<;>rfl) (AEq.pure' agT zhT (by first|(simp (disch:=omega) only [go_sem,seval,↓reduceIte,zy,zz,zl,zk,zr,if_pos];done)|rfl) (by (try simp (disch:=omega) only [go_sem,seval,↓reduceIte,zy,zz,zl,zk,zr,if_pos])<;>rfl) ?_)))|(guard_target =~ SOp _ _ ⟨_,.build _ _,_,_,_,none⟩ _ _ _;first|(refine vH rfl (by first|exact zdf|exact znn|exact znp|exact znr|fail) (by (try simp (disch:=omega) only [go_sem,seval,↓reduceIte,zy,zz,zl,zk,zr,if_pos])<;>rfl) (by (try simp (disch:=omega) only [go_sem,seval,↓reduceIte,zy,zz,zl,zk,zr,if_pos])<;>rfl) (by (try simp (disch:=omega) only [go_sem,seval,↓reduceIte,zy,zz,zl,zk,zr,if_pos])<;>rfl) (by first|(simp (disch:=omega) only [go_sem,seval,↓reduceIte,zy,zz,zl,zk,zr,if_pos];done)|rfl) ?_))|(guard_target =~ SOp _ _ ⟨_,.alloc _,_,_,_,none⟩ _ _ _;first|(refine zcd rfl (by first|exact zv3|exact zv4|exact zv9|exact zj5|exact znm|exact zno|exact znq|fail) (by first|(simp (disch:=omega) only [go_sem,seval,↓reduceIte,zy,zz,zl,zk,zr,if_pos];done)|rfl) (by (try simp (disch:=omega) only [go_sem,seval,↓reduceIte,zy,zz,zl,zk,zr,if_pos])<;>rfl) (by (try simp (disch:=omega) only [go_sem,seval,↓reduceIte,zy,zz,zl,zk,zr,if_pos])<;>rfl) (by (try simp (disch:=omega) only [go_sem,seval,↓reduceIte,zy,zz,zl,zk,zr,if_pos])<;>rfl) ?_))|(guard_target =~ SOp _ _ ⟨_,.indexAddr _ _ _,_,_,_,none⟩ _ _ _;first|(refine zL rfl (by (try simp (disch:=omega) only [go_sem,seval,↓reduceIte,zy,zz,zl,zk,zr,if_pos])<;>rfl) (by first|(simp (disch:=omega) only [go_sem,seval,↓reduceIte,zy,zz,zl,zk,zr,if_pos];done)|rfl) (by (try simp (disch:=omega) only [go_sem,seval,↓reduceIte,zy,zz,zl,zk,zr,if_pos])<;>rfl) (by first|(simp (disch:=omega) only [go_sem,seval,↓reduceIte,zy,zz,zl,zk,zr,if_pos];done)|rfl) (by (try simp (disch:=omega) only [go_sem,seval,↓reduceIte,zy,zz,zl,zk,zr,if_pos])<;>rfl) lmT (by (try simp (disch:=omega) only [go_sem,seval,↓reduceIte,zy,zz,zl,zk,zr,if_pos])<;>rfl) lmT (by (try simp (disch:=omega) only [go_sem,seval,↓reduceIte,zy,zz,zl,zk,zr,if_pos])<;>rfl) (by simp (disch:=omega) only [zs6,go_sem,seval,↓reduceIte,zy,zz,zl,zk,zr,if_pos];rfl) ?_))|(guard_target =~ SOp _ _ ⟨_,.call ⟨.value (.func 246),_,_⟩,_,_,_,none⟩ _ _ _;first|(refine zd (f:=246) rfl Tryz.call246 (by (try simp (disch:=omega) only [go_sem,seval,↓reduceIte,zy,zz,zl,zk,zr,if_pos])<;>rfl) (AEq.pure' agT zkp (by first|(simp (disch:=omega) only [go_sem,seval,↓reduceIte,zy,zz,zl,zk,zr,if_pos];done)|rfl) (by (try simp (disch:=omega) only [go_sem,seval,↓reduceIte,zy,zz,zl,zk,zr,if_pos])<;>rfl) ?_))))|(guard_target =~ (_ ∨ _) ∧ _;first|((refine zY [] exT (by rfl) (by rw [Tryz.results234];exact Lf.jP (by (try simp (disch:=omega) only [Lf.zD,go_sem,seval,↓reduceIte,zy,zz,zl,zk,zr,if_pos]);rfl) (by (try simp (disch:=omega) only [Lf.zD,go_sem,seval,↓reduceIte,zy,zz,zl,zk,zr,if_pos]);rfl)) (by (try simp (disch:=omega) only [go_sem,seval,↓reduceIte,zy,zz,zl,zk,zr,if_pos])<;>rfl) (by (try simp (disch:=omega) only [go_sem,seval,↓reduceIte,zy,zz,zl,zk,zr,if_pos])<;>rfl) (zu ?_ ?_) ?_)<;>(try (first|exact zh|exact stq (by with_reducible rfl)|exact stq (by rfl)|exact stq (by simp (disch:=omega) only [go_sem,seval,↓reduceIte,zy,zz,zl,zk,zr,if_pos])))))|(refine hK _ _ ?_;clear hK K))
 ·exact zA (by simp only [zfb];rw [zuG i (by omega) hcd])
 ·exact zA (by simp only [zfb];rw [zrq i (by omega) hcd])
def znS : List Int:=[2,3,4,5,6,7,8,9,10,11,12,13,14,16]
theorem zf8 (i : Int) (h : ¬ i ∈ znS) : (vh i).2 = ⟨#[]⟩:=by
 by_cases hi : 1 ≤ i ∧ i ≤ 61
 ·have key : ∀ k : Fin 61, ¬ ((k.val : Int) + 1) ∈ znS → (stTab[k.val]'(by rw [km]; exact k.isLt)).2 = ⟨#[]⟩ := by decide
  obtain ⟨h2,e⟩:=zau i hi
  rw [e]
  refine key ⟨i.toNat - 1,by omega⟩ ?_
  rw [show ((i.toNat - 1 : Nat) : Int) + 1 = i from by omega]
  exact h
 ·rw [zfc i (by omega)]
def va (p : Int → Bool) : Nat → Int
 | 0=>0
 | k + 1=>if va p k ≠ 0 then va p k else if p ((k : Int) + 1) = true then (k : Int) + 1 else 0
def IsFirst (p : Int → Bool) (r lo hi : Int) : Prop:=(r = 0 ∧ ∀ i,lo ≤ i → i ≤ hi → p i = false) ∨ (lo ≤ r ∧ r ≤ hi ∧ p r = true ∧ ∀ i,lo ≤ i → i < r → p i = false)
theorem yR (p : Int → Bool) : ∀ k : Nat, IsFirst p (va p k) 1 k
 | 0=>.inl ⟨rfl,fun i h1 h2=>by omega⟩
 | k + 1=>by
  have ih:=yR p k
  unfold va
  rcases ih with ⟨h,hn⟩|⟨h1,h2,h3,h4⟩
  ·rw [if_neg (by simp [h])]
   by_cases hp : p ((k : Int) + 1) = true
   ·rw [if_pos hp]
    exact .inr ⟨by omega,by omega,hp,fun i h1 h2=>hn i h1 (by omega)⟩
   ·rw [if_neg hp]
    refine .inl ⟨rfl,fun i h1 h2=>?_⟩
    by_cases hi : i = (k : Int) + 1
    ·subst hi;simpa using hp
    ·exact hn i h1 (by omega)
  ·rw [if_pos (by omega)]
   exact .inr ⟨h1,by omega,h3,h4⟩
theorem IsFirst.uniq {p : Int → Bool} {r s hi : Int} (h : IsFirst p r 1 hi) (k : IsFirst p s 1 hi) : r = s:=by
 rcases h with ⟨h,hn⟩|⟨h1,h2,h3,h4⟩<;>rcases k with ⟨k,kn⟩|⟨k1,k2,k3,k4⟩
 ·omega
 ·rw [hn s k1 k2] at k3;cases k3
 ·rw [kn r h1 h2] at h3;cases h3
 ·rcases Int.lt_trichotomy r s with c | c | c
  ·rw [k4 r h1 c] at h3;cases h3
  ·exact c
  ·rw [h4 s k1 c] at k3;cases k3
theorem IsFirst.up {p : Int → Bool} {r : Int} (h : IsFirst p r 1 61) : r = va p 61:=h.uniq (yR p 61)
def zbk (n : ByteArray) (i : Int) : Bool:=decide ((vh i).1 = n)
def ji (n v : ByteArray) (i : Int) : Bool:=decide ((vh i).1 = n ∧ (vh i).2 = v)
def zhU (n v : ByteArray) : Bool:=decide (va (ji n v) 61 ≠ 0)
def zbK (n v : ByteArray) : Int:=if va (ji n v) 61 ≠ 0 then va (ji n v) 61 else va (zbk n) 61
theorem zco {n v : ByteArray} {i : Int} (h1 : 1 ≤ i ∧ i ≤ 61) (h2 : ∀ k,1 ≤ k → k < i → ji n v k = false) (h3 : ji n v i = true) : zbK n v = i ∧ zhU n v = true:=by
 have : IsFirst (ji n v) i 1 61:=.inr ⟨h1.1,h1.2,h3,h2⟩
 have:=this.up
 simp only [zbK,zhU,← this]
 rw [if_pos (by omega)]
 exact ⟨rfl,by simp;omega⟩
theorem zcp {n v : ByteArray} {r : Int} (h1 : ∀ k,1 ≤ k → k ≤ 61 → ji n v k = false) (h2 : IsFirst (zbk n) r 1 61) : zbK n v = r ∧ zhU n v = false:=by
 have h0 : IsFirst (ji n v) 0 1 61:=.inl ⟨rfl,h1⟩
 have:=h0.up
 have h3:=h2.up
 simp only [zbK,zhU,← this]
 simp [h3]
theorem zhV {v : ByteArray} : zbK ⟨#[]⟩ v = 0 ∧ zhU ⟨#[]⟩ v = false:=by
 refine zcp (fun k h1 h2=>?_) (.inl ⟨rfl,fun k h1 h2=>?_⟩)
 ·simp [ji,jS k ⟨h1,h2⟩]
 ·simp [zbk,jS k ⟨h1,h2⟩]
theorem zdk (n v : ByteArray) : 0 ≤ zbK n v ∧ zbK n v ≤ 61:=by
 unfold zbK
 have a:=yR (ji n v) 61
 have b:=yR (zbk n) 61
 split
 ·rcases a with ⟨a,_⟩|⟨a,a',_⟩<;>omega
 ·rcases b with ⟨b,_⟩|⟨b,b',_⟩<;>omega
theorem zfe (i : Int) : AEq Tryz.prog 193 [i64 i] [] (.lit (.string (vh i).2)) []:=by
 refine zc Tryz.func193 rfl Tryz.ntmps193 (by simp) (fun hsc=>?_);simp only [Lf.enter,Nat.reduceAdd];clear hsc
 have hU:=True.intro
 repeat' (first|(refine goR ?_)|(refine za (fun K hK=>?_))|((refine zb (fun hcd=>?_) (fun hcd=>?_))<;>(try simp only [hcP] at hcd)<;>(try exact cdT))|((refine ze [] (by rw [Tryz.results193,Lf.zt]) (zj ?_) ?_)<;>(try (first|exact zh|exact stT)))|(refine hK _ _ ?_;clear hK K))
 all_goals (first|(subst hcd;exact zA rfl)|exact zA (by rw [zf8 i (by simp [znS, *])]))
theorem zkq (i : Int) (h : i < 1 ∨ 35 < i) : AEq Tryz.prog 219 [i64 i] [] (.lit (.string (vh i).1)) []:=by
 refine zc Tryz.func219 rfl Tryz.ntmps219 (by simp) (fun hsc=>?_);simp only [Lf.enter,Nat.reduceAdd];clear hsc
 have hU:=True.intro
 repeat' (first|(refine goR ?_)|(refine za (fun K hK=>?_))|((refine zb (fun hcd=>?_) (fun hcd=>?_))<;>(try simp only [hcP] at hcd)<;>(try exact cdT))|((refine ze [] (by rw [Tryz.results219,Lf.zt]) (zj ?_) ?_)<;>(try (first|exact zh|exact stT)))|(refine hK _ _ ?_;clear hK K))
 all_goals (first|(subst hcd;exact zA rfl)|exact zA (by rw [zfc i (by omega)]))
theorem zd9 (i : Int) : AEq Tryz.prog 192 [i64 i] [] (.lit (.string (vh i).1)) []:=by
 refine zc Tryz.func192 rfl Tryz.ntmps192 (by simp) (fun hsc=>?_);simp only [Lf.enter,Nat.reduceAdd];clear hsc
 have hU:=True.intro
 repeat' (first|(refine goR ?_)|(refine za (fun K hK=>?_))|((refine zb (fun hcd=>?_) (fun hcd=>?_))<;>(try simp only [hcP] at hcd)<;>(try exact cdT))|(refine zd (f:=219) rfl Tryz.call219 (h:=AEq.pure' (hc:=zkq _ (by omega)) (hq:=?_)))|((refine ze [] (by rw [Tryz.results192,Lf.zt]) (zj ?_) ?_)<;>(try (first|exact zh|exact stT)))|(refine hK _ _ ?_;clear hK K))
 all_goals (first|(subst hcd;exact zA rfl)|skip)
theorem zbL (i : Int) (h : 1 ≤ i ∧ i ≤ 61) : AEq Tryz.prog 166 [i64 i] [] (.tu [.ag (zfb (vh i)),bl true]) []:=by
 have hn:=jS i h
 refine zc Tryz.func166 rfl Tryz.ntmps166 (by simp) (fun hsc=>?_);simp only [Lf.enter,Nat.reduceAdd];clear hsc
 have hU:=True.intro
 repeat' (first|(refine goR ?_)|(refine za (fun K hK=>?_))|((refine zb (fun hcd=>?_) (fun hcd=>?_))<;>(try simp only [hcP] at hcd)<;>(try exact cdT))|(refine zd (f:=192) rfl Tryz.call192 (h:=AEq.pure' (hc:=zd9 _) (hq:=?_)))|(refine zd (f:=193) rfl Tryz.call193 (h:=AEq.pure' (hc:=zfe _) (hq:=?_)))|((refine zY [] exT (by rfl) (by rw [Tryz.results166];exact Lf.jP roT roT) sT sT (zu ?_ ?_) ?_)<;>(try (first|exact zh|exact stT)))|(refine hK _ _ ?_;clear hK K))
theorem IsFirst.not {p : Int → Bool} {r k : Int} (h : IsFirst p r 1 k) (hp : p (k + 1) = false) : IsFirst p r 1 (k + 1):=by
 rcases h with ⟨h,hn⟩|⟨h1,h2,h3,h4⟩
 ·refine .inl ⟨h, fun i a b => ?_⟩
  by_cases hi : i = k + 1
  ·rw [hi];exact hp
  ·exact hn i a (by omega)
 ·exact .inr ⟨h1,by omega,h3,h4⟩
theorem IsFirst.old {p : Int → Bool} {r k : Int} (h : IsFirst p r 1 k) (hr : ¬ r = 0) : IsFirst p r 1 (k + 1):=by
 rcases h with ⟨h,hn⟩|⟨h1,h2,h3,h4⟩
 ·exact absurd h hr
 ·exact .inr ⟨h1,by omega,h3,h4⟩
theorem IsFirst.new {p : Int → Bool} {r k : Int} (h : IsFirst p r 1 k) (hk : 0 ≤ k) (hr : r = 0) (hp : p (k + 1) = true) : IsFirst p (k + 1) 1 (k + 1):=by
 rcases h with ⟨h,hn⟩|⟨h1,h2,h3,h4⟩
 ·exact .inr ⟨by omega,by omega,hp,fun i a b=>hn i a (by omega)⟩
 ·omega
theorem IsFirst.dnot {p : Int → Bool} {r k : Int} (h : IsFirst p r (k + 1) 61) (hp : p k = false) : IsFirst p r k 61:=by
 have key : ∀ i,k ≤ i → (k + 1 ≤ i → p i = false) → p i = false:=by
  intro i a b
  by_cases hi : i = k
  ·rw [hi];exact hp
  ·exact b (by omega)
 rcases h with ⟨h,hn⟩|⟨h1,h2,h3,h4⟩
 ·exact .inl ⟨h,fun i a b=>key i a fun a=>hn i a b⟩
 ·exact .inr ⟨by omega,h2,h3,fun i a b=>key i a fun a=>h4 i a b⟩
theorem IsFirst.dnew {p : Int → Bool} {k : Int} (hk : k ≤ 61) (hp : p k = true) : IsFirst p k k 61:=
 .inr ⟨by omega,hk,hp,fun i a b=>by omega⟩
theorem zea (p : Int → Bool) : IsFirst p 0 62 61:=.inl ⟨rfl,fun i a b=>by omega⟩
theorem zeb (p : Int → Bool) : IsFirst p 0 1 0:=.inl ⟨rfl,fun i a b=>by omega⟩
set_option maxRecDepth 20000 in
set_option maxHeartbeats 4000000 in
theorem zec (n v : ByteArray) : AEq Tryz.prog 225 [.lit (.string n),.lit (.string v)] [] (.tu [i64 (zbK n v),bl (zhU n v)]) []:=by
 refine zc Tryz.func225 rfl Tryz.ntmps225 (by simp) (fun hsc=>?_);simp only [Lf.enter,Nat.reduceAdd];clear hsc
 have hU:=True.intro
 repeat' (first|(refine goR ?_)|(refine za (fun K hK=>?_))|(refine hK _ _ ?_;clear hK K))
 refine zU [4,5,6,7,8,9,10,11,12,13,14,15,16,17,18,19,20,21,22,23,24,25,26,27,28,29,30] [] (fun s : Int × Int=>[(7,i64 (s.1 + 1)),(6,i64 s.2)]) (fun _=>[]) (fun s=>0 ≤ s.1 ∧ s.1 ≤ 61 ∧ (∀ k,1 ≤ k → k ≤ s.1 → ji n v k = false) ∧ IsFirst (zbk n) s.2 1 s.1) (fun s=>(61 - s.1).toNat) (0,0) (fun _=>rfl) rfl rfl ⟨by decide,by decide,fun k _ _=>by omega,zeb _⟩ ?_ rfl (by intro s i x h;simp only [List.mem_cons,Prod.mk.injEq,List.not_mem_nil,or_false] at h;rcases h with ⟨rfl,_⟩|⟨rfl,_⟩<;>decide) ?_
 ·(refine ⟨⟨_,sT,?_⟩,⟨_,sT,?_⟩,trivial⟩<;>(try (first|exact zh)))
 ·rintro ⟨c, r⟩ ⟨h0, h1, hf, hr⟩
  dsimp only at h0 h1 hf hr
  simp only [yn,List.map_cons,List.map_nil,List.cons_append,List.nil_append]
  have ext : ji n v (c + 1) = false → ∀ k,1 ≤ k → k ≤ c + 1 → ji n v k = false:=by
   intro h k h1 h2
   by_cases hk : k = c + 1
   ·rw [hk];exact h
   ·exact hf k h1 (by omega)
  by_cases hlt : c < 61
  ·repeat' (first | (refine goR ?_) | (refine za (fun K hK => ?_)) | ((refine zb (fun hcd => ?_) (fun hcd => ?_)) <;> (try simp only [hcP] at hcd) <;> (try exact cdT)) | (refine zd (f := 234) rfl Tryz.call234 (h := AEq.pure' (hc := zbJ _ (by omega)) (hq := ?_))) | ((refine ze [] (by rw [Tryz.results225, Lf.yb]) (zu ?_ ?_) ?_) <;> (try (first | exact zh | exact stT))) | (refine hK _ _ ?_; clear hK K) | (apply_assumption (exfalso := false) (symm := false)))
   ·refine ⟨(c + 1, r), ⟨by omega, by omega, ext (by simp [ji, hcd]), hr.not (by simp [zbk, hcd])⟩, by dsimp only; omega, ?_, arT, srT⟩
    (refine ⟨⟨_,sT,?_⟩,⟨_,sT,?_⟩,trivial⟩<;>(try (first|exact zh)))
   ·rename_i ha _
    exact zA (by rw [(zco (i:=c + 1) ⟨by omega,by omega⟩ (fun k h1 h2=>hf k h1 (by omega)) (by simp [ji, *])).1])
   ·exact zA (by rw [(zco (i:=c + 1) ⟨by omega,by omega⟩ (fun k h1 h2=>hf k h1 (by omega)) (by simp [ji, *])).2])
   ·refine ⟨(c + 1, c + 1), ⟨by omega, by omega, ext (by simp [ji, *]), hr.new h0 hcd (by simp [zbk, *])⟩, by dsimp only; omega, ?_, arT, srT⟩
    (refine ⟨⟨_,sT,?_⟩,⟨_,sT,?_⟩,trivial⟩<;>(try (first|exact zh)))
   ·refine ⟨(c + 1, r), ⟨by omega, by omega, ext (by simp [ji, *]), hr.old hcd⟩, by dsimp only; omega, ?_, arT, srT⟩
    (refine ⟨⟨_,sT,?_⟩,⟨_,sT,?_⟩,trivial⟩<;>(try (first|exact zh)))
  ·obtain rfl : c = 61 := by omega
   have hm:=zcp hf hr
   repeat' (first|(refine goR ?_)|(refine za (fun K hK=>?_))|((refine zb (fun hcd=>?_) (fun hcd=>?_))<;>(try simp only [hcP] at hcd)<;>(try exact cdT))|((refine ze [] (by rw [Tryz.results225,Lf.yb]) (zu ?_ ?_) ?_)<;>(try (first|exact zh|exact stT)))|(refine hK _ _ ?_;clear hK K)|(apply_assumption (exfalso:=false) (symm:=false)))
   ·exact zA (by rw [hm.1])
   ·exact zA (by rw [hm.2])
set_option maxRecDepth 20000 in
set_option maxHeartbeats 4000000 in
theorem znT (n v : ByteArray) : AEq Tryz.prog 208 [.lit (.string n),.lit (.string v)] [] (.tu [i64 (zbK n v),bl (zhU n v)]) []:=by
  by_cases hn : n = ⟨#[]⟩
  · have he := zhV (v := v)
    subst hn
    refine zc Tryz.func208 rfl Tryz.ntmps208 (by simp) (fun hsc=>?_);simp only [Lf.enter,Nat.reduceAdd];clear hsc
    have hU:=True.intro
    repeat' (first|(refine goR ?_)|(refine za (fun K hK=>?_))|((refine zb (fun hcd=>?_) (fun hcd=>?_))<;>(try simp only [hcP] at hcd)<;>(try exact cdT))|((refine ze [] (by rw [Tryz.results208,Lf.yb]) (zu ?_ ?_) ?_)<;>(try (first|exact zh|exact stT)))|(refine hK _ _ ?_;clear hK K))
  refine zc Tryz.func208 rfl Tryz.ntmps208 (by simp) (fun hsc=>?_);simp only [Lf.enter,Nat.reduceAdd];clear hsc
  have hU:=True.intro
  repeat' (first|(refine goR ?_)|(refine za (fun K hK=>?_))|((refine zb (fun hcd=>?_) (fun hcd=>?_))<;>(try simp only [hcP] at hcd)<;>(try exact cdT))|(refine hK _ _ ?_;clear hK K))
  refine zo [6,7,11,12,13,14,15,16,17,18,19] (fun s : Int × Int=>[(7,i64 s.1),(6,i64 s.2)]) (fun _=>[]) (fun s=>0 ≤ s.1 ∧ s.1 ≤ 61 ∧ IsFirst (zbk n) s.2 (s.1 + 1) 61) (fun s=>s.1.toNat) (61,0) ⟨by decide,by decide,zea _⟩ ?_ rfl ?_
  · (refine ⟨⟨_,sT,?_⟩,⟨_,sT,?_⟩,trivial⟩<;>(try (first|exact zh)))
  · rintro ⟨c, r⟩ ⟨h0, h1, hr⟩
    dsimp only at h0 h1 hr
    simp only [yn,List.map_cons,List.map_nil,List.cons_append,List.nil_append]
    by_cases hlt : 1 ≤ c
    · repeat' (first | (refine goR ?_) | (refine za (fun K hK => ?_)) | ((refine zb (fun hcd => ?_) (fun hcd => ?_)) <;> (try simp only [hcP] at hcd) <;> (try exact cdT)) | (refine zd (f := 192) rfl Tryz.call192 (h := AEq.pure' (hc := zd9 _) (hq := ?_))) | (refine hK _ _ ?_; clear hK K))
      · refine ⟨(c - 1, c), ⟨by omega, by omega, by rw [show c - 1 + 1 = c from by omega]; exact IsFirst.dnew h1 (by simp [zbk, hcd])⟩, by dsimp only; omega, ?_, arT, srT⟩
        (refine ⟨⟨_,sT,?_⟩,⟨_,sT,?_⟩,trivial⟩<;>(try (first|exact zh)))
      · refine ⟨(c - 1, r), ⟨by omega, by omega, by rw [show c - 1 + 1 = c from by omega]; exact hr.dnot (by simp [zbk, hcd])⟩, by dsimp only; omega, ?_, arT, srT⟩
        (refine ⟨⟨_,sT,?_⟩,⟨_,sT,?_⟩,trivial⟩<;>(try (first|exact zh)))
    · obtain rfl : c = 0 := by omega
      repeat' (first|(refine goR ?_)|(refine za (fun K hK=>?_))|((refine zb (fun hcd=>?_) (fun hcd=>?_))<;>(try simp only [hcP] at hcd)<;>(try exact cdT))|(refine hK _ _ ?_;clear hK K)|(apply_assumption (exfalso:=false) (symm:=false)))
      refine zo [4,5,8,20,21,22,23,24,25,26,27,28,29,30,31,32,33,34] (fun c : Int=>[(8,i64 (c + 1))]) (fun _=>[]) (fun c=>0 ≤ c ∧ c ≤ 61 ∧ (∀ k,1 ≤ k → k ≤ c → ji n v k = false)) (fun c=>(61 - c).toNat) 0 ⟨by decide,by decide,fun k _ _=>by omega⟩ ?_ rfl ?_
      · (refine ⟨⟨_,sT,?_⟩,trivial⟩<;>(try (first|exact zh)))
      · rintro c ⟨h0, h1, hf⟩
        simp only [yn,List.map_cons,List.map_nil,List.cons_append,List.nil_append]
        by_cases hlt : c < 61
        · have ext : ji n v (c + 1) = false → ∀ k,1 ≤ k → k ≤ c + 1 → ji n v k = false:=by
            intro h k h1 h2
            by_cases hk : k = c + 1
            · rw [hk];exact h
            · exact hf k h1 (by omega)
          repeat' (first|(refine goR ?_)|(refine za (fun K hK=>?_))|((refine zb (fun hcd=>?_) (fun hcd=>?_))<;>(try simp only [hcP] at hcd)<;>(try exact cdT))|(guard_target =~ rg _ _ _ (⟨_,_,_,_,_,some _⟩ :: _) _ _ _;(first|refine zv gT (fun hcd=>?_) (fun hcd=>?_)|refine zp gT (fun hcd=>?_) (fun hcd=>?_))<;>(try simp only [hcd])<;>(try (simp only [Bool.not_eq_true',Bool.not_eq_false'] at hcd;try simp only [hcd]))<;>(refine vC (Γ2:=_) ewT ?_)<;>(try simp only [hcP] at hcd)<;>(try exact cdT))|(refine zd (f:=192) rfl Tryz.call192 (h:=AEq.pure' (hc:=zd9 _) (hq:=?_)))|(refine zd (f:=193) rfl Tryz.call193 (h:=AEq.pure' (hc:=zfe _) (hq:=?_)))|((refine ze [] (by rw [Tryz.results208,Lf.yb]) (zu ?_ ?_) ?_)<;>(try (first|exact zh|exact stT)))|(refine hK _ _ ?_;clear hK K))
          · exact zA (by rw [(zco (i:=c + 1) ⟨by omega,by omega⟩ (fun k h1 h2=>hf k h1 (by omega)) (by simp [ji, *])).1])
          · exact zA (by rw [(zco (i:=c + 1) ⟨by omega,by omega⟩ (fun k h1 h2=>hf k h1 (by omega)) (by simp [ji, *])).2])
          · refine ⟨c + 1, ⟨by omega, by omega, ext (by simp [ji, *])⟩, by omega, ?_, arT, srT⟩
            (refine ⟨⟨_,sT,?_⟩,trivial⟩<;>(try (first|exact zh)))
          · refine ⟨c + 1, ⟨by omega, by omega, ext (by simp [ji, *])⟩, by omega, ?_, arT, srT⟩
            (refine ⟨⟨_,sT,?_⟩,trivial⟩<;>(try (first|exact zh)))
        · obtain rfl : c = 61 := by omega
          have hm:=zcp hf hr
          repeat' (first|(refine goR ?_)|(refine za (fun K hK=>?_))|((refine zb (fun hcd=>?_) (fun hcd=>?_))<;>(try simp only [hcP] at hcd)<;>(try exact cdT))|((refine ze [] (by rw [Tryz.results208,Lf.yb]) (zu ?_ ?_) ?_)<;>(try (first|exact zh|exact stT)))|(refine hK _ _ ?_;clear hK K)|(apply_assumption (exfalso:=false) (symm:=false)))
          · exact zA (by rw [hm.1])
          · exact zA (by rw [hm.2])
end Go.Proofs.YtdalcgfnlbofdaaGreatDoor
