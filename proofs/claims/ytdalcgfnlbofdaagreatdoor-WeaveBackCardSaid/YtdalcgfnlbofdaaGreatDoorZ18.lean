import Derived.Test.YtdalcgfnlbofdaaGreatDoorZ02
import Derived.Test.YtdalcgfnlbofdaaGreatDoorZ17
set_option linter.unusedVariables false
set_option linter.unusedSimpArgs false
namespace Go.Proofs.YtdalcgfnlbofdaaGreatDoor
open Go Go.Lf Go.Proofs
attribute [local irreducible] Lf.rg Lf.ro Lf.PWp Lf.SOp Lf.ACall Lf.Scoped Lf.dg Lf.dw
set_option maxRecDepth 20000
set_option maxHeartbeats 4000000
def stTab: List (ByteArray×ByteArray):=[(⟨#[58,97,117,116,104,111,114,105,116,121]⟩,⟨#[]⟩),(⟨#[58,109,101,116,104,111,100]⟩,⟨#[71,69,84]⟩),(⟨#[58,109,101,116,104,111,100]⟩,⟨#[80,79,83,84]⟩),(⟨#[58,112,97,116,104]⟩,⟨#[47]⟩),(⟨#[58,112,97,116,104]⟩,⟨#[47,105,110,100,101,120,46,104,116,109,108]⟩),(⟨#[58,115,99,104,101,109,101]⟩,⟨#[104,116,116,112]⟩),(⟨#[58,115,99,104,101,109,101]⟩,⟨#[104,116,116,112,115]⟩),(⟨#[58,115,116,97,116,117,115]⟩,⟨#[50,48,48]⟩),(⟨#[58,115,116,97,116,117,115]⟩,⟨#[50,48,52]⟩),(⟨#[58,115,116,97,116,117,115]⟩,⟨#[50,48,54]⟩),(⟨#[58,115,116,97,116,117,115]⟩,⟨#[51,48,52]⟩),(⟨#[58,115,116,97,116,117,115]⟩,⟨#[52,48,48]⟩),(⟨#[58,115,116,97,116,117,115]⟩,⟨#[52,48,52]⟩),(⟨#[58,115,116,97,116,117,115]⟩,⟨#[53,48,48]⟩),(⟨#[97,99,99,101,112,116,45,99,104,97,114,115,101,116]⟩,⟨#[]⟩),(⟨#[97,99,99,101,112,116,45,101,110,99,111,100,105,110,103]⟩,⟨#[103,122,105,112,44,32,100,101,102,108,97,116,101]⟩),(⟨#[97,99,99,101,112,116,45,108,97,110,103,117,97,103,101]⟩,⟨#[]⟩),(⟨#[97,99,99,101,112,116,45,114,97,110,103,101,115]⟩,⟨#[]⟩),(⟨#[97,99,99,101,112,116]⟩,⟨#[]⟩),(⟨#[97,99,99,101,115,115,45,99,111,110,116,114,111,108,45,97,108,108,111,119,45,111,114,105,103,105,110]⟩,⟨#[]⟩),(⟨#[97,103,101]⟩,⟨#[]⟩),(⟨#[97,108,108,111,119]⟩,⟨#[]⟩),(⟨#[97,117,116,104,111,114,105,122,97,116,105,111,110]⟩,⟨#[]⟩),(⟨#[99,97,99,104,101,45,99,111,110,116,114,111,108]⟩,⟨#[]⟩),(⟨#[99,111,110,116,101,110,116,45,100,105,115,112,111,115,105,116,105,111,110]⟩,⟨#[]⟩),(⟨#[99,111,110,116,101,110,116,45,101,110,99,111,100,105,110,103]⟩,⟨#[]⟩),(⟨#[99,111,110,116,101,110,116,45,108,97,110,103,117,97,103,101]⟩,⟨#[]⟩),(⟨#[99,111,110,116,101,110,116,45,108,101,110,103,116,104]⟩,⟨#[]⟩),(⟨#[99,111,110,116,101,110,116,45,108,111,99,97,116,105,111,110]⟩,⟨#[]⟩),(⟨#[99,111,110,116,101,110,116,45,114,97,110,103,101]⟩,⟨#[]⟩),(⟨#[99,111,110,116,101,110,116,45,116,121,112,101]⟩,⟨#[]⟩),(⟨#[99,111,111,107,105,101]⟩,⟨#[]⟩),(⟨#[100,97,116,101]⟩,⟨#[]⟩),(⟨#[101,116,97,103]⟩,⟨#[]⟩),(⟨#[101,120,112,101,99,116]⟩,⟨#[]⟩),(⟨#[101,120,112,105,114,101,115]⟩,⟨#[]⟩),(⟨#[102,114,111,109]⟩,⟨#[]⟩),(⟨#[104,111,115,116]⟩,⟨#[]⟩),(⟨#[105,102,45,109,97,116,99,104]⟩,⟨#[]⟩),(⟨#[105,102,45,109,111,100,105,102,105,101,100,45,115,105,110,99,101]⟩,⟨#[]⟩),(⟨#[105,102,45,110,111,110,101,45,109,97,116,99,104]⟩,⟨#[]⟩),(⟨#[105,102,45,114,97,110,103,101]⟩,⟨#[]⟩),(⟨#[105,102,45,117,110,109,111,100,105,102,105,101,100,45,115,105,110,99,101]⟩,⟨#[]⟩),(⟨#[108,97,115,116,45,109,111,100,105,102,105,101,100]⟩,⟨#[]⟩),(⟨#[108,105,110,107]⟩,⟨#[]⟩),(⟨#[108,111,99,97,116,105,111,110]⟩,⟨#[]⟩),(⟨#[109,97,120,45,102,111,114,119,97,114,100,115]⟩,⟨#[]⟩),(⟨#[112,114,111,120,121,45,97,117,116,104,101,110,116,105,99,97,116,101]⟩,⟨#[]⟩),(⟨#[112,114,111,120,121,45,97,117,116,104,111,114,105,122,97,116,105,111,110]⟩,⟨#[]⟩),(⟨#[114,97,110,103,101]⟩,⟨#[]⟩),(⟨#[114,101,102,101,114,101,114]⟩,⟨#[]⟩),(⟨#[114,101,102,114,101,115,104]⟩,⟨#[]⟩),(⟨#[114,101,116,114,121,45,97,102,116,101,114]⟩,⟨#[]⟩),(⟨#[115,101,114,118,101,114]⟩,⟨#[]⟩),(⟨#[115,101,116,45,99,111,111,107,105,101]⟩,⟨#[]⟩),(⟨#[115,116,114,105,99,116,45,116,114,97,110,115,112,111,114,116,45,115,101,99,117,114,105,116,121]⟩,⟨#[]⟩),(⟨#[116,114,97,110,115,102,101,114,45,101,110,99,111,100,105,110,103]⟩,⟨#[]⟩),(⟨#[117,115,101,114,45,97,103,101,110,116]⟩,⟨#[]⟩),(⟨#[118,97,114,121]⟩,⟨#[]⟩),(⟨#[118,105,97]⟩,⟨#[]⟩),(⟨#[119,119,119,45,97,117,116,104,101,110,116,105,99,97,116,101]⟩,⟨#[]⟩)]
def v6(i:Int): ByteArray×ByteArray:=if 1<=i then stTab.getD (i.toNat-1) (⟨#[]⟩,⟨#[]⟩)else(⟨#[]⟩,⟨#[]⟩)
@[go_sem] def zgJ(f:ByteArray×ByteArray): List AV:=[.lit (.string f.1),.lit (.string f.2),bl false]
abbrev comA: List AV:=(stTab.take 14).flatMap fun p=>[str p.1,str p.2]
abbrev zv8: List AV:=(stTab.drop 14).map fun p=>str p.1
theorem zA(f:Nat->Nat): rnl f comA=comA:=rfl
theorem zB(f:Nat->Nat): rnl f zv8=zv8:=rfl
theorem zbS: stTab.length=61:=rfl
theorem zgK(i:Int)(h:1<=i/\i<=61): ∃h2:i.toNat-1<stTab.length,v6 i=stTab[i.toNat-1]:=by
 refine⟨by rw[zbS];omega,?_⟩
 unfold v6
 rw[if_pos h.1,List.getD_eq_getElem?_getD,List.getElem?_eq_getElem (by rw[zbS];omega)];rfl
theorem zgL(p:ByteArray×ByteArray->Bool)(h:(stTab.drop 14).all p=true)(i:Int)(hi:15<=i/\i<=61): p (v6 i)=true:=by
 obtain⟨h2,e⟩:=zgK i ⟨by omega,hi.2⟩
 rw[e]
 refine List.all_eq_true.1 h _ ?_
 rw[List.mem_iff_getElem?]
 refine⟨i.toNat-15,?_⟩
 rw[List.getElem?_drop,List.getElem?_eq_some_iff]
 refine⟨by rw[zbS];omega,?_⟩
 congr 1
 omega
theorem zyq(i:Int)(hi:15<=i/\i<=61)(h:(v6 i).1=⟨#[97,99,99,101,112,116,45,101,110,99,111,100,105,110,103]⟩): (v6 i).2=⟨#[103,122,105,112,44,32,100,101,102,108,97,116,101]⟩:=by
 have:=zgL (fun f=>decide (f.1=⟨#[97,99,99,101,112,116,45,101,110,99,111,100,105,110,103]⟩->f.2=⟨#[103,122,105,112,44,32,100,101,102,108,97,116,101]⟩)) (by decide) i hi
 exact of_decide_eq_true this h
theorem zuR(i:Int)(hi:15<=i/\i<=61)(h:¬(v6 i).1=⟨#[97,99,99,101,112,116,45,101,110,99,111,100,105,110,103]⟩): (v6 i).2=⟨#[]⟩:=by
 have:=zgL (fun f=>decide (¬f.1=⟨#[97,99,99,101,112,116,45,101,110,99,111,100,105,110,103]⟩->f.2=⟨#[]⟩)) (by decide) i hi
 exact of_decide_eq_true this h
theorem zp(i:Int)(h:15<=i/\i<=61): zv8[(i-1-14).toNat*1]?=some (str (v6 i).1):=by
 obtain⟨h2,e⟩:=zgK i ⟨by omega,by omega⟩
 have hj:14+(i-1-14).toNat*1=i.toNat-1:=by omega
 rw[List.getElem?_map,List.getElem?_drop,hj,List.getElem?_eq_getElem h2,e]
 rfl
theorem zm(i:Int)(h:1<=i/\i<=14): List.take 2 (List.drop ((i-1).toNat*2) comA)=[str (v6 i).1,str (v6 i).2]:=by
 have hi:i=1\/i=2\/i=3\/i=4\/i=5\/i=6\/i=7\/i=8\/i=9\/i=10\/i=11\/i=12\/i=13\/i=14:=by omega
 rcases hi with rfl|rfl|rfl|rfl|rfl|rfl|rfl|rfl|rfl|rfl|rfl|rfl|rfl|rfl<;>rfl
@[go_sem] theorem zGi(a b:ByteArray): (a.toList == b.toList)=decide (a=b):=by
 obtain⟨⟨a⟩⟩:=a;obtain⟨⟨b⟩⟩:=b
 rw[ByteArray.toList_eq,ByteArray.toList_eq]
 by_cases h:a=b<;>simp[h]
theorem zy: comA.length=28:=rfl
theorem zj9: AEq Tryz.prog 245 [] [] (.ag comA) []:=by
 refine enT Tryz.func245 Tryz.ntmps245 ?_
 have hU:=True.intro
 repeat'(first|refine goR ?_|refine zd fun K hK=>?_|((refine zX [] exT (by rfl) (by rw[Tryz.results245,Lf.zap];(try simp(disch:=omega)only[Lf.z3,go_sem,seval,↓reduceIte,hU]);rfl) sT sT (zw ?_) ?_)<;>(try exact uT))|refine hK _ _ ?_;clear hK K)
theorem zmY: AEq Tryz.prog 246 [] [] (.ag zv8) []:=by
 refine enT Tryz.func246 Tryz.ntmps246 ?_
 have hU:=True.intro
 repeat'(first|refine goR ?_|refine zd fun K hK=>?_|((refine zX [] exT (by rfl) (by rw[Tryz.results246,Lf.zap];(try simp(disch:=omega)only[Lf.z3,go_sem,seval,↓reduceIte,hU]);rfl) sT sT (zw ?_) ?_)<;>(try exact uT))|refine hK _ _ ?_;clear hK K)
theorem zax(i:Int)(h:1<=i/\i<=61): AEq Tryz.prog 234 [i64 i] [] (.tu [.ag (zgJ (v6 i)),bl true]) []:=by
 refine enT Tryz.func234 Tryz.ntmps234 ?_
 repeat'(first|(guard_target =~ PWp _ _ _ _ _ _ _;first|refine zd fun K hK=>?_|refine jQ ?_|refine kb ?_|refine zcQ ?_|refine zcP ?_|((refine zcR (by(try simp(disch:=omega)only[go_sem,seval,↓reduceIte,zA,zB,zp,zm,zy,if_pos])<;>rfl) (fun hcd=>?_) (fun hcd=>?_))<;>(try simp only[hcP]at hcd)<;>(try exact cdT)))|(guard_target =~ rg _ _ _ _ _ _ _;first|(guard_target =~ rg _ _ _ (⟨_,.move _,_,_,_,none⟩::_) _ _ _;first|(refine zfT rfl (by(try simp(disch:=omega)only[go_sem,seval,↓reduceIte,zA,zB,zp,zm,zy,if_pos])<;>rfl) ?_))|(guard_target =~ rg _ _ _ (⟨_,.binOp _ _ _ _ _,_,_,_,none⟩::_) _ _ _;first|(refine zfT rfl (by(try simp(disch:=omega)only[go_sem,seval,↓reduceIte,zA,zB,zp,zm,zy,if_pos])<;>rfl) ?_)|refine zlA rfl ?_|refine zrO rfl ?_)|(guard_target =~ rg _ _ _ (⟨_,.assign _,_,_,_,none⟩::_) _ _ _;first|(refine zvO rfl (by(try simp(disch:=omega)only[go_sem,seval,↓reduceIte,zA,zB,zp,zm,zy,if_pos])<;>rfl) ?_))|(guard_target =~ rg _ _ _ (⟨_,.load _ _,_,_,_,none⟩::_) _ _ _;first|(refine zfT rfl (by(try simp(disch:=omega)only[go_sem,seval,↓reduceIte,zA,zB,zp,zm,zy,if_pos])<;>rfl) ?_))|(guard_target =~ rg _ _ _ (⟨_,.fieldAddr _ _ _,_,_,_,none⟩::_) _ _ _;first|(refine zfT rfl (by(try simp(disch:=omega)only[go_sem,seval,↓reduceIte,zA,zB,zp,zm,zy,if_pos])<;>rfl) ?_))|(guard_target =~ rg _ _ _ (⟨_,.index _ _ _,_,_,_,none⟩::_) _ _ _;first|(refine zfT rfl (by(try simp(disch:=omega)only[go_sem,seval,↓reduceIte,zA,zB,zp,zm,zy,if_pos])<;>rfl) ?_))|(guard_target =~ rg _ _ _ (⟨_,.move _,_,_,_,some _⟩::_) _ _ _;first|(refine zhA rfl (by simp only[go_sem,seval,↓reduceIte,zA,zB,zp,zm,zy,if_pos]<;>rfl) (by first|(simp only[go_sem,seval,↓reduceIte,zA,zB,zp,zm,zy,if_pos];done)|(simp only[go_sem,seval,↓reduceIte,zA,zB,zp,zm,zy,if_pos];rfl)|rfl) (by(try simp(disch:=omega)only[go_sem,seval,↓reduceIte,zA,zB,zp,zm,zy,if_pos])<;>rfl) ?_))|(guard_target =~ rg _ _ _ (⟨_,.pick _ _ _,_,_,_,none⟩::_) _ _ _;first|(refine zfT rfl (by(try simp(disch:=omega)only[go_sem,seval,↓reduceIte,zA,zB,zp,zm,zy,if_pos])<;>rfl) ?_))|(guard_target =~ rg _ _ _ (⟨_,.binOp _ _ _ _ _,_,_,_,some _⟩::_) _ _ _;first|(refine zhA rfl (by simp only[go_sem,seval,↓reduceIte,zA,zB,zp,zm,zy,if_pos]<;>rfl) (by first|(simp only[go_sem,seval,↓reduceIte,zA,zB,zp,zm,zy,if_pos];done)|(simp only[go_sem,seval,↓reduceIte,zA,zB,zp,zm,zy,if_pos];rfl)|rfl) (by(try simp(disch:=omega)only[go_sem,seval,↓reduceIte,zA,zB,zp,zm,zy,if_pos])<;>rfl) ?_))|(guard_target =~ rg _ _ _ [] _ _ _;first|refine zfS ?_)|refine zlA rfl ?_|refine zrO rfl ?_)|(guard_target =~ SOp _ _ _ _ _ _;first|(guard_target =~ SOp _ _ ⟨_,.store _ _ _,_,_,_,none⟩ _ _ _;first|(refine zW rfl (by(try simp(disch:=omega)only[go_sem,seval,↓reduceIte,zA,zB,zp,zm,zy,if_pos])<;>rfl) (by(try simp(disch:=omega)only[go_sem,seval,↓reduceIte,zA,zB,zp,zm,zy,if_pos])<;>rfl) (by first|(simp(disch:=omega)only[go_sem,seval,↓reduceIte,zA,zB,zp,zm,zy,if_pos];done)|rfl) (by(try simp(disch:=omega)only[go_sem,seval,↓reduceIte,zA,zB,zp,zm,zy,if_pos])<;>rfl) (by(try simp(disch:=omega)only[go_sem,seval,↓reduceIte,zA,zB,zp,zm,zy,if_pos])<;>rfl) (by first|(simp(disch:=omega)only[go_sem,seval,↓reduceIte,zA,zB,zp,zm,zy,if_pos];done)|rfl) (by first|(simp(disch:=omega)only[go_sem,seval,↓reduceIte,zA,zB,zp,zm,zy,if_pos];done)|rfl) (by first|(simp(disch:=omega)only[go_sem,seval,↓reduceIte,zA,zB,zp,zm,zy,if_pos];done)|rfl) (by(try simp(disch:=omega)only[go_sem,seval,↓reduceIte,zA,zB,zp,zm,zy,if_pos])<;>rfl) (by(try simp(disch:=omega)only[go_sem,seval,↓reduceIte,zA,zB,zp,zm,zy,if_pos])<;>rfl) ?_))|(guard_target =~ SOp _ _ ⟨_,.call ⟨.value (.func 245),_,_⟩,_,_,_,none⟩ _ _ _;first|(refine zj (f:=245) rfl Tryz.call245 (by(try simp(disch:=omega)only[go_sem,seval,↓reduceIte,zA,zB,zp,zm,zy,if_pos])<;>rfl) (AEq.pure' agT zj9 (by first|(simp(disch:=omega)only[go_sem,seval,↓reduceIte,zA,zB,zp,zm,zy,if_pos];done)|rfl) (by(try simp(disch:=omega)only[go_sem,seval,↓reduceIte,zA,zB,zp,zm,zy,if_pos])<;>rfl) ?_)))|(guard_target =~ SOp _ _ ⟨_,.build _ _,_,_,_,none⟩ _ _ _;first|(refine vM rfl (by first|exact zby|exact zl9|exact zmb|exact zmd|fail) (by(try simp(disch:=omega)only[go_sem,seval,↓reduceIte,zA,zB,zp,zm,zy,if_pos])<;>rfl) (by(try simp(disch:=omega)only[go_sem,seval,↓reduceIte,zA,zB,zp,zm,zy,if_pos])<;>rfl) (by(try simp(disch:=omega)only[go_sem,seval,↓reduceIte,zA,zB,zp,zm,zy,if_pos])<;>rfl) (by first|(simp(disch:=omega)only[go_sem,seval,↓reduceIte,zA,zB,zp,zm,zy,if_pos];done)|rfl) ?_))|(guard_target =~ SOp _ _ ⟨_,.alloc _,_,_,_,none⟩ _ _ _;first|(refine zbw rfl (by first|exact zv3|exact zv4|exact zv9|exact ziQ|exact zl8|exact zma|exact zmc|fail) (by first|(simp(disch:=omega)only[go_sem,seval,↓reduceIte,zA,zB,zp,zm,zy,if_pos];done)|rfl) (by(try simp(disch:=omega)only[go_sem,seval,↓reduceIte,zA,zB,zp,zm,zy,if_pos])<;>rfl) (by(try simp(disch:=omega)only[go_sem,seval,↓reduceIte,zA,zB,zp,zm,zy,if_pos])<;>rfl) (by(try simp(disch:=omega)only[go_sem,seval,↓reduceIte,zA,zB,zp,zm,zy,if_pos])<;>rfl) ?_))|(guard_target =~ SOp _ _ ⟨_,.indexAddr _ _ _,_,_,_,none⟩ _ _ _;first|(refine zz rfl (by(try simp(disch:=omega)only[go_sem,seval,↓reduceIte,zA,zB,zp,zm,zy,if_pos])<;>rfl) (by first|(simp(disch:=omega)only[go_sem,seval,↓reduceIte,zA,zB,zp,zm,zy,if_pos];done)|rfl) (by(try simp(disch:=omega)only[go_sem,seval,↓reduceIte,zA,zB,zp,zm,zy,if_pos])<;>rfl) (by first|(simp(disch:=omega)only[go_sem,seval,↓reduceIte,zA,zB,zp,zm,zy,if_pos];done)|rfl) (by(try simp(disch:=omega)only[go_sem,seval,↓reduceIte,zA,zB,zp,zm,zy,if_pos])<;>rfl) lmT (by(try simp(disch:=omega)only[go_sem,seval,↓reduceIte,zA,zB,zp,zm,zy,if_pos])<;>rfl) lmT (by(try simp(disch:=omega)only[go_sem,seval,↓reduceIte,zA,zB,zp,zm,zy,if_pos])<;>rfl) (by simp(disch:=omega)only[zvT,go_sem,seval,↓reduceIte,zA,zB,zp,zm,zy,if_pos];rfl) ?_))|(guard_target =~ SOp _ _ ⟨_,.call ⟨.value (.func 246),_,_⟩,_,_,_,none⟩ _ _ _;first|(refine zj (f:=246) rfl Tryz.call246 (by(try simp(disch:=omega)only[go_sem,seval,↓reduceIte,zA,zB,zp,zm,zy,if_pos])<;>rfl) (AEq.pure' agT zmY (by first|(simp(disch:=omega)only[go_sem,seval,↓reduceIte,zA,zB,zp,zm,zy,if_pos];done)|rfl) (by(try simp(disch:=omega)only[go_sem,seval,↓reduceIte,zA,zB,zp,zm,zy,if_pos])<;>rfl) ?_))))|(guard_target =~ (_\/_)/\_;first|((refine zX [] exT (by rfl) (by rw[Tryz.results234];exact Lf.vF (by(try simp(disch:=omega)only[Lf.z3,go_sem,seval,↓reduceIte,zA,zB,zp,zm,zy,if_pos]);rfl) (by(try simp(disch:=omega)only[Lf.z3,go_sem,seval,↓reduceIte,zA,zB,zp,zm,zy,if_pos]);rfl)) (by(try simp(disch:=omega)only[go_sem,seval,↓reduceIte,zA,zB,zp,zm,zy,if_pos])<;>rfl) (by(try simp(disch:=omega)only[go_sem,seval,↓reduceIte,zA,zB,zp,zm,zy,if_pos])<;>rfl) (zF ?_ ?_) ?_)<;>(try(first|exact zu|exact stq (by with_reducible rfl)|exact stq (by rfl)|exact stq (by simp(disch:=omega)only[go_sem,seval,↓reduceIte,zA,zB,zp,zm,zy,if_pos])))))|refine hK _ _ ?_;clear hK K)
 ·exact yo (by simp only[zgJ];rw[zyq i (by omega) hcd])
 ·exact yo (by simp only[zgJ];rw[zuR i (by omega) hcd])
theorem zcG(i:Int)(h:i<1\/61<i): AEq Tryz.prog 234 [i64 i] [] (.tu [.ag (zgJ (⟨#[]⟩,⟨#[]⟩)),bl false]) []:=by
 refine enT Tryz.func234 Tryz.ntmps234 ?_
 repeat'(first|(guard_target =~ PWp _ _ _ _ _ _ _;first|refine zd fun K hK=>?_|refine jQ ?_|refine kb ?_|refine zcQ ?_|((refine zcR (by(try simp(disch:=omega)only[go_sem,seval,↓reduceIte,zA,zB,zp,zm,zy,if_pos])<;>rfl) (fun hcd=>?_) (fun hcd=>?_))<;>(try simp only[hcP]at hcd)<;>(try exact cdT)))|(guard_target =~ rg _ _ _ _ _ _ _;first|(guard_target =~ rg _ _ _ (⟨_,.move _,_,_,_,none⟩::_) _ _ _;first|(refine zfT rfl (by(try simp(disch:=omega)only[go_sem,seval,↓reduceIte,zA,zB,zp,zm,zy,if_pos])<;>rfl) ?_))|(guard_target =~ rg _ _ _ (⟨_,.binOp _ _ _ _ _,_,_,_,none⟩::_) _ _ _;first|(refine zfT rfl (by(try simp(disch:=omega)only[go_sem,seval,↓reduceIte,zA,zB,zp,zm,zy,if_pos])<;>rfl) ?_)|refine zlA rfl ?_|refine zrO rfl ?_)|(guard_target =~ rg _ _ _ (⟨_,.assign _,_,_,_,none⟩::_) _ _ _;first|(refine zvO rfl (by(try simp(disch:=omega)only[go_sem,seval,↓reduceIte,zA,zB,zp,zm,zy,if_pos])<;>rfl) ?_))|(guard_target =~ rg _ _ _ (⟨_,.load _ _,_,_,_,none⟩::_) _ _ _;first|(refine zfT rfl (by(try simp(disch:=omega)only[go_sem,seval,↓reduceIte,zA,zB,zp,zm,zy,if_pos])<;>rfl) ?_))|(guard_target =~ rg _ _ _ (⟨_,.fieldAddr _ _ _,_,_,_,none⟩::_) _ _ _;first|(refine zfT rfl (by(try simp(disch:=omega)only[go_sem,seval,↓reduceIte,zA,zB,zp,zm,zy,if_pos])<;>rfl) ?_))|(guard_target =~ rg _ _ _ (⟨_,.index _ _ _,_,_,_,none⟩::_) _ _ _;first|(refine zfT rfl (by(try simp(disch:=omega)only[go_sem,seval,↓reduceIte,zA,zB,zp,zm,zy,if_pos])<;>rfl) ?_))|(guard_target =~ rg _ _ _ (⟨_,.move _,_,_,_,some _⟩::_) _ _ _;first|(refine zhA rfl (by simp only[go_sem,seval,↓reduceIte,zA,zB,zp,zm,zy,if_pos]<;>rfl) (by first|(simp only[go_sem,seval,↓reduceIte,zA,zB,zp,zm,zy,if_pos];done)|(simp only[go_sem,seval,↓reduceIte,zA,zB,zp,zm,zy,if_pos];rfl)|rfl) (by(try simp(disch:=omega)only[go_sem,seval,↓reduceIte,zA,zB,zp,zm,zy,if_pos])<;>rfl) ?_))|(guard_target =~ rg _ _ _ (⟨_,.pick _ _ _,_,_,_,none⟩::_) _ _ _;first|(refine zfT rfl (by(try simp(disch:=omega)only[go_sem,seval,↓reduceIte,zA,zB,zp,zm,zy,if_pos])<;>rfl) ?_))|(guard_target =~ rg _ _ _ (⟨_,.binOp _ _ _ _ _,_,_,_,some _⟩::_) _ _ _;first|(refine zhA rfl (by simp only[go_sem,seval,↓reduceIte,zA,zB,zp,zm,zy,if_pos]<;>rfl) (by first|(simp only[go_sem,seval,↓reduceIte,zA,zB,zp,zm,zy,if_pos];done)|(simp only[go_sem,seval,↓reduceIte,zA,zB,zp,zm,zy,if_pos];rfl)|rfl) (by(try simp(disch:=omega)only[go_sem,seval,↓reduceIte,zA,zB,zp,zm,zy,if_pos])<;>rfl) ?_))|(guard_target =~ rg _ _ _ [] _ _ _;first|refine zfS ?_)|refine zlA rfl ?_|refine zrO rfl ?_)|(guard_target =~ SOp _ _ _ _ _ _;first|(guard_target =~ SOp _ _ ⟨_,.store _ _ _,_,_,_,none⟩ _ _ _;first|(refine zW rfl (by(try simp(disch:=omega)only[go_sem,seval,↓reduceIte,zA,zB,zp,zm,zy,if_pos])<;>rfl) (by(try simp(disch:=omega)only[go_sem,seval,↓reduceIte,zA,zB,zp,zm,zy,if_pos])<;>rfl) (by first|(simp(disch:=omega)only[go_sem,seval,↓reduceIte,zA,zB,zp,zm,zy,if_pos];done)|rfl) (by(try simp(disch:=omega)only[go_sem,seval,↓reduceIte,zA,zB,zp,zm,zy,if_pos])<;>rfl) (by(try simp(disch:=omega)only[go_sem,seval,↓reduceIte,zA,zB,zp,zm,zy,if_pos])<;>rfl) (by first|(simp(disch:=omega)only[go_sem,seval,↓reduceIte,zA,zB,zp,zm,zy,if_pos];done)|rfl) (by first|(simp(disch:=omega)only[go_sem,seval,↓reduceIte,zA,zB,zp,zm,zy,if_pos];done)|rfl) (by first|(simp(disch:=omega)only[go_sem,seval,↓reduceIte,zA,zB,zp,zm,zy,if_pos];done)|rfl) (by(try simp(disch:=omega)only[go_sem,seval,↓reduceIte,zA,zB,zp,zm,zy,if_pos])<;>rfl) (by(try simp(disch:=omega)only[go_sem,seval,↓reduceIte,zA,zB,zp,zm,zy,if_pos])<;>rfl) ?_))|(guard_target =~ SOp _ _ ⟨_,.build _ _,_,_,_,none⟩ _ _ _;first|(refine vM rfl (by first|exact zby|exact zl9|exact zmb|exact zmd|fail) (by(try simp(disch:=omega)only[go_sem,seval,↓reduceIte,zA,zB,zp,zm,zy,if_pos])<;>rfl) (by(try simp(disch:=omega)only[go_sem,seval,↓reduceIte,zA,zB,zp,zm,zy,if_pos])<;>rfl) (by(try simp(disch:=omega)only[go_sem,seval,↓reduceIte,zA,zB,zp,zm,zy,if_pos])<;>rfl) (by first|(simp(disch:=omega)only[go_sem,seval,↓reduceIte,zA,zB,zp,zm,zy,if_pos];done)|rfl) ?_))|(guard_target =~ SOp _ _ ⟨_,.alloc _,_,_,_,none⟩ _ _ _;first|(refine zbw rfl (by first|exact zv3|exact zv4|exact zv9|exact ziQ|exact zl8|exact zma|exact zmc|fail) (by first|(simp(disch:=omega)only[go_sem,seval,↓reduceIte,zA,zB,zp,zm,zy,if_pos];done)|rfl) (by(try simp(disch:=omega)only[go_sem,seval,↓reduceIte,zA,zB,zp,zm,zy,if_pos])<;>rfl) (by(try simp(disch:=omega)only[go_sem,seval,↓reduceIte,zA,zB,zp,zm,zy,if_pos])<;>rfl) (by(try simp(disch:=omega)only[go_sem,seval,↓reduceIte,zA,zB,zp,zm,zy,if_pos])<;>rfl) ?_)))|(guard_target =~ (_\/_)/\_;first|((refine zX [] exT (by rfl) (by rw[Tryz.results234];exact Lf.vF (by(try simp(disch:=omega)only[Lf.z3,go_sem,seval,↓reduceIte,zA,zB,zp,zm,zy,if_pos]);rfl) (by(try simp(disch:=omega)only[Lf.z3,go_sem,seval,↓reduceIte,zA,zB,zp,zm,zy,if_pos]);rfl)) (by(try simp(disch:=omega)only[go_sem,seval,↓reduceIte,zA,zB,zp,zm,zy,if_pos])<;>rfl) (by(try simp(disch:=omega)only[go_sem,seval,↓reduceIte,zA,zB,zp,zm,zy,if_pos])<;>rfl) (zF ?_ ?_) ?_)<;>(try(first|exact zu|exact stq (by with_reducible rfl)|exact stq (by rfl)|exact stq (by simp(disch:=omega)only[go_sem,seval,↓reduceIte,zA,zB,zp,zm,zy,if_pos])))))|refine hK _ _ ?_;clear hK K)
def vi(p:Int->Bool): Nat->Int
 | 0=>0
 | k+1=>if vi p k≠0 then vi p k else if p ((k:Int)+1)=true then(k:Int)+1 else 0
def IsFirst(p:Int->Bool)(r lo hi:Int): Prop:=(r=0/\∀i,lo<=i->i<=hi->p i=false)\/(lo<=r/\r<=hi/\p r=true/\∀i,lo<=i->i<r->p i=false)
theorem yL(p:Int->Bool): ∀k:Nat,IsFirst p (vi p k) 1 k
 | 0=>.inl ⟨rfl,fun i h1 h2=>by omega⟩
 | k+1=>by
  have ih:=yL p k
  unfold vi
  rcases ih with⟨h,hn⟩|⟨h1,h2,h3,h4⟩
  ·rw [if_neg (by simp [h])]
   by_cases hp:p ((k:Int)+1)=true
   ·rw[if_pos hp]
    exact .inr ⟨by omega,by omega,hp,fun i h1 h2=>hn i h1 (by omega)⟩
   ·rw[if_neg hp]
    refine .inl ⟨rfl,fun i h1 h2=>?_⟩
    by_cases hi:i=(k:Int)+1
    ·subst hi;simpa using hp
    ·exact hn i h1 (by omega)
  ·rw [if_pos (by omega)]
   exact .inr ⟨h1,by omega,h3,h4⟩
theorem IsFirst.uniq{p:Int->Bool}{r s hi:Int}(h:IsFirst p r 1 hi)(k:IsFirst p s 1 hi): r=s:=by
 rcases h with⟨h,hn⟩|⟨h1,h2,h3,h4⟩<;>rcases k with⟨k,kn⟩|⟨k1,k2,k3,k4⟩
 ·omega
 ·rw[hn s k1 k2]at k3;cases k3
 ·rw[kn r h1 h2]at h3;cases h3
 ·rcases Int.lt_trichotomy r s with c | c | c
  ·rw[k4 r h1 c]at h3;cases h3
  ·exact c
  ·rw[h4 s k1 c]at k3;cases k3
theorem IsFirst.up{p:Int->Bool}{r:Int}(h:IsFirst p r 1 61): r=vi p 61:=h.uniq (yL p 61)
def zhW(n:ByteArray)(i:Int): Bool:=decide ((v6 i).1=n)
def zaJ(n v:ByteArray)(i:Int): Bool:=decide ((v6 i).1=n/\(v6 i).2=v)
def zlq(n v:ByteArray): Bool:=decide (vi (zaJ n v) 61≠0)
def zdy(n v:ByteArray): Int:=if vi (zaJ n v) 61≠0 then vi (zaJ n v) 61 else vi (zhW n) 61
theorem zka{n v:ByteArray}{i:Int}(h1:1<=i/\i<=61)(h2:∀k,1<=k->k<i->zaJ n v k=false)(h3:zaJ n v i=true): zdy n v=i/\zlq n v=true:=by
 have:IsFirst (zaJ n v) i 1 61:=.inr ⟨h1.1,h1.2,h3,h2⟩
 have:=this.up
 simp only[zdy,zlq,<-this]
 rw[if_pos (by omega)]
 exact⟨rfl,by simp;omega⟩
theorem zmZ{n v:ByteArray}{r:Int}(h1:∀k,1<=k->k<=61->zaJ n v k=false)(h2:IsFirst (zhW n) r 1 61): zdy n v=r/\zlq n v=false:=by
 have h0:IsFirst (zaJ n v) 0 1 61:=.inl ⟨rfl,h1⟩
 have:=h0.up
 have h3:=h2.up
 simp only[zdy,zlq,<-this]
 simp[h3]
theorem zgM(n v:ByteArray): 0<=zdy n v/\zdy n v<=61:=by
 unfold zdy
 have a:=yL (zaJ n v) 61
 have b:=yL (zhW n) 61
 split
 ·rcases a with⟨a,_⟩|⟨a,a',_⟩<;>omega
 ·rcases b with⟨b,_⟩|⟨b,b',_⟩<;>omega
theorem IsFirst.not{p:Int->Bool}{r k:Int}(h:IsFirst p r 1 k)(hp:p (k+1)=false): IsFirst p r 1 (k+1):=by
 rcases h with⟨h,hn⟩|⟨h1,h2,h3,h4⟩
 ·refine .inl ⟨h, fun i a b => ?_⟩
  by_cases hi:i=k+1
  ·rw[hi];exact hp
  ·exact hn i a (by omega)
 ·exact .inr ⟨h1,by omega,h3,h4⟩
theorem IsFirst.old{p:Int->Bool}{r k:Int}(h:IsFirst p r 1 k)(hr:¬r=0): IsFirst p r 1 (k+1):=by
 rcases h with⟨h,hn⟩|⟨h1,h2,h3,h4⟩
 ·exact absurd h hr
 ·exact .inr ⟨h1,by omega,h3,h4⟩
theorem IsFirst.new{p:Int->Bool}{r k:Int}(h:IsFirst p r 1 k)(hk:0<=k)(hr:r=0)(hp:p (k+1)=true): IsFirst p (k+1) 1 (k+1):=by
 rcases h with⟨h,hn⟩|⟨h1,h2,h3,h4⟩
 ·exact .inr ⟨by omega,by omega,hp,fun i a b=>hn i a (by omega)⟩
 ·omega
theorem zfw(p:Int->Bool): IsFirst p 0 1 0:=.inl ⟨rfl,fun i a b=>by omega⟩
set_option maxRecDepth 20000 in
set_option maxHeartbeats 4000000 in
theorem zfx(n v:ByteArray): AEq Tryz.prog 225 [.lit (.string n),.lit (.string v)] [] (.tu [i64 (zdy n v),bl (zlq n v)]) []:=by
 refine enT Tryz.func225 Tryz.ntmps225 ?_
 have hU:=True.intro
 repeat'(first|refine goR ?_|refine zd fun K hK=>?_|refine hK _ _ ?_;clear hK K)
 refine vZ [4,5,6,7,8,9,10,11,12,13,14,15,16,17,18,19,20,21,22,23,24,25,26,27,28,29,30] [] (fun s:Int×Int=>[(7,i64 (s.1+1)),(6,i64 s.2)]) (fun _=>[]) (fun s=>0<=s.1/\s.1<=61/\(∀k,1<=k->k<=s.1->zaJ n v k=false)/\IsFirst (zhW n) s.2 1 s.1) (fun s=>(61-s.1).toNat) (0,0) (fun _=>rfl) rfl rfl ⟨by decide,by decide,fun k _ _=>by omega,zfw _⟩ ?_ rfl (by intro s i x h;simp only[List.mem_cons,Prod.mk.injEq,List.not_mem_nil,or_false]at h;rcases h with⟨rfl,_⟩|⟨rfl,_⟩<;>decide) ?_
 ·(refine⟨⟨_,sT,?_⟩,⟨_,sT,?_⟩,trivial⟩<;>(try exact zu))
 ·rintro⟨c,r⟩ ⟨h0,h1,hf,hr⟩
  dsimp only at h0 h1 hf hr
  simp only[yN,List.map_cons,List.map_nil,List.cons_append,List.nil_append]
  have ext:zaJ n v (c+1)=false->∀k,1<=k->k<=c+1->zaJ n v k=false:=by
   intro h k h1 h2
   by_cases hk:k=c+1
   ·rw[hk];exact h
   ·exact hf k h1 (by omega)
  by_cases hlt:c<61
  ·repeat' (first | (refine goR ?_) | (refine zd (fun K hK => ?_)) | ((refine zc (fun hcd => ?_) (fun hcd => ?_)) <;> (try simp only [hcP] at hcd) <;> (try exact cdT)) | (refine zj (f := 234) rfl Tryz.call234 (h := AEq.pure' (hc := zax _ (by omega)) (hq := ?_))) | ((refine zo [] (by rw [Tryz.results225, Lf.ym]) (zF ?_ ?_) ?_) <;> (try (first | exact zu | exact stT))) | (refine hK _ _ ?_; clear hK K) | (apply_assumption (exfalso := false) (symm := false)))
   ·refine ⟨(c + 1, r), ⟨by omega, by omega, ext (by simp [zaJ, hcd]), hr.not (by simp [zhW, hcd])⟩, by dsimp only; omega, ?_, arT, srT⟩
    (refine⟨⟨_,sT,?_⟩,⟨_,sT,?_⟩,trivial⟩<;>(try exact zu))
   ·rename_i ha _
    exact yo (by rw[(zka (i:=c+1) ⟨by omega,by omega⟩ (fun k h1 h2=>hf k h1 (by omega)) (by simp[zaJ, *])).1])
   ·exact yo (by rw[(zka (i:=c+1) ⟨by omega,by omega⟩ (fun k h1 h2=>hf k h1 (by omega)) (by simp[zaJ, *])).2])
   ·refine ⟨(c + 1, c + 1), ⟨by omega, by omega, ext (by simp [zaJ, *]), hr.new h0 hcd (by simp [zhW, *])⟩, by dsimp only; omega, ?_, arT, srT⟩
    (refine⟨⟨_,sT,?_⟩,⟨_,sT,?_⟩,trivial⟩<;>(try exact zu))
   ·refine ⟨(c + 1, r), ⟨by omega, by omega, ext (by simp [zaJ, *]), hr.old hcd⟩, by dsimp only; omega, ?_, arT, srT⟩
    (refine⟨⟨_,sT,?_⟩,⟨_,sT,?_⟩,trivial⟩<;>(try exact zu))
  ·obtain rfl : c = 61 := by omega
   have hm:=zmZ hf hr
   repeat'(first|refine goR ?_|refine zd fun K hK=>?_|refine zc ?_ ?_<;>intro hcd<;>(try simp only[hcP]at hcd)<;>try exact cdT|((refine zo [] (by rw[Tryz.results225,Lf.ym]) (zF ?_ ?_) ?_)<;>(try exact uT))|refine hK _ _ ?_;clear hK K|(apply_assumption (exfalso:=false) (symm:=false)))
   ·exact yo (by rw[hm.1])
   ·exact yo (by rw[hm.2])
end Go.Proofs.YtdalcgfnlbofdaaGreatDoor
