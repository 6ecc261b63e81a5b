import Derived.Test.YtdalcgfnlbofdaaGreatDoorZ07
set_option linter.unusedVariables false
set_option linter.unusedSimpArgs false
namespace Go.Proofs.YtdalcgfnlbofdaaGreatDoor
open Go Go.Lf Go.Proofs
attribute [local irreducible] Lf.rg Lf.ro Lf.PWp Lf.SOp Lf.ACall Lf.Scoped Lf.dg Lf.dw
set_option maxRecDepth 20000
set_option maxHeartbeats 4000000
theorem zgv(s:Bool)(l:List UInt8): (slP s l).length<=4*l.length+6:=by
 have h1:(slB s l).length<=4*l.length:=by
  cases s
  ·show l.length<=_;omega
  ·exact zjA l
 have h2:=yw (slF s) 7 ((slB s l).length:Int)
 unfold slP
 rw[List.length_append];omega
def rpB(k i:Int)(nm:List UInt8)(ns:Bool)(vl:List UInt8)(vs:Bool)(sz:Int): List UInt8:=
 vr (frI k) (biI k) (i+sz)++(if txB k=true then(if i=0 then slP ns nm else[])++slP vs vl else[])
theorem zut(sz:Int): rpB 5 0 [] false [] false sz=vr 32 5 sz:=by
 have e:rpB 5 0 [] false [] false sz=vr 32 5 (0+sz)++[]:=rfl
 rw[e,List.append_nil,Int.zero_add]
theorem zuu(i:Int): rpB 1 i [] false [] false 0=vr 128 7 i:=by
 have e:rpB 1 i [] false [] false 0=vr 128 7 (i+0)++[]:=rfl
 rw[e,List.append_nil,Int.add_zero]
theorem zgw{k:Int}(nm:List UInt8)(ns:Bool)(vl:List UInt8)(vs:Bool)(h:txB k=true): rpB k 0 nm ns vl vs 0=vr (frI k) (biI k) 0++slP ns nm++slP vs vl:=by
 unfold rpB
 rw[if_pos h,if_pos rfl,List.append_assoc,Int.add_zero]
theorem zgx{k i:Int}(vl:List UInt8)(vs:Bool)(h:txB k=true)(hi:¬i=0): rpB k i [] false vl vs 0=vr (frI k) (biI k) i++slP vs vl:=by
 unfold rpB
 rw[if_pos h,if_neg hi,List.nil_append,Int.add_zero]
theorem zmL: (128:Int) % pwI 7=0:=by decide
theorem zqk: (64:Int) % pwI 6=0:=by decide
theorem zuv: (0:Int) % pwI 4=0:=by decide
theorem zql: (16:Int) % pwI 4=0:=by decide
theorem zqm: (32:Int) % pwI 5=0:=by decide
theorem zyf{k i:Int}{nm:List UInt8}{ns:Bool}{vl:List UInt8}{vs:Bool}{sz:Int}(h:RP k i nm ns vl vs sz): rOk k i nm ns vl vs sz=true:=decide_eq_true h
theorem zgy{k i:Int}{nm:List UInt8}{ns:Bool}{vl:List UInt8}{vs:Bool}{sz:Int}(h:RP k i nm ns vl vs sz):
    (k=5/\i=0/\nm=[]/\ns=false/\vl=[]/\vs=false/\0<=sz/\sz<=2147483647)\/(k=1/\sz=0/\nm=[]/\ns=false/\vl=[]/\vs=false/\0<i/\i<=2147483647) \/
    ((k=2\/k=3\/k=4)/\sz=0/\i=0)\/((k=2\/k=3\/k=4)/\sz=0/\nm=[]/\ns=false/\0<i/\i<=2147483647):=by
  unfold RP at h
  obtain⟨⟨h1,h2⟩,⟨h3,h4⟩,⟨h5,h6⟩,h7⟩:=h
  rcases h7 with⟨a,b,⟨c,d⟩,e,f⟩|⟨a,b,c,⟨d,e⟩,f,g⟩|⟨a,b,c,d⟩
  · exact .inl ⟨a,b,c,d,e,f,h5,h6⟩
  · exact .inr (.inl ⟨a,b,d,e,f,g,c,h4⟩)
  · by_cases hi:i=0
    · exact .inr (.inr (.inl ⟨by omega,c,hi⟩))
    · rcases d with d | ⟨d,e⟩
      · exact absurd d hi
      · exact .inr (.inr (.inr ⟨by omega,c,d,e,by omega,h4⟩))
theorem ktx: txB 1=false/\txB 2=true/\txB 3=true/\txB 4=true/\txB 5=false:=by decide
theorem kf1: frI 1=128:=by decide
theorem kf2: frI 2=64:=by decide
theorem kf3: frI 3=0:=by decide
theorem kf4: frI 4=16:=by decide
theorem kf5: frI 5=32:=by decide
theorem kb1: biI 1=7:=by decide
theorem kb2: biI 2=6:=by decide
theorem kb3: biI 3=4:=by decide
theorem kb4: biI 4=4:=by decide
theorem kb5: biI 5=5:=by decide
attribute [local irreducible] vr slP rOk rpB frI biI txB pwI
theorem zjH(k i:Int)(nm:List UInt8)(ns:Bool)(vl:List UInt8)(vs:Bool)(sz:Int)(hnl:nm.length<=100000)(hvl:vl.length<=100000)(h:RP k i nm ns vl vs sz): AEq Tryz.prog 174 [.ag [i64 k,i64 i,.lit (.string ⟨nm.toArray⟩),bl ns,.lit (.string ⟨vl.toArray⟩),bl vs,i64 sz]] [] (.tu [.sl false false ((rpB k i nm ns vl vs sz).map zk),i64 0]) []:=by
 have hok:=zyf h
 have hz1:(0:Int)+sz=sz:=Int.zero_add sz
 have hz2:i+0=i:=Int.add_zero i
 have h71:=zmL
 have h72:=zqk
 have h73:=zuv
 have h74:=zql
 have h75:=zqm
 have hln:=zgv ns nm
 have hlv:=zgv vs vl
 rcases zgy h with⟨rfl,rfl,rfl,rfl,rfl,rfl,h5,h6⟩|⟨rfl,rfl,rfl,rfl,rfl,rfl,h5,h6⟩|⟨hk,rfl,rfl⟩|⟨hk,rfl,rfl,rfl,h5,h6⟩
 ·have ht:txB 5=false:=ktx.2.2.2.2
  have hf1:=kf5
  have hf2:=kb5
  have hpl:=yw 32 5 sz
  rw[zut]
  refine enT Tryz.func174 Tryz.ntmps174 ?_
  have hU:=And.intro @hok (@ht)
  exact wo
 ·have ht:txB 1=false:=ktx.1
  have hf1:=kf1
  have hf2:=kb1
  have hpl:=yw 128 7 i
  rw[zuu]
  refine enT Tryz.func174 Tryz.ntmps174 ?_
  have hU:=And.intro @hok (@ht)
  exact wo
 ·rcases hk with rfl | rfl | rfl
  ·have ht:txB 2=true:=ktx.2.1
   have hf1:=kf2
   have hf2:=kb2
   have hpl:=yw 64 6 0
   rw[zgw nm ns vl vs ht,List.map_append,List.map_append,hf1,hf2]
   refine enT Tryz.func174 Tryz.ntmps174 ?_
   have hU:=And.intro @hok (@ht)
   exact w7
  ·have ht:txB 3=true:=ktx.2.2.1
   have hf1:=kf3
   have hf2:=kb3
   have hpl:=yw 0 4 0
   rw[zgw nm ns vl vs ht,List.map_append,List.map_append,hf1,hf2]
   refine enT Tryz.func174 Tryz.ntmps174 ?_
   have hU:=And.intro @hok (@ht)
   exact w7
  ·have ht:txB 4=true:=ktx.2.2.2.1
   have hf1:=kf4
   have hf2:=kb4
   have hpl:=yw 16 4 0
   rw[zgw nm ns vl vs ht,List.map_append,List.map_append,hf1,hf2]
   refine enT Tryz.func174 Tryz.ntmps174 ?_
   have hU:=And.intro @hok (@ht)
   exact w7
 ·rcases hk with rfl | rfl | rfl
  ·have ht:txB 2=true:=ktx.2.1
   have hf1:=kf2
   have hf2:=kb2
   have hpl:=yw 64 6 i
   rw[zgx vl vs ht (by omega),List.map_append,hf1,hf2]
   refine enT Tryz.func174 Tryz.ntmps174 ?_
   have hU:=And.intro @hok (@ht)
   exact w7
  ·have ht:txB 3=true:=ktx.2.2.1
   have hf1:=kf3
   have hf2:=kb3
   have hpl:=yw 0 4 i
   rw[zgx vl vs ht (by omega),List.map_append,hf1,hf2]
   refine enT Tryz.func174 Tryz.ntmps174 ?_
   have hU:=And.intro @hok (@ht)
   exact w7
  ·have ht:txB 4=true:=ktx.2.2.2.1
   have hf1:=kf4
   have hf2:=kb4
   have hpl:=yw 16 4 i
   rw[zgx vl vs ht (by omega),List.map_append,hf1,hf2]
   refine enT Tryz.func174 Tryz.ntmps174 ?_
   have hU:=And.intro @hok (@ht)
   exact w7
end Go.Proofs.YtdalcgfnlbofdaaGreatDoor
