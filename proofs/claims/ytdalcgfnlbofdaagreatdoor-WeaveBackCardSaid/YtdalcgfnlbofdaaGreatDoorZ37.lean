import Derived.Test.YtdalcgfnlbofdaaGreatDoorZ36
set_option linter.unusedVariables false
set_option linter.unusedSimpArgs false
namespace Go.Proofs.YtdalcgfnlbofdaaGreatDoor
open Go Go.Lf Go.Proofs
attribute [local irreducible] Lf.rg Lf.ro Lf.PWp Lf.SOp Lf.ACall Lf.Scoped Lf.dg Lf.dw
set_option maxRecDepth 20000
set_option maxHeartbeats 4000000
def rqF(x:Fr): Rq:=⟨x.w,x.t,x.g,x.s,x.r,x.b⟩
def rwF(w:Int)(f:Gm): Fr:=⟨false,w,f.t,f.g,f.s,false,wrB f.t f.g f.p f.d f.st f.wt f.pa f.al f.pr f.la f.co f.sp⟩
theorem zvq(o:List Fr)(w:Int)(t g s p:Int)(d:List UInt8)(e:List (Int×Int))(wt pa:Int)(al:Bool)(pr la co sp:Int): List.map frA o++[[i64 w,i64 t,i64 g,i64 s,bl false,.sl false false ((wrB t g p d e wt pa al pr la co sp).map zk)]]=List.map frA (o++[rwF w ⟨t,g,s,p,d,e,wt,pa,al,pr,la,co,sp⟩]):=by rw[List.map_append];rfl
noncomputable def emP (w:Int):List Gm->List Gm×Bool
 | []=>([],true)
 | f::l=>open Classical in if emG w f then(f::(emP w l).1,(emP w l).2)else([],false)
theorem zfL{w:Int}{f:Gm}{l:List Gm}(h:emG w f): emP w (f::l)=(f::(emP w l).1,(emP w l).2):=by rw[emP,if_pos h]
theorem zk6{w:Int}{f:Gm}{l:List Gm}(h:¬emG w f): emP w (f::l)=([],false):=by rw[emP,if_neg h]
theorem zrs{w:Int}: ∀{l:List Gm},(∀f∈l,emG w f)->emP w l=(l,true)
 | [],_=>rfl
 | f::l,h=>by rw[zfL (h f List.mem_cons_self),zrs (fun y hy=>h y (List.mem_cons_of_mem _ hy))]
theorem zoH{w:Int}: ∀{l:List Gm},(emP w l).2=true->∀f∈l,emG w f
 | [],_,f,hf=>by simp at hf
 | g::l,h,f,hf=>by
  by_cases hg:emG w g
  ·rw[zfL hg]at h
   rcases List.mem_cons.1 hf with rfl|hf
   ·exact hg
   ·exact zoH h f hf
  ·rw[zk6 hg]at h;simp at h
theorem zaN(w:Int)(n:Nat)(o:List Fr)(us:Nat)(uxs:List Fl)(um:Int)(vs:Nat)(vxs:List Fl)(vm:Int)(t g s p:Int)(fd:Bool)(d:List UInt8)(fs:Bool)(e:List (Int×Int))(wt pa:Int)(al:Bool)(pr la co sp:Int)(hd:d.length<=900000)(hl:e.length<=10000)(hg1:g<=9223372036854775807)(hno:o.length<=1000000)(hem:zkG w t g s p d e wt pa al pr la co sp): AEq Tryz.prog 120 [.ptr 0 0,.ag [i64 t,i64 g,i64 s,i64 p,.sl fd false (d.map zk),.sl fs false (e.map z7),i64 wt,i64 pa,bl al,i64 pr,i64 la,i64 co,i64 sp],i64 w] [.box [.ptr 1 0,.ptr 4 0,.row 7 (n)],.box [.ptr 2 0],.box [.row 3 (us),i64 (zC uxs),i64 um],.row (us) 103 3 (uxs.map flA),.box [.ptr 5 0],.box [.row 6 (vs),i64 (zC vxs),i64 vm],.row (vs) 103 3 (vxs.map flA),.row (n) 45 6 ((o).map frA)] (bl true) [.box [.ptr 1 0,.ptr 4 0,.row 7 (n+1)],.box [.ptr 2 0],.box [.row 3 (us),i64 (zC uxs),i64 um],.row (us) 103 3 (uxs.map flA),.box [.ptr 5 0],.box [.row 6 (vs),i64 (zC vxs),i64 vm],.row (vs) 103 3 (vxs.map flA),.row (n+1) 45 6 ((o++[rwF w ⟨t,g,s,p,d,e,wt,pa,al,pr,la,co,sp⟩]).map frA)]:=by
 have hjn:=zvq o w t g s p d e wt pa al pr la co sp
 refine enT Tryz.func120 Tryz.ntmps120 ?_
 have hU:=And.intro @hjn ( And.intro @beqN ( And.intro @eocI (@eocB)))
 repeat'(first|refine goR ?_|(guard_target =~ PWp _ _ _ _ _ _ _;refine zv (id:=4) [1,2,3,4,5,6,7,0,8,9,10] [7,10] mixed (by kernel_rfl) (by kernel_rfl) ?_)|refine zd fun K hK=>?_|refine zc ?_ ?_<;>intro hcd<;>(try simp only[hcP]at hcd)<;>try exact cdT|(refine zj (f:=38) rfl Tryz.call38 (h:=AEq.pure' agT (zoy _ _ _ _ _ _ _ _ _ _ _ _ _ _ _ _ (by assumption) (by assumption) (by assumption) (by assumption)) (hq:=?_)))|((refine zo [0,1,2,3,4,5,6,7] (by rw[Tryz.results120,Lf.zI]) (zw ?_) ?_)<;>(try exact uT))|(guard_target =~ dw _ _ _ _ _ _ _ _ _ _;first|(guard_target =~ dw _ _ _ _ _ (6::_) _ _ _ _;(refine vp rfl rfl (h:=(fun τ=>zH (h:=ks rfl (he:=eoT) (hK:=zl ⟨rfl,rfl⟩)))) (hk:=?_)))|(guard_target =~ dw _ _ _ _ _ (7::_) _ _ _ _;(refine yn rfl rfl (h:=zH (h:=zM rfl (he:=eoT) (hK:=zl ⟨rfl,rfl⟩))) (hk:=?_)))|(guard_target =~ dw _ _ _ _ _ (10::_) _ _ _ _;(refine vg rfl rfl (h:=zaj (h:=zW rfl (hK:=zl ⟨rfl,rfl⟩))) (hk:=?_))))|refine hK _ _ ?_;clear hK K)
theorem zcM(w:Int)(n:Nat)(o:List Fr)(us:Nat)(uxs:List Fl)(um:Int)(vs:Nat)(vxs:List Fl)(vm:Int)(t g s p:Int)(fd:Bool)(d:List UInt8)(fs:Bool)(e:List (Int×Int))(wt pa:Int)(al:Bool)(pr la co sp:Int)(hd:d.length<=900000)(hl:e.length<=10000)(hg1:g<=9223372036854775807)(hno:o.length<=1000000)(hem:¬zkG w t g s p d e wt pa al pr la co sp): AEq Tryz.prog 120 [.ptr 0 0,.ag [i64 t,i64 g,i64 s,i64 p,.sl fd false (d.map zk),.sl fs false (e.map z7),i64 wt,i64 pa,bl al,i64 pr,i64 la,i64 co,i64 sp],i64 w] [.box [.ptr 1 0,.ptr 4 0,.row 7 (n)],.box [.ptr 2 0],.box [.row 3 (us),i64 (zC uxs),i64 um],.row (us) 103 3 (uxs.map flA),.box [.ptr 5 0],.box [.row 6 (vs),i64 (zC vxs),i64 vm],.row (vs) 103 3 (vxs.map flA),.row (n) 45 6 ((o).map frA)] (bl false) [.box [.ptr 1 0,.ptr 4 0,.row 7 (n)],.box [.ptr 2 0],.box [.row 3 (us),i64 (zC uxs),i64 um],.row (us) 103 3 (uxs.map flA),.box [.ptr 5 0],.box [.row 6 (vs),i64 (zC vxs),i64 vm],.row (vs) 103 3 (vxs.map flA),.row (n) 45 6 ((o).map frA)]:=by
 refine enT Tryz.func120 Tryz.ntmps120 ?_
 have hU:=And.intro @beqN ( And.intro @eocI (@eocB))
 repeat'(first|refine goR ?_|refine zd fun K hK=>?_|refine zc ?_ ?_<;>intro hcd<;>(try simp only[hcP]at hcd)<;>try exact cdT|(refine zj (f:=38) rfl Tryz.call38 (h:=AEq.pure' agT (zoz _ _ _ _ _ _ _ _ _ _ _ _ _ _ _ _ (by assumption) (by assumption) (by assumption) (by assumption)) (hq:=?_)))|((refine zo [0,1,2,3,4,5,6,7] (by rw[Tryz.results120,Lf.zI]) (zw ?_) ?_)<;>(try exact uT))|refine hK _ _ ?_;clear hK K)
end Go.Proofs.YtdalcgfnlbofdaaGreatDoor
